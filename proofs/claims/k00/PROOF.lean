import PyProof.Rows.All
import Wide.All
import OpenK.AllK
import Wide.FinOn
import HandS.ForMost
import HandS.Evl
import HandS.IsInst
import PyProof.EqKinds
import HandS.Conv
import HandS.Walk
import HandS.Zip
import HandS.NestedK
import HandS.ExcInit
import HandS.Star
import KE.KExcSuper
import KE.KSuper
import HandS.ExcIs
import HandS.ExcField
import HandS.Defaults
import HandS.HeadHook1
import HandS.HeadHook2
import HandS.HeadEnd
import KE.KTypeName
import HandS.OwnEq
import HandS.SlotsOwn
import HandS.Small
import HandS.MakeKwOnly
import KE.DataFind
import HandS.Style
import PyProof.ReprLen
import PyProof.ReprText
import KE.KStateDown
import HandS.More
import HandS.Exc
import HandS.Head0
import HandS.Head1
import HandS.Head2
import PySem.Challenge.RW_leastcrowd_k00_errors_and_papers
set_option Elab.async false
set_option linter.all false
set_option maxRecDepth 100000
set_option maxHeartbeats 4000000
/-! Cw1: data of any depth in the abstract heap (Rp), what is kept of them, how the machine's heap bears them. -/
namespace Cw
open PySem PySem.Spec PyProof.Rows L2

/-- the abstract heap knows all that another one knows -/
abbrev Ex (H H' : Hp) : Prop := Evl.Ex H H'

def keyD : Key → PyData
  | .inl i => .int i
  | .inr x => .str x

mutual
/-- a value bears a datum, over the abstract heap -/
inductive Rp (K : PySem.W.Frag) (H : Hp) : V → PyData → Prop
  | non : Rp K H .non .none
  | bl (b : Bool) : Rp K H (.bl b) (.bool b)
  | int (i : Int) : Rp K H (.int i) (.int i)
  | str (x : Str) : Rp K H (.str x) (.str x)
  | lst {a : Addr} {xs : List V} {ds : List PyData} : SqL K H a xs → RpA K H xs ds → Rp K H (.ref a) (.list ds)
  | tup {a : Addr} {xs : List V} {ds : List PyData} : SqT K H a xs → RpA K H xs ds → Rp K H (.ref a) (.tuple ds)
  | dic {a : Addr} {kvs : List (Key × V)} {ds : List (PyData × PyData)} : Rd H a (.dK kvs) → RpK K H kvs ds → Rp K H (.ref a) (.dict ds)
inductive RpA (K : PySem.W.Frag) (H : Hp) : List V → List PyData → Prop
  | nil : RpA K H [] []
  | cons {v : V} {vs : List V} {d : PyData} {ds : List PyData} : Rp K H v d → RpA K H vs ds → RpA K H (v :: vs) (d :: ds)
inductive RpK (K : PySem.W.Frag) (H : Hp) : List (Key × V) → List (PyData × PyData) → Prop
  | nil : RpK K H [] []
  | cons {k : Key} {v : V} {vs : List (Key × V)} {d : PyData} {ds : List (PyData × PyData)} : Rp K H v d → RpK K H vs ds → RpK K H ((k, v) :: vs) ((keyD k, d) :: ds)
end

section
variable {K : PySem.W.Frag} {H H' : Hp}
mutual
theorem Rp.mono (e : Ex H H') : ∀ {v : V} {d : PyData}, Rp K H v d → Rp K H' v d
  | _, _, .non => .non
  | _, _, .bl b => .bl b
  | _, _, .int i => .int i
  | _, _, .str x => .str x
  | _, _, .lst h t => .lst (Evl.ex_l e h) (RpA.mono e t)
  | _, _, .tup h t => .tup (Evl.ex_t e h) (RpA.mono e t)
  | _, _, .dic h t => .dic (Evl.ex_rd e h) (RpK.mono e t)
theorem RpA.mono (e : Ex H H') : ∀ {vs : List V} {ds : List PyData}, RpA K H vs ds → RpA K H' vs ds
  | _, _, .nil => .nil
  | _, _, .cons h t => .cons (Rp.mono e h) (RpA.mono e t)
theorem RpK.mono (e : Ex H H') : ∀ {vs : List (Key × V)} {ds : List (PyData × PyData)}, RpK K H vs ds → RpK K H' vs ds
  | _, _, .nil => .nil
  | _, _, .cons h t => .cons (Rp.mono e h) (RpK.mono e t)
end
theorem RpA.length : ∀ {vs : List V} {ds : List PyData}, RpA K H vs ds → vs.length = ds.length
  | _, _, .nil => rfl
  | _, _, .cons _ t => congrArg Nat.succ (RpA.length t)
theorem RpA.get : ∀ {vs : List V} {ds : List PyData} {i : Nat} {v : V}, RpA K H vs ds → vs[i]? = some v → ∃ d, ds[i]? = some d ∧ Rp K H v d
  | _, _, _, _, .nil, e => by simp at e
  | _, _, 0, _, .cons h _, e => by
    simp at e
    subst e
    exact ⟨_, rfl, h⟩
  | _, _, i + 1, v, .cons _ t, e => by
    obtain ⟨d, h1, h2⟩ := RpA.get (i := i) (v := v) t (by simpa using e)
    exact ⟨d, by simpa using h1, h2⟩
theorem RpA.getD : ∀ {vs : List V} {ds : List PyData} {i : Nat} {d : PyData}, RpA K H vs ds → ds[i]? = some d → ∃ v, vs[i]? = some v ∧ Rp K H v d
  | _, _, _, _, .nil, e => by simp at e
  | _, _, 0, _, .cons h _, e => by
    simp at e
    subst e
    exact ⟨_, rfl, h⟩
  | _, _, i + 1, d, .cons _ t, e => by
    obtain ⟨v, h1, h2⟩ := RpA.getD (i := i) (d := d) t (by simpa using e)
    exact ⟨v, by simpa using h1, h2⟩
theorem RpA.append : ∀ {vs ws : List V} {ds es : List PyData}, RpA K H vs ds → RpA K H ws es → RpA K H (vs ++ ws) (ds ++ es)
  | _, _, _, _, .nil, t => t
  | _, _, _, _, .cons h s, t => .cons h (RpA.append s t)
theorem RpA.one {v : V} {d : PyData} (h : Rp K H v d) : RpA K H [v] [d] := .cons h .nil
theorem RpA.snoc {vs : List V} {ds : List PyData} {v : V} {d : PyData} (t : RpA K H vs ds) (h : Rp K H v d) : RpA K H (vs ++ [v]) (ds ++ [d]) := t.append (.one h)
end

/-! ### what the machine's heap bears -/
section
variable {X : Cx} {pins : List (Addr × Obj)} {σ : L2.St} {H : Hp} {s : Shared}
theorem pairs_reads {P : Program} {w : World} : ∀ {es : List DictEntry} {vs : List (Key × Value)} {kvs : List (Key × V)}, Pairs (mixKind P w) es vs → KV kvs vs →
    (∃ as, ReadsAll s.heap (es.map (·.key)) (kvs.map fun p => keyD p.1) as ∧ as = []) ∧ Vals (kvs.map (·.2)) (es.map (·.val))
  | [], [], [], .nil, .nil => ⟨⟨[], .nil, rfl⟩, .nil⟩
  | e :: es, (k, u) :: vs, (k', v) :: kvs, .cons h1 h2 t, .cons r q => by
    obtain ⟨r1, r2⟩ := r
    obtain ⟨⟨as, q1, rfl⟩, q2⟩ := pairs_reads t q
    have r1 : k' = k := r1
    have r2 : RelV v u := r2
    have h2 : e.val = u := h2
    subst r1 h2
    refine ⟨⟨[], ?_, rfl⟩, .cons r2 q2⟩
    have hk : keyIs k' e.key = true := h1
    rcases keyIs_shape hk with ⟨i, t, rfl, ek⟩ | ⟨x, t, rfl, ek⟩
    · show ReadsAll s.heap (e.key :: es.map (·.key)) (.int i :: _) ([] ++ [])
      rw [ek]
      exact .cons (.int i t) q1
    · show ReadsAll s.heap (e.key :: es.map (·.key)) (.str x :: _) ([] ++ [])
      rw [ek]
      exact .cons (.str x t) q1
theorem RpK.keys {K : PySem.W.Frag} : ∀ {kvs : List (Key × V)} {ds : List (PyData × PyData)}, RpK K H kvs ds → ds.map (·.1) = kvs.map fun p => keyD p.1
  | _, _, .nil => rfl
  | _, _, .cons _ t => by
    show _ :: _ = _ :: _
    rw [RpK.keys t]
theorem RpK.vals {K : PySem.W.Frag} : ∀ {kvs : List (Key × V)} {ds : List (PyData × PyData)}, RpK K H kvs ds → RpA K H (kvs.map (·.2)) (ds.map (·.2))
  | _, _, .nil => .nil
  | _, _, .cons h t => .cons h (RpK.vals t)
/-- the place of sys.modules holds a dict: no list stands there -/
def SmOk (K : PySem.W.Frag) : Prop := ∃ o, K.lookup sysModules = some o ∧ o.cls = .type "dict"
theorem smOk_list {o : Obj} {a : Addr} (hs : SmOk X.K) (I : Inv X pins σ H s) (e : s.heap.get? a = some o) (c : o.cls = .type "list") : a ≠ sysModules := fun z => by
  obtain ⟨o', k, c'⟩ := hs
  have q := I.kIn _ _ k
  rw [z, q] at e
  cases e
  rw [c] at c'
  exact absurd (Value.type.inj c') (by decide)
mutual
theorem Rp.reads (hs : SmOk X.K) (I : Inv X pins σ H s) : ∀ {v : V} {d : PyData} {u : Value}, Rp X.K H v d → RelV v u → ∃ as, Reads s.heap u d as ∧ sysModules ∉ as
  | _, _, u, .non, r => by
    obtain rfl : u = Value.none := r
    exact ⟨[], .none, fun z => nomatch z⟩
  | _, _, u, .bl b, r => by
    obtain rfl : u = Value.bool b := r
    exact ⟨[], .bool b, fun z => nomatch z⟩
  | _, _, u, .int i, r => by
    obtain ⟨t, rfl⟩ : ∃ t, u = Value.int i t := r
    exact ⟨[], .int i t, fun z => nomatch z⟩
  | _, _, u, .str x, r => by
    obtain ⟨t, rfl⟩ : ∃ t, u = Value.str x t := r
    exact ⟨[], .str x t, fun z => nomatch z⟩
  | _, _, u, @Rp.lst _ _ a xs ds h t, r => by
    obtain rfl : u = Value.ref a := r
    obtain ⟨its, rv, ⟨o, n, e, c, _, dt⟩, _⟩ := I.list h
    obtain ⟨as, q, hn⟩ := RpA.reads hs I t rv
    refine ⟨a :: as, .list e c dt (by simpa using q), fun z => ?_⟩
    rcases List.mem_cons.mp z with z | z
    · exact smOk_list hs I e c z.symm
    · exact hn z
  | _, _, u, @Rp.tup _ _ a xs ds h t, r => by
    obtain rfl : u = Value.ref a := r
    obtain ⟨its, rv, ⟨o, e, c, n, dt⟩, _⟩ := I.tuple h
    obtain ⟨as, q, hn⟩ := RpA.reads hs I t rv
    exact ⟨as, .tuple e c dt (by simpa using q), hn⟩
  | _, _, u, @Rp.dic _ _ a kvs ds h t, r => by
    obtain rfl : u = Value.ref a := r
    obtain ⟨_, hsm, vs, kv, o, es, ep, e, ex, dt, _, pr, _⟩ := dk_rd I.hok h
    obtain ⟨⟨as, q1, rfl⟩, q2⟩ := pairs_reads (s := s) pr kv
    obtain ⟨bs, q3, hn⟩ := RpK.reads hs I t q2
    refine ⟨a :: [] ++ bs, .dict e ex.1 dt (by rw [t.keys]; exact q1) q3, fun z => ?_⟩
    rcases List.mem_cons.mp z with z | z
    · rw [← z] at hsm
      simp at hsm
    · exact hn z
theorem RpA.reads (hs : SmOk X.K) (I : Inv X pins σ H s) : ∀ {vs : List V} {ds : List PyData} {us : List Value}, RpA X.K H vs ds → Vals vs us → ∃ as, ReadsAll s.heap us ds as ∧ sysModules ∉ as
  | _, _, _, .nil, .nil => ⟨[], .nil, fun z => nomatch z⟩
  | _, _, _, .cons h t, .cons r q => by
    obtain ⟨as, h1, n1⟩ := Rp.reads hs I h r
    obtain ⟨bs, h2, n2⟩ := RpA.reads hs I t q
    exact ⟨as ++ bs, .cons h1 h2, fun z => (List.mem_append.mp z).elim n1 n2⟩
theorem RpK.reads (hs : SmOk X.K) (I : Inv X pins σ H s) : ∀ {kvs : List (Key × V)} {ds : List (PyData × PyData)} {us : List Value}, RpK X.K H kvs ds → Vals (kvs.map (·.2)) us → ∃ as, ReadsAll s.heap us (ds.map (·.2)) as ∧ sysModules ∉ as
  | _, _, _, .nil, .nil => ⟨[], .nil, fun z => nomatch z⟩
  | _, _, _, .cons h t, .cons r q => by
    obtain ⟨as, h1, n1⟩ := Rp.reads hs I h r
    obtain ⟨bs, h2, n2⟩ := RpK.reads hs I t q
    exact ⟨as ++ bs, .cons h1 h2, fun z => (List.mem_append.mp z).elim n1 n2⟩
end
end
end Cw

set_option Elab.async false
set_option linter.all false
set_option maxRecDepth 100000
set_option maxHeartbeats 4000000
/-! Cw2: the pen that draws (data, mathematics, promises); nothing of a text. -/
namespace Cw
open PySem PySem.Spec PyProof.Rows L2

/-- all but what stands at p is kept -/
def Kp (p : Addr) (H H' : Hp) : Prop := ∀ a o, a ≠ p → H a = some o → H' a = some o
theorem Kp.refl (p : Addr) (H : Hp) : Kp p H H := fun _ _ _ h => h
theorem Kp.trans {p : Addr} {H H1 H2 : Hp} (a : Kp p H H1) (b : Kp p H1 H2) : Kp p H H2 := fun c o n h => b c o n (a c o n h)
theorem Kp.at {p : Addr} {H : Hp} (o : HO) : Kp p H (upd H p o) := fun a u n h => by rw [upd_ne n]; exact h
theorem Kp.new {p q : Addr} {H : Hp} {o : HO} (h : H q = none) : Kp p H (upd H q o) := fun a u _ ha => by rw [upd_ne (ne_of_none ha h)]; exact ha
theorem Kp.of {p : Addr} {H H' : Hp} (e : Ex H H') : Kp p H H' := fun a o _ h => e a o h
/-- the heap without what stands at p -/
def off (p : Addr) (H : Hp) : Hp := fun a => if a = p then none else H a
theorem off_ne {p a : Addr} {H : Hp} (h : a ≠ p) : off p H a = H a := by unfold off; rw [if_neg h]
theorem off_at {p : Addr} {H : Hp} : off p H p = none := by unfold off; rw [if_pos rfl]
theorem off_some {p a : Addr} {H : Hp} {o : HO} (h : off p H a = some o) : a ≠ p ∧ H a = some o := by
  unfold off at h
  by_cases e : a = p
  · rw [if_pos e] at h; cases h
  · rw [if_neg e] at h; exact ⟨e, h⟩
theorem off_ex (p : Addr) (H : Hp) : Ex (off p H) H := fun a o h => (off_some h).2
theorem Kp.off {p : Addr} {H H' : Hp} (k : Kp p H H') : Ex (off p H) (off p H') := fun a o h => by
  obtain ⟨n, h⟩ := off_some h
  rw [off_ne n]
  exact k a o n h
theorem off_new {p q : Addr} {H : Hp} {o : HO} (hp : H q = none) (n : q ≠ p) : Ex (off p H) (off p (upd H q o)) := (Kp.new (p := p) hp).off

/-- a pen at p, that began at most n cells so far -/
def PenAt (H : Hp) (p c : Addr) (n : Nat) : Prop := ∃ (cells : List Int) (lap left : Int), H p = some (.lst [.ref c, .int lap, .int left]) ∧ H c = some (.lst (cells.map V.int)) ∧ c ≠ p ∧ cells.length ≤ 63 ∧ 0 ≤ lap ∧ lap ≤ n ∧ 0 ≤ left
theorem PenAt.more {H : Hp} {p c : Addr} {n m : Nat} (h : PenAt H p c n) (l : n ≤ m) : PenAt H p c m := by
  obtain ⟨cells, lap, left, h1, h2, h3, h4, h5, h6, h7⟩ := h
  exact ⟨cells, lap, left, h1, h2, h3, h4, h5, Int.le_trans h6 (Int.ofNat_le.mpr l), h7⟩
theorem PenAt.ex {H H' : Hp} {p c : Addr} {n : Nat} (h : PenAt H p c n) (e : Ex H H') : PenAt H' p c n := by
  obtain ⟨cells, lap, left, h1, h2, h⟩ := h
  exact ⟨cells, lap, left, e _ _ h1, e _ _ h2, h⟩
theorem PenAt.ne {H : Hp} {p c q : Addr} {n : Nat} (h : PenAt H p c n) (e : H q = none) : q ≠ p := by
  obtain ⟨cells, lap, left, h1, _⟩ := h
  exact (ne_of_none h1 e).symm
/-- what stands elsewhere may change -/
theorem PenAt.put {H : Hp} {p c q : Addr} {n : Nat} {o : HO} (h : PenAt H p c n) (h1 : q ≠ p) (h2 : q ≠ c) : PenAt (upd H q o) p c n := by
  obtain ⟨cells, lap, left, e1, e2, h⟩ := h
  exact ⟨cells, lap, left, by rw [upd_ne (Ne.symm h1)]; exact e1, by rw [upd_ne (Ne.symm h2)]; exact e2, h⟩
theorem PenAt.neC {H : Hp} {p c q : Addr} {n : Nat} (h : PenAt H p c n) (e : H q = none) : q ≠ c := by
  obtain ⟨cells, lap, left, _, h1, _⟩ := h
  exact (ne_of_none h1 e).symm

/-! ### remainders and quotients -/
theorem fmod_rng {i j : Int} (h : 0 < j) : 0 ≤ i.fmod j ∧ i.fmod j < j := ⟨Int.fmod_nonneg_of_pos i h, Int.fmod_lt_of_pos i h⟩
theorem fdiv_nn {i j : Int} (h : 0 ≤ i) (hj : 0 < j) : 0 ≤ i.fdiv j := by
  rw [Int.fdiv_eq_ediv_of_nonneg i (Int.le_of_lt hj)]
  exact Int.ediv_nonneg h (Int.le_of_lt hj)

theorem mix_small {r lap : Int} (h1 : 0 ≤ r) (h2 : r < 2147483549) (h3 : 0 ≤ lap) (h4 : lap ≤ 100000) : (r + 7919 * lap + 41143).natAbs < 2 ^ 64 := by omega
theorem mix_small2 {m lap : Int} (h1 : 0 ≤ m) (h2 : m < 2147483629) (h3 : 0 ≤ lap) (h4 : lap ≤ 100000) : (m * (2 * lap + 25237) + 7919 * lap * lap + 41143).natAbs < 2 ^ 64 := by
  have a1 : 0 ≤ m * (2 * lap + 25237) := Int.mul_nonneg h1 (by omega)
  have a2 : m * (2 * lap + 25237) ≤ 2147483629 * 225237 := Int.mul_le_mul (by omega) (by omega) (by omega) (by omega)
  have b1 : 0 ≤ 7919 * lap * lap := Int.mul_nonneg (by omega) h3
  have b2 : 7919 * lap * lap ≤ (7919 * 100000) * 100000 := Int.mul_le_mul (by omega) h4 h3 (by omega)
  generalize m * (2 * lap + 25237) = a at *
  generalize 7919 * lap * lap = b at *
  omega

/-! ### lists of ints as data -/
theorem dpa_ints {K : PySem.W.Frag} {H : Hp} : ∀ ns : List Int, DpAll K H (ns.map V.int) (ns.map PyData.int)
  | [] => .nil
  | n :: ns => .cons (.int n) (dpa_ints ns)
theorem dp_ints {K : PySem.W.Frag} {H : Hp} {a : Addr} {ns : List Int} (h : SqL K H a (ns.map V.int)) : Dp K H (.ref a) (.list (ns.map PyData.int)) := .lst h (dpa_ints ns)
theorem lay_ints : ∀ ns : List Int, PyData.canLayAll0 (ns.map PyData.int) = true ∧ PyData.depthAll (ns.map PyData.int) = 0
  | [] => ⟨rfl, rfl⟩
  | n :: ns => by
    obtain ⟨h1, h2⟩ := lay_ints ns
    refine ⟨?_, ?_⟩
    · show (PyData.canLay0 (.int n) && PyData.canLayAll0 (ns.map PyData.int)) = true
      rw [h1]
      rfl
    · show max (PyData.depth (.int n)) (PyData.depthAll (ns.map PyData.int)) = 0
      rw [h2]
      rfl
theorem shaped_ints (ns : List Int) : SeqAt.shaped (.list (ns.map PyData.int)) = true := by
  obtain ⟨h1, h2⟩ := lay_ints ns
  show (PyData.canLayAll0 (ns.map PyData.int) && decide (PyData.depthAll (ns.map PyData.int) + 1 ≤ 64)) = true
  rw [h1, h2]
  rfl
theorem eqv_nil (ds : List PyData) : PyData.eqv (.list ds) (.list []) = ds.isEmpty := by
  cases ds with
  | nil => rfl
  | cons d ds => rfl
/-- x == [], x != [] of a list of ints, the empty list just made -/
theorem ne_nil {K : PySem.W.Frag} {H : Hp} {a q : Addr} {ns : List Int} {Q : VK} (h : SqL K H a (ns.map V.int)) (hq : H q = some (.lst [])) (k : Q (.bl (!ns.isEmpty)) H) : rNeD K (.ref a) (.ref q) H Q := by
  refine ⟨_, _, dp_ints h, Dp.lst (SqL.of hq) .nil, shaped_ints ns, rfl, ?_⟩
  rw [eqv_nil, List.isEmpty_map]
  exact k

/-- a draw below m: some number, the pen goes on -/
def spDraw : Sp := fun vs H Q _ => ∃ (p c : Addr) (m : Int) (n : Nat), vs = [.ref p, .int m] ∧ PenAt H p c n ∧ 0 < m ∧ m < 1073741824 ∧ n ≤ 100000 ∧
  ∀ (d : Int) (H' : Hp), 0 ≤ d → d < m → PenAt H' p c (n + 1) → Kp p H H' → Q (.int d) H'
end Cw

set_option Elab.async false
set_option linter.all false
set_option maxRecDepth 100000
set_option maxHeartbeats 4000000
/-! Cw3: what is frozen and what is new; types of data; comprehensions that carry data. -/
namespace Cw
open PySem PySem.Spec PyProof.Rows L2

/-- what F' has beyond F was free in H -/
def New (H F F' : Hp) : Prop := ∀ a o, F' a = some o → F a = some o ∨ H a = none
theorem New.refl (H F : Hp) : New H F F := fun _ _ h => .inl h
theorem New.trans {H H1 F F1 F2 : Hp} (a : New H F F1) (k : ∀ b, H1 b = none → H b = none) (b : New H1 F1 F2) : New H F F2 := fun c o h => by
  rcases b c o h with h | h
  · exact a c o h
  · exact .inr (k c h)
theorem New.trans' {H H1 F F1 : Hp} (b : New H1 F F1) (e : Ex H H1) : New H F F1 := fun c o h => (b c o h).imp id fun z => Evl.fresh_back e z
theorem New.free {H F F' : Hp} (a : New H F F') {p : Addr} (h : F p = none) (hp : H p ≠ none) : F' p = none := by
  cases e : F' p with
  | none => rfl
  | some o =>
    rcases a p o e with z | z
    · rw [h] at z; cases z
    · exact absurd z hp
theorem New.upd {H F : Hp} {p : Addr} {o : HO} (h : H p = none) : New H F (upd F p o) := fun a u e => by
  by_cases z : a = p
  · subst z; exact .inr h
  · rw [upd_ne z] at e; exact .inl e
theorem ex_back {H H' : Hp} (e : Ex H H') : ∀ b, H' b = none → H b = none := fun b h => Evl.fresh_back e h
theorem Kp.back {p : Addr} {H H' : Hp} (k : Kp p H H') (hp : H' p ≠ none) : ∀ b, H' b = none → H b = none := fun b h => by
  cases e : H b with
  | none => rfl
  | some o =>
    by_cases z : b = p
    · subst z; exact absurd h hp
    · rw [k b o z e] at h; cases h
theorem ex_upd2 {F H : Hp} {p : Addr} {o : HO} (e : Ex F H) : Ex (upd F p o) (upd H p o) := fun a u h => by
  by_cases z : a = p
  · subst z; rw [upd_same] at h ⊢; exact h
  · rw [upd_ne z] at h ⊢; exact e a u h
theorem ex_updF {F : Hp} {p : Addr} {o : HO} (h : F p = none) : Ex F (upd F p o) := Evl.Ex.new h
theorem Ex.mut {H H' : Hp} {p : Addr} {o : HO} (e : Ex H H') (h : H p = none) : Ex H (upd H' p o) := Evl.Ex.mut e h
theorem ex_put {F H : Hp} {p : Addr} {o : HO} (e : Ex F H) (h : H p = some o) : Ex (upd F p o) H := fun a u k => by
  by_cases z : a = p
  · subst z; rw [upd_same] at k; cases k; exact h
  · rw [upd_ne z] at k; exact e a u k

/-! ### the types of data -/
def tyD : PyData → String
  | .none => "NoneType"
  | .bool _ => "bool"
  | .int _ => "int"
  | .str _ => "str"
  | .list _ => "list"
  | .tuple _ => "tuple"
  | .dict _ => "dict"
theorem Rp.ty {K : PySem.W.Frag} {F H : Hp} {v : V} {d : PyData} (r : Rp K F v d) (e : Ex F H) : TyX K H v (.type (tyD d)) := by
  cases r with
  | non => exact .base .non
  | bl b => exact .base (.bl b)
  | int i => exact .base (.int i)
  | str x => exact .base (.str x)
  | lst h t =>
    rcases h with (h | ⟨o, h⟩) | ⟨o, its, n, h, c, _⟩
    · exact .base (.lst (e _ _ h))
    · exact .base (.frz (e _ _ h))
    · exact .kList h c
  | tup h t =>
    rcases h with (h | ⟨o, h⟩) | ⟨o, its, n, h, c, _⟩
    · exact .base (.tup (e _ _ h))
    · exact .fTuple (e _ _ h)
    · exact .kTuple h c
  | dic h t =>
    rcases h with h | ⟨o, h⟩
    · exact .base (.dK (e _ _ h))
    · exact .fDict (e _ _ h)
/-- isinstance(v, T), T a built-in class -/
theorem isi {K : PySem.W.Frag} {F H : Hp} {v : V} {d : PyData} {T : String} {b : Bool} {Q : VK} (r : Rp K F v d) (e : Ex F H) (h : kitB (tyD d) T = some b) (q : Q (.bl b) H) : rIsi K [v, .ty T] H Q :=
  ⟨v, _, _, _, b, rfl, .ty T, r.ty e, kit_ty h, q⟩
/-- isinstance(v, (S, T)), the tuple just made -/
theorem isi2 {K : PySem.W.Frag} {F H : Hp} {v : V} {d : PyData} {S T : String} {b1 b2 : Bool} {tp : Addr} {Q : VK} (r : Rp K F v d) (e : Ex F H) (ht : H tp = some (.tup [.ty S, .ty T])) (h1 : kitB (tyD d) S = some b1) (h2 : kitB (tyD d) T = some b2)
    (q : Q (.bl (b1 || b2)) H) : rIsiT K [v, .ref tp] H Q := by
  refine ⟨v, tp, _, _, _, b1 || b2, rfl, ht, .cons (.ty S) (.cons (.ty T) .nil), r.ty e, ?_, q⟩
  refine kitAny_cons (kit_ty h1) (fun hb => ?_) (fun hb => by rw [hb]; rfl)
  rw [hb]
  refine kitAny_cons (kit_ty h2) (fun hb2 => ?_) (fun hb2 => by rw [hb2]; rfl)
  rw [hb2]
  exact kitAny_nil
def kitD (d : PyData) (T : String) : Bool := (tyD d == T) || (tyD d == "bool" && T == "int")
theorem kitB_D (d : PyData) {T : String} (h : T = "list" ∨ T = "tuple" ∨ T = "dict" ∨ T = "bool" ∨ T = "int" ∨ T = "str") : kitB (tyD d) T = some (kitD d T) := by
  rcases h with rfl | rfl | rfl | rfl | rfl | rfl <;> cases d <;> (simp only [tyD, kitD]; decide +kernel)

/-! ### a walk over a list or a tuple -/
section
variable {X : Cx} {tg it : Expr} {w1 w2 : TI}
theorem pi_or (h1 : PI X tg it w1) (h2 : PI X tg it w2) : PI X tg it (fun σ H R => w1 σ H R ∨ w2 σ H R) := ⟨fun pins s σ H R I h => h.elim (h1.run pins s σ H R I) (h2.run pins s σ H R I)⟩
theorem pi_seq {l : Expr} {tl : TE} (hl : PE X l tl) : PI X tg l (fun σ H R => iList X.K tl σ H R ∨ iTup X.K tl σ H R) := pi_or (pi_list hl) (pi_tup hl)
end
/-- the items of a list or a tuple, or none -/
def itemsD : PyData → List PyData
  | .list ds => ds
  | .tuple ds => ds
  | _ => []
def isSeq : PyData → Bool
  | .list _ => true
  | .tuple _ => true
  | _ => false
theorem Rp.seq {K : PySem.W.Frag} {F : Hp} {v : V} {d : PyData} (r : Rp K F v d) (hs : isSeq d = true) : ∃ a xs, v = .ref a ∧ (SqL K F a xs ∨ SqT K F a xs) ∧ RpA K F xs (itemsD d) := by
  cases r with
  | lst h t => exact ⟨_, _, rfl, .inl h, t⟩
  | tup h t => exact ⟨_, _, rfl, .inr h, t⟩
  | _ => cases hs

/-! ### one step of a reading opened -/
section
variable {ta te tb : TE} {tr : TA} {t u : TS} {D : Ends} {σ : L2.St} {H : Hp} {Q : VK} {Qa : List V → Hp → Prop} {r : List V → Hp → VK → Prop} {r2 : R2} {i : Nat} {g : TG} {c : TT} {Qb : Bool → Hp → Prop}
theorem go_ret (h : te σ H D.rt) : tRet te D σ H := h
theorem go_cb1 (h : ta σ H fun x H1 => r [x] H1 Q) : tCB r (tCons ta tNil) σ H Q := h
theorem go_cb2 (h : ta σ H fun x H1 => tb σ H1 fun y H2 => r [x, y] H2 Q) : tCB r (tCons ta (tCons tb tNil)) σ H Q := h
theorem go_cons (h : ta σ H fun x H1 => tr σ H1 fun xs H2 => Qa (x :: xs) H2) : tCons ta tr σ H Qa := h
theorem go_set (h : te σ H fun x H1 => D.nx (σ.set i (some x)) H1) : tAsg te (gName i) D σ H := h
theorem go_asg (h : te σ H fun x H1 => g x σ H1 D.nx) : tAsg te g D σ H := h
theorem go_seq (h : t { D with nx := u D } σ H) : tSeq t u D σ H := h
theorem go_op (h : ta σ H fun x H1 => tb σ H1 fun y H2 => r2 x y H2 Q) : tOp r2 ta tb σ H Q := h
theorem go_test (h : te σ H fun x H' => ∃ k, x = .bl k ∧ Qb k H') : tTest te σ H Qb := h
theorem go_b (h : te σ H fun x H' => ∃ k, x = .bl k ∧ Qb k H') : tB te σ H Qb := h
theorem go_if (h : c σ H fun b H1 => if b = true then t D σ H1 else u D σ H1) : tIfS c t u D σ H := h
theorem go_drop (h : te σ H fun _ H1 => D.nx σ H1) : tDrop te D σ H := h
theorem go_tup (h : tr σ H fun xs H1 => xs.length ≤ sizeLine ∧ ∀ p, H1 p = none → Q (.ref p) (upd H1 p (.tup xs))) : tTup tr σ H Q := h
theorem go_lst (h : tr σ H fun xs H1 => xs.length ≤ sizeLine ∧ ∀ p, H1 p = none → Q (.ref p) (upd H1 p (.lst xs))) : tLst tr σ H Q := h
end

/-! ### comprehensions that make data, item by item, without touching what stood -/
section
variable {K : PySem.W.Frag} {g : TG} {te : TE} {vs : List Nat} {σ : L2.St} {H1 F1 : Hp} {D : Addr} {Qd : Hp → Prop}
/-- what holds between two turns -/
def LcP (K : PySem.W.Frag) (H1 F1 : Hp) (D : Addr) (m : Nat → PyData) (i : Nat) (H : Hp) : Prop :=
  ∃ ys F, H D = some (.lst ys) ∧ ys.length = i ∧ RpA K F ys ((List.range i).map m) ∧ Ex F1 F ∧ Ex F H ∧ Ex H1 H ∧ New H1 F1 F ∧ F D = none
theorem fresh_in {p : Addr} (e1 : Ex F1 H1) (h : H1 p = none) : F1 p = none := ex_back e1 p h
theorem lcP_start {m : Nat → PyData} (e1 : Ex F1 H1) (hD : H1 D = none) : LcP K H1 F1 D m 0 (upd H1 D (.lst [])) :=
  ⟨[], F1, upd_same, rfl, .nil, Evl.Ex.refl _, e1.trans (Evl.Ex.new hD), Evl.Ex.new hD, New.refl _ _, fresh_in e1 hD⟩
/-- the turn's end, whatever reads its item -/
theorem lcP_turn {m : Nat → PyData} {i : Nat} {H : Hp} (hD : H1 D = none) (hi : i < 100000) (p : LcP K H1 F1 D m i H) {Ry : (V → Hp → Prop) → Prop}
    (turn : ∀ (F : Hp) (Qy : V → Hp → Prop), Ex F1 F → Ex F H → F D = none → New H1 F1 F → Ex H1 H → (∀ y H4 F', Ex H H4 → Ex F F' → Ex F' H4 → New H F F' → Rp K F' y (m i) → Qy y H4) → Ry Qy) :
    Ry fun y H4 => ∃ acc, H4 D = some (.lst acc) ∧ acc.length < sizeLine ∧ LcP K H1 F1 D m (i + 1) (upd H4 D (.lst (acc ++ [y]))) := by
  obtain ⟨ys, F, hd, hl, rp, f1, f2, f3, f4, f5⟩ := p
  refine turn F _ f1 f2 f5 f4 f3 fun y H4 F' g1 g2 g3 g4 g5 => ?_
  have fD : F' D = none := g4.free f5 (by rw [hd]; exact fun z => nomatch z)
  refine ⟨ys, g1 _ _ hd, Evl.sz_lt (by omega), ys ++ [y], F', upd_same, by rw [List.length_append, hl]; rfl, ?_, f1.trans g2, g3.mut fD, (f3.trans g1).mut hD, f4.trans (ex_back f3) g4, fD⟩
  rw [List.range_succ, List.map_append]
  exact (rp.mono g2).snoc g5
/-- the end -/
theorem lcP_end {m : Nat → PyData} {n : Nat} {H : Hp} (p : LcP K H1 F1 D m n H) (hD : H1 D = none) (k : ∀ ys F, H D = some (.lst ys) → ys.length = n → RpA K F ys ((List.range n).map m) → Ex F1 F → Ex F H → Ex H1 H → New H1 F1 F → F D = none → Qd H) : Qd H := by
  obtain ⟨ys, F, h1, h2, h3, h4, h5, h6, h7, h8⟩ := p
  exact k ys F h1 h2 h3 h4 h5 h6 h7 h8
end
/-- the reading of [e for x in l] over a list or a tuple of data -/
theorem lc_data {K : PySem.W.Frag} {te : TE} {vs : List Nat} {σ : L2.St} {H1 F1 : Hp} {a : Addr} {xs : List V} {j : Nat} {m : Nat → PyData} {tl : TE} {Q : VK} {H0 : Hp} (hl : ∀ R : V → Hp → Prop, R (.ref a) H1 → tl σ H0 R)
    (hx : SqL K F1 a xs ∨ SqT K F1 a xs) (e1 : Ex F1 H1) (hz : xs.length ≤ 100000) (hw : ∀ x, wipe ((wipe σ vs).set j (some x)) vs = wipe σ vs)
    (turn : ∀ (i : Nat) (x : V) (F H : Hp) (Qy : V → Hp → Prop), xs[i]? = some x → Ex F1 F → Ex F H → Ex H1 H → (∀ y H4 F', Ex H H4 → Ex F F' → Ex F' H4 → New H F F' → Rp K F' y (m i) → Qy y H4) → te ((wipe σ vs).set j (some x)) H Qy)
    (k : ∀ (D : Addr) (ys : List V) (F H : Hp), H D = some (.lst ys) → H1 D = none → ys.length = xs.length → RpA K F ys ((List.range xs.length).map m) → Ex F1 F → Ex F H → Ex H1 H → New H1 F1 F → F D = none → Q (.ref D) H) :
    tLc (fun σ H R => iList K tl σ H R ∨ iTup K tl σ H R) (gName j) tYes te vs σ H0 Q := by
  rcases hx with hx | hx
  · refine .inl (hl _ ⟨a, rfl, ⟨xs, Evl.ex_l e1 hx⟩, fun D hD => ?_⟩)
    refine lc_list (xs := xs) (LcP K H1 F1 D m) (lcP_start e1 hD) (fun i H _ p => ?_) (fun i x H hi p => ⟨hw x, ?_⟩) fun H p => lcP_end p hD (k D · · H · hD)
    · obtain ⟨_, _, _, _, _, _, _, f3, _⟩ := p
      exact Evl.ex_l (e1.trans f3) hx
    · exact lcP_turn hD (Nat.lt_of_lt_of_le (List.getElem?_eq_some_iff.mp hi).1 hz) p fun F Qy f1 f2 _ _ f3 kk => turn i x F H Qy hi f1 f2 f3 kk
  · refine .inr (hl _ ⟨a, rfl, ⟨xs, Evl.ex_t e1 hx⟩, fun D hD => ?_⟩)
    refine lc_tup (xs := xs) (LcP K H1 F1 D m) (lcP_start e1 hD) (fun i H _ p => ?_) (fun i x H hi p => ⟨hw x, ?_⟩) fun H p => lcP_end p hD (k D · · H · hD)
    · obtain ⟨_, _, _, _, _, _, _, f3, _⟩ := p
      exact Evl.ex_t (e1.trans f3) hx
    · exact lcP_turn hD (Nat.lt_of_lt_of_le (List.getElem?_eq_some_iff.mp hi).1 hz) p fun F Qy f1 f2 _ _ f3 kk => turn i x F H Qy hi f1 f2 f3 kk
end Cw

set_option Elab.async false
set_option linter.all false
set_option maxRecDepth 100000
set_option maxHeartbeats 4000000
/-! Cw4: data as told (tuples for lists), alike, drawn; promises over data. -/
namespace Cw
open PySem PySem.Spec PyProof.Rows L2

mutual
def fixedD : PyData → PyData
  | .list ds => .tuple (fixedAll ds)
  | .tuple ds => .tuple (fixedAll ds)
  | .dict kvs => .dict kvs
  | .none => .none
  | .bool b => .bool b
  | .int i => .int i
  | .str x => .str x
def fixedAll : List PyData → List PyData
  | [] => []
  | d :: ds => fixedD d :: fixedAll ds
end
theorem fixedAll_map : ∀ ds : List PyData, fixedAll ds = ds.map fixedD
  | [] => by simp only [fixedAll, List.map_nil]
  | d :: ds => by simp only [fixedAll, List.map_cons, fixedAll_map ds]
theorem fixedD_seq {d : PyData} (h : isSeq d = true) : fixedD d = .tuple ((itemsD d).map fixedD) := by
  cases d <;> first | (cases h; done) | (simp only [fixedD, itemsD, fixedAll_map])
theorem fixedD_no {d : PyData} (h : isSeq d = false) : fixedD d = d := by
  cases d <;> first | (cases h; done) | (simp only [fixedD])
/-- the keys of the drawn dicts -/
def keysOk : List (PyData × PyData) → Bool
  | [(.str x, _), (.int i, _)] => decide (x = ("a" : Str)) && decide (i = 1)
  | _ => false
mutual
/-- no list or tuple in it has more than so many parts; dicts have the keys of drawn ones -/
def okD : PyData → Bool
  | .list ds => decide (ds.length ≤ 1000) && okAll ds
  | .tuple ds => decide (ds.length ≤ 1000) && okAll ds
  | .dict kvs => keysOk kvs && okKv kvs
  | .none => true
  | .bool _ => true
  | .int _ => true
  | .str _ => true
def okAll : List PyData → Bool
  | [] => true
  | d :: ds => okD d && okAll ds
def okKv : List (PyData × PyData) → Bool
  | [] => true
  | (_, d) :: r => okD d && okKv r
end
theorem okAll_get : ∀ {ds : List PyData} {i : Nat} {d : PyData}, okAll ds = true → ds[i]? = some d → okD d = true
  | [], _, _, _, e => by simp at e
  | x :: ds, 0, d, h, e => by
    simp at e
    subst e
    simp only [okAll, Bool.and_eq_true] at h
    exact h.1
  | x :: ds, i + 1, d, h, e => by
    simp only [okAll, Bool.and_eq_true] at h
    exact okAll_get (i := i) h.2 (by simpa using e)
theorem okD_seq {d : PyData} (h : okD d = true) (hs : isSeq d = true) : (itemsD d).length ≤ 1000 ∧ okAll (itemsD d) = true := by
  cases d <;> first | (cases hs; done) | (simp only [okD, Bool.and_eq_true, decide_eq_true_eq] at h; exact h)
theorem depthAll_get : ∀ {ds : List PyData} {i : Nat} {d : PyData}, ds[i]? = some d → d.depth ≤ PyData.depthAll ds
  | [], _, _, e => by simp at e
  | x :: ds, 0, d, e => by
    simp at e
    subst e
    simp only [PyData.depthAll]
    omega
  | x :: ds, i + 1, d, e => by
    have := depthAll_get (ds := ds) (i := i) (d := d) (by simpa using e)
    simp only [PyData.depthAll]
    omega
theorem depth_seq {d : PyData} (hs : isSeq d = true) : d.depth = PyData.depthAll (itemsD d) + 1 := by
  cases d <;> first | (cases hs; done) | (simp only [PyData.depth, itemsD])
theorem range_map_get {α β : Type} (l : List α) (dflt : α) (f : α → β) : (List.range l.length).map (fun i => f (l.getD i dflt)) = l.map f := by
  apply List.ext_getElem
  · simp
  · intro i h1 h2
    simp at h1 h2 ⊢
    rw [List.getElem?_eq_getElem h1]
    rfl

/-- is a value a list or a tuple? -/
def spListed (K : PySem.W.Frag) : Sp := fun vs H Q _ => ∃ v F d, vs = [v] ∧ Rp K F v d ∧ Ex F H ∧ ∀ H', Ex H H' → Q (.bl (isSeq d)) H'
/-- some data of the argument, made without touching what stood -/
def spData (K : PySem.W.Frag) (f : PyData → PyData) (n : Nat) : Sp := fun vs H Q _ => ∃ v F d, vs = [v] ∧ Rp K F v d ∧ Ex F H ∧ d.depth ≤ n ∧ okD d = true ∧
  ∀ r H' F', Ex H H' → Ex F F' → Ex F' H' → New H F F' → Rp K F' r (f d) → Q r H'
end Cw

set_option Elab.async false
set_option linter.all false
set_option maxRecDepth 100000
set_option maxHeartbeats 4000000
/-! Cw5: == of a dict and what is none. -/
namespace Cw
open PySem PySem.SeqAt PySem.MeetsSeq
open AutoSeq1 (wpAny_loadPart')
abbrev DictAtV (h : Heap) (l : Addr) : Prop := ∃ dd es n sl, h.get? l = some { cls := .type "dict", dict := dd, data := .dict es n, slots := sl }
theorem dict_eq_declines_none (l : Addr) (es : Array DictEntry) (n : Nat) (dd : Option Addr) (sl : Array (Option Value)) :
    Meets (Builtin.«dict.__eq__» ⟨[.ref l, .none], []⟩) (fun _ R s => s.heap.get? l = some { cls := .type "dict", dict := dd, data := .dict es n, slots := sl } ∧ R (.ok (.ret .notImplemented)) s) :=
  .of_wp fun prog w A R s h => by obtain ⟨hp, g, d, tk, os⟩ := s; obtain ⟨hl, h⟩ := h; have f1 := F.sub_NoneType_dict; wp_walk using wpAny_loadPart' hl; exact ⟨_, rfl, h⟩
theorem dict_eq_declines_str (l : Addr) (es : Array DictEntry) (n : Nat) (dd : Option Addr) (sl : Array (Option Value)) (b : Str) (u : Tok) :
    Meets (Builtin.«dict.__eq__» ⟨[.ref l, .str b u], []⟩) (fun _ R s => s.heap.get? l = some { cls := .type "dict", dict := dd, data := .dict es n, slots := sl } ∧ R (.ok (.ret .notImplemented)) s) :=
  .of_wp fun prog w A R s h => by obtain ⟨hp, g, d, tk, os⟩ := s; obtain ⟨hl, h⟩ := h; have f1 := F.sub_str_dict; wp_walk using wpAny_loadPart' hl; exact ⟨_, rfl, h⟩
theorem dict_eq_declines_list (l b : Addr) (es : Array DictEntry) (n n2 : Nat) (dd dd2 : Option Addr) (sl sl2 : Array (Option Value)) (items2 : Array Value) :
    Meets (Builtin.«dict.__eq__» ⟨[.ref l, .ref b], []⟩) (fun _ R s => s.heap.get? l = some { cls := .type "dict", dict := dd, data := .dict es n, slots := sl } ∧ s.heap.get? b = some { cls := .type "list", dict := dd2, data := .seq items2 n2, slots := sl2 } ∧ R (.ok (.ret .notImplemented)) s) :=
  .of_wp fun prog w A R s h => by obtain ⟨hp, g, d, tk, os⟩ := s; obtain ⟨hl, hb, h⟩ := h; have f1 := F.sub_list_dict; wp_walk using wpAny_loadPart' hl, wpAny_loadPart' hb; exact ⟨_, rfl, h⟩
theorem dict_eq_declines_tuple (l b : Addr) (es : Array DictEntry) (n n2 : Nat) (dd dd2 : Option Addr) (sl sl2 : Array (Option Value)) (items2 : Array Value) :
    Meets (Builtin.«dict.__eq__» ⟨[.ref l, .ref b], []⟩) (fun _ R s => s.heap.get? l = some { cls := .type "dict", dict := dd, data := .dict es n, slots := sl } ∧ s.heap.get? b = some { cls := .type "tuple", dict := dd2, data := .seq items2 n2, slots := sl2 } ∧ R (.ok (.ret .notImplemented)) s) :=
  .of_wp fun prog w A R s h => by obtain ⟨hp, g, d, tk, os⟩ := s; obtain ⟨hl, hb, h⟩ := h; have f1 := F.sub_tuple_dict; wp_walk using wpAny_loadPart' hl, wpAny_loadPart' hb; exact ⟨_, rfl, h⟩
theorem str_eq_declines_dict (b : Str) (u : Tok) (l : Addr) (es : Array DictEntry) (n : Nat) (dd : Option Addr) (sl : Array (Option Value)) :
    Meets (Builtin.«str.__eq__» ⟨[.str b u, .ref l], []⟩) (fun _ R s => s.heap.get? l = some { cls := .type "dict", dict := dd, data := .dict es n, slots := sl } ∧ R (.ok (.ret .notImplemented)) s) :=
  .of_wp fun prog w A R s h => by obtain ⟨hp, g, d, tk, os⟩ := s; obtain ⟨hl, h⟩ := h; have f1 := F.sub_dict_str; wp_walk using wpAny_loadPart' hl; exact ⟨_, rfl, h⟩
theorem list_eq_declines_dict (l b : Addr) (es : Array DictEntry) (n n2 : Nat) (dd dd2 : Option Addr) (sl sl2 : Array (Option Value)) (items2 : Array Value) :
    Meets (Builtin.«list.__eq__» ⟨[.ref b, .ref l], []⟩) (fun _ R s => s.heap.get? l = some { cls := .type "dict", dict := dd, data := .dict es n, slots := sl } ∧ s.heap.get? b = some { cls := .type "list", dict := dd2, data := .seq items2 n2, slots := sl2 } ∧ R (.ok (.ret .notImplemented)) s) :=
  .of_wp fun prog w A R s h => by obtain ⟨hp, g, d, tk, os⟩ := s; obtain ⟨hl, hb, h⟩ := h; have f1 := F.sub_dict_list; wp_walk using wpAny_loadPart' hl, wpAny_loadPart' hb; exact ⟨_, rfl, h⟩
theorem tuple_eq_declines_dict (l b : Addr) (es : Array DictEntry) (n n2 : Nat) (dd dd2 : Option Addr) (sl sl2 : Array (Option Value)) (items2 : Array Value) :
    Meets (Builtin.«tuple.__eq__» ⟨[.ref b, .ref l], []⟩) (fun _ R s => s.heap.get? l = some { cls := .type "dict", dict := dd, data := .dict es n, slots := sl } ∧ s.heap.get? b = some { cls := .type "tuple", dict := dd2, data := .seq items2 n2, slots := sl2 } ∧ R (.ok (.ret .notImplemented)) s) :=
  .of_wp fun prog w A R s h => by obtain ⟨hp, g, d, tk, os⟩ := s; obtain ⟨hl, hb, h⟩ := h; have f1 := F.sub_dict_tuple; wp_walk using wpAny_loadPart' hl, wpAny_loadPart' hb; exact ⟨_, rfl, h⟩
section
variable {A : Around} {s : Shared} {l b : Addr} {items : Array Value}
theorem rc_dict_none (h : DictAtV s.heap l) (hu : A.units < cLine) : RcAt A s (.ref l) .none false := fun prog w E Q q => by
  obtain ⟨dd, es, n, sl, ho⟩ := h
  exact rc_eq_decline_or (k := false) ⟨_, ho, rfl⟩ rfl (by decide) F.sub_NoneType_dict F.slot_dict_eq F.slot_NoneType_eq_refl
    (fun _ hq => call_meets F.slot_dict_eq ⟨_, ho, rfl⟩ F.entry_dict_eq (F.args_dict_eq_2 _ _) (dict_eq_declines_none l es n dd sl) ⟨ho, hq⟩)
    (fun _ hq => call_gives F.slot_NoneType_eq_refl rfl F.entry_NoneType_eq (F.args_NoneType_eq_2 _ _) (NoneType___eq___none_ref_0 l) hq)
    (fun _ hq => wpAny_of_eq (rfl : isSame (.ref l) .none = pure false) hq) (.inr hu) q
theorem rc_none_dict (h : DictAtV s.heap l) (hu : A.units < cLine) : RcAt A s .none (.ref l) false := fun prog w E Q q => by
  obtain ⟨dd, es, n, sl, ho⟩ := h
  exact rc_eq_decline_or (k := false) rfl ⟨_, ho, rfl⟩ (by decide) F.sub_dict_NoneType F.slot_NoneType_eq F.slot_dict_eq_refl
    (fun _ hq => call_gives F.slot_NoneType_eq rfl F.entry_NoneType_eq (F.args_NoneType_eq_2 _ _) (NoneType___eq___none_ref_0 l) hq)
    (fun _ hq => call_meets F.slot_dict_eq_refl ⟨_, ho, rfl⟩ F.entry_dict_eq (F.args_dict_eq_2 _ _) (dict_eq_declines_none l es n dd sl) ⟨ho, hq⟩)
    (fun _ hq => wpAny_of_eq (rfl : isSame .none (.ref l) = pure false) hq) (.inr hu) q
theorem rc_dict_str (x : Str) (u : Tok) (h : DictAtV s.heap l) (hu : A.units < cLine) : RcAt A s (.ref l) (.str x u) false := fun prog w E Q q => by
  obtain ⟨dd, es, n, sl, ho⟩ := h
  exact rc_eq_decline_or (k := false) ⟨_, ho, rfl⟩ rfl (by decide) F.sub_str_dict F.slot_dict_eq F.slot_str_eq_refl
    (fun _ hq => call_meets F.slot_dict_eq ⟨_, ho, rfl⟩ F.entry_dict_eq (F.args_dict_eq_2 _ _) (dict_eq_declines_str l es n dd sl x u) ⟨ho, hq⟩)
    (fun _ hq => call_meets F.slot_str_eq_refl rfl F.entry_str_eq (F.args_str_eq_2 _ _) (str_eq_declines_dict x u l es n dd sl) ⟨ho, hq⟩)
    (fun _ hq => wpAny_of_eq (rfl : isSame (.ref l) (.str x u) = pure false) hq) (.inr hu) q
theorem rc_str_dict (x : Str) (u : Tok) (h : DictAtV s.heap l) (hu : A.units < cLine) : RcAt A s (.str x u) (.ref l) false := fun prog w E Q q => by
  obtain ⟨dd, es, n, sl, ho⟩ := h
  exact rc_eq_decline_or (k := false) rfl ⟨_, ho, rfl⟩ (by decide) F.sub_dict_str F.slot_str_eq F.slot_dict_eq_refl
    (fun _ hq => call_meets F.slot_str_eq rfl F.entry_str_eq (F.args_str_eq_2 _ _) (str_eq_declines_dict x u l es n dd sl) ⟨ho, hq⟩)
    (fun _ hq => call_meets F.slot_dict_eq_refl ⟨_, ho, rfl⟩ F.entry_dict_eq (F.args_dict_eq_2 _ _) (dict_eq_declines_str l es n dd sl x u) ⟨ho, hq⟩)
    (fun _ hq => wpAny_of_eq (rfl : isSame (.str x u) (.ref l) = pure false) hq) (.inr hu) q
theorem ne_dict {T : String} {o : Obj} (h : DictAtV s.heap l) (hb : s.heap.get? b = some o) (hc : o.cls = .type T) (hT : T ≠ "dict") : l ≠ b := fun e => by
  subst e
  obtain ⟨dd, es, n, sl, ho⟩ := h
  rw [ho] at hb
  cases hb
  exact hT (Value.type.inj hc).symm
theorem rc_dict_list (h : DictAtV s.heap l) (hb : s.heap.IsList b items) (hu : A.units < cLine) : RcAt A s (.ref l) (.ref b) false := fun prog w E Q q => by
  obtain ⟨⟨cls, dd2, data, sl2⟩, ho2, hc, n2, hd⟩ := id hb
  simp only at hc hd
  subst hc hd
  have hne := ne_dict h ho2 rfl (by decide)
  obtain ⟨dd, es, n, sl, ho⟩ := h
  exact rc_eq_decline_or (k := false) ⟨_, ho, rfl⟩ ⟨_, ho2, rfl⟩ (by decide) F.sub_list_dict F.slot_dict_eq F.slot_list_eq_refl
    (fun _ hq => call_meets F.slot_dict_eq ⟨_, ho, rfl⟩ F.entry_dict_eq (F.args_dict_eq_2 _ _) (dict_eq_declines_list l b es n n2 dd dd2 sl sl2 items) ⟨ho, ho2, hq⟩)
    (fun _ hq => call_meets F.slot_list_eq_refl ⟨_, ho2, rfl⟩ F.entry_list_eq (F.args_list_eq_2 _ _) (list_eq_declines_dict l b es n n2 dd dd2 sl sl2 items) ⟨ho, ho2, hq⟩)
    (fun _ hq => wpAny_isSame_ref_other' hne ho ho2 (by simp) hq) (.inr hu) q
theorem rc_list_dict (h : DictAtV s.heap l) (hb : s.heap.IsList b items) (hu : A.units < cLine) : RcAt A s (.ref b) (.ref l) false := fun prog w E Q q => by
  obtain ⟨⟨cls, dd2, data, sl2⟩, ho2, hc, n2, hd⟩ := id hb
  simp only at hc hd
  subst hc hd
  have hne := ne_dict h ho2 rfl (by decide)
  obtain ⟨dd, es, n, sl, ho⟩ := h
  exact rc_eq_decline_or (k := false) ⟨_, ho2, rfl⟩ ⟨_, ho, rfl⟩ (by decide) F.sub_dict_list F.slot_list_eq F.slot_dict_eq_refl
    (fun _ hq => call_meets F.slot_list_eq ⟨_, ho2, rfl⟩ F.entry_list_eq (F.args_list_eq_2 _ _) (list_eq_declines_dict l b es n n2 dd dd2 sl sl2 items) ⟨ho, ho2, hq⟩)
    (fun _ hq => call_meets F.slot_dict_eq_refl ⟨_, ho, rfl⟩ F.entry_dict_eq (F.args_dict_eq_2 _ _) (dict_eq_declines_list l b es n n2 dd dd2 sl sl2 items) ⟨ho, ho2, hq⟩)
    (fun _ hq => wpAny_isSame_ref_other' hne.symm ho2 ho (by simp) hq) (.inr hu) q
theorem rc_dict_tuple (h : DictAtV s.heap l) (hb : s.heap.IsTuple b items) (hu : A.units < cLine) : RcAt A s (.ref l) (.ref b) false := fun prog w E Q q => by
  obtain ⟨⟨cls, dd2, data, sl2⟩, ho2, hc, n2, hd⟩ := id hb
  simp only at hc hd
  subst hc hd
  have hne := ne_dict h ho2 rfl (by decide)
  obtain ⟨dd, es, n, sl, ho⟩ := h
  exact rc_eq_decline_or (k := false) ⟨_, ho, rfl⟩ ⟨_, ho2, rfl⟩ (by decide) F.sub_tuple_dict F.slot_dict_eq F.slot_tuple_eq_refl
    (fun _ hq => call_meets F.slot_dict_eq ⟨_, ho, rfl⟩ F.entry_dict_eq (F.args_dict_eq_2 _ _) (dict_eq_declines_tuple l b es n n2 dd dd2 sl sl2 items) ⟨ho, ho2, hq⟩)
    (fun _ hq => call_meets F.slot_tuple_eq_refl ⟨_, ho2, rfl⟩ F.entry_tuple_eq (F.args_tuple_eq_2 _ _) (tuple_eq_declines_dict l b es n n2 dd dd2 sl sl2 items) ⟨ho, ho2, hq⟩)
    (fun _ hq => wpAny_isSame_ref_other hne ho ho2 (by simp) hq) (.inr hu) q
theorem rc_tuple_dict (h : DictAtV s.heap l) (hb : s.heap.IsTuple b items) (hu : A.units < cLine) : RcAt A s (.ref b) (.ref l) false := fun prog w E Q q => by
  obtain ⟨⟨cls, dd2, data, sl2⟩, ho2, hc, n2, hd⟩ := id hb
  simp only at hc hd
  subst hc hd
  have hne := ne_dict h ho2 rfl (by decide)
  obtain ⟨dd, es, n, sl, ho⟩ := h
  exact rc_eq_decline_or (k := false) ⟨_, ho2, rfl⟩ ⟨_, ho, rfl⟩ (by decide) F.sub_dict_tuple F.slot_tuple_eq F.slot_dict_eq_refl
    (fun _ hq => call_meets F.slot_tuple_eq ⟨_, ho2, rfl⟩ F.entry_tuple_eq (F.args_tuple_eq_2 _ _) (tuple_eq_declines_dict l b es n n2 dd dd2 sl sl2 items) ⟨ho, ho2, hq⟩)
    (fun _ hq => call_meets F.slot_dict_eq_refl ⟨_, ho, rfl⟩ F.entry_dict_eq (F.args_dict_eq_2 _ _) (dict_eq_declines_tuple l b es n n2 dd dd2 sl sl2 items) ⟨ho, ho2, hq⟩)
    (fun _ hq => wpAny_isSame_ref_other' hne.symm ho2 ho (by simp) hq) (.inr hu) q
end
/-! ### == where is_like comes to it -/
open L2
/-- both are leaves of a kind, or of unlike kinds that are never equal (no bool beside an int, no bool or int beside anything else) -/
def leafy : PyData → PyData → Bool
  | .none, .none => true
  | .bool _, .bool _ => true
  | .int _, .int _ => true
  | .str _, .str _ => true
  | .none, .str _ => true
  | .str _, .none => true
  | .none, .list _ => true
  | .list _, .none => true
  | .none, .tuple _ => true
  | .tuple _, .none => true
  | .none, .dict _ => true
  | .dict _, .none => true
  | .str _, .list _ => true
  | .list _, .str _ => true
  | .str _, .tuple _ => true
  | .tuple _, .str _ => true
  | .str _, .dict _ => true
  | .dict _, .str _ => true
  | .list _, .tuple _ => true
  | .tuple _, .list _ => true
  | .list _, .dict _ => true
  | .dict _, .list _ => true
  | .tuple _, .dict _ => true
  | .dict _, .tuple _ => true
  | _, _ => false
def leafEq : PyData → PyData → Bool
  | .none, .none => true
  | .bool a, .bool b => a == b
  | .int a, .int b => a == b
  | .str a, .str b => a == b
  | _, _ => false
def rEqLeaf (K : PySem.W.Frag) : R2 := fun x y H Q => ∃ F d e, Rp K F x d ∧ Rp K F y e ∧ Ex F H ∧ leafy d e = true ∧ Q (.bl (leafEq d e)) H
theorem rd_dict {X : Cx} {pins : List (Addr × Obj)} {σ : L2.St} {H F : Hp} {s : Shared} {a : Addr} {kvs : List (Key × V)} (I : Inv X pins σ H s) (h : Rd F a (.dK kvs)) (e : Ex F H) : DictAtV s.heap a := by
  obtain ⟨_, _, vs, _, o, es, ep, ho, ⟨hc, _⟩, hd, _⟩ := dk_rd I.hok (Evl.ex_rd e h)
  obtain ⟨c, dd, dt, sl⟩ := o
  simp only at hc hd
  subst hc hd
  exact ⟨dd, es, ep, sl, ho⟩
theorem op_eqLeaf {X : Cx} (hu : X.A.units < cLine) : OpR X (compareOp .Eq) (rEqLeaf X.K) := by
  intro pins s σ H x y v u Q I rx ry h
  obtain ⟨F, d, e, r1, r2, ex, hl, q⟩ := h
  have fin : ∀ b : Bool, leafEq d e = b → EP X pins σ Q (.bool b) s := fun b hb => ⟨.bl b, H, I, rfl, by rw [← hb]; exact q⟩
  cases r1 with
  | non =>
    obtain rfl : v = Value.none := rx
    cases r2 with
    | non =>
      obtain rfl : u = Value.none := ry
      exact RcAt.none_none _ _ _ _ (fin true rfl)
    | str b =>
      obtain ⟨t, rfl⟩ : ∃ t, u = Value.str b t := ry
      exact RcAt.none_str b t _ _ _ _ (fin false rfl)
    | lst h2 _ =>
      obtain rfl : u = Value.ref _ := ry
      obtain ⟨its, _, pl, _⟩ := I.list (Evl.ex_l ex h2)
      exact RcAt.none_list pl.isList hu _ _ _ _ (fin false rfl)
    | tup h2 _ =>
      obtain rfl : u = Value.ref _ := ry
      obtain ⟨its, _, pl, _⟩ := I.tuple (Evl.ex_t ex h2)
      exact RcAt.none_tuple pl hu _ _ _ _ (fin false rfl)
    | dic h2 _ =>
      obtain rfl : u = Value.ref _ := ry
      exact rc_none_dict (rd_dict I h2 ex) hu _ _ _ _ (fin false rfl)
    | _ => cases hl
  | bl a =>
    obtain rfl : v = Value.bool a := rx
    cases r2 with
    | bl b =>
      obtain rfl : u = Value.bool b := ry
      exact RcAt.bool_bool a b _ _ _ _ (fin _ rfl)
    | _ => cases hl
  | int a =>
    obtain ⟨t, rfl⟩ : ∃ t, v = Value.int a t := rx
    cases r2 with
    | int b =>
      obtain ⟨t2, rfl⟩ : ∃ t, u = Value.int b t := ry
      exact RcAt.int_int a t b t2 _ _ _ _ (fin _ rfl)
    | _ => cases hl
  | str a =>
    obtain ⟨t, rfl⟩ : ∃ t, v = Value.str a t := rx
    cases r2 with
    | non =>
      obtain rfl : u = Value.none := ry
      exact RcAt.str_none a t _ _ _ _ (fin false rfl)
    | str b =>
      obtain ⟨t2, rfl⟩ : ∃ t, u = Value.str b t := ry
      exact RcAt.str_str a t b t2 _ _ _ _ (fin _ rfl)
    | lst h2 _ =>
      obtain rfl : u = Value.ref _ := ry
      obtain ⟨its, _, pl, _⟩ := I.list (Evl.ex_l ex h2)
      exact RcAt.str_list a t pl.isList hu _ _ _ _ (fin false rfl)
    | tup h2 _ =>
      obtain rfl : u = Value.ref _ := ry
      obtain ⟨its, _, pl, _⟩ := I.tuple (Evl.ex_t ex h2)
      exact RcAt.str_tuple a t pl hu _ _ _ _ (fin false rfl)
    | dic h2 _ =>
      obtain rfl : u = Value.ref _ := ry
      exact rc_str_dict a t (rd_dict I h2 ex) hu _ _ _ _ (fin false rfl)
    | _ => cases hl
  | lst h1 _ =>
    obtain rfl : v = Value.ref _ := rx
    obtain ⟨its1, _, pl1, _⟩ := I.list (Evl.ex_l ex h1)
    cases r2 with
    | non =>
      obtain rfl : u = Value.none := ry
      exact RcAt.list_none pl1.isList hu _ _ _ _ (fin false rfl)
    | str b =>
      obtain ⟨t2, rfl⟩ : ∃ t, u = Value.str b t := ry
      exact RcAt.list_str b t2 pl1.isList hu _ _ _ _ (fin false rfl)
    | tup h2 _ =>
      obtain rfl : u = Value.ref _ := ry
      obtain ⟨its, _, pl, _⟩ := I.tuple (Evl.ex_t ex h2)
      exact RcAt.list_tuple pl1.isList pl hu _ _ _ _ (fin false rfl)
    | dic h2 _ =>
      obtain rfl : u = Value.ref _ := ry
      exact rc_list_dict (rd_dict I h2 ex) pl1.isList hu _ _ _ _ (fin false rfl)
    | _ => cases hl
  | tup h1 _ =>
    obtain rfl : v = Value.ref _ := rx
    obtain ⟨its1, _, pl1, _⟩ := I.tuple (Evl.ex_t ex h1)
    cases r2 with
    | non =>
      obtain rfl : u = Value.none := ry
      exact RcAt.tuple_none pl1 hu _ _ _ _ (fin false rfl)
    | str b =>
      obtain ⟨t2, rfl⟩ : ∃ t, u = Value.str b t := ry
      exact RcAt.tuple_str b t2 pl1 hu _ _ _ _ (fin false rfl)
    | lst h2 _ =>
      obtain rfl : u = Value.ref _ := ry
      obtain ⟨its, _, pl, _⟩ := I.list (Evl.ex_l ex h2)
      exact RcAt.tuple_list pl1 pl.isList hu _ _ _ _ (fin false rfl)
    | dic h2 _ =>
      obtain rfl : u = Value.ref _ := ry
      exact rc_tuple_dict (rd_dict I h2 ex) pl1 hu _ _ _ _ (fin false rfl)
    | _ => cases hl
  | dic h1 _ =>
    obtain rfl : v = Value.ref _ := rx
    have pl1 := rd_dict I h1 ex
    cases r2 with
    | non =>
      obtain rfl : u = Value.none := ry
      exact rc_dict_none pl1 hu _ _ _ _ (fin false rfl)
    | str b =>
      obtain ⟨t2, rfl⟩ : ∃ t, u = Value.str b t := ry
      exact rc_dict_str b t2 pl1 hu _ _ _ _ (fin false rfl)
    | lst h2 _ =>
      obtain rfl : u = Value.ref _ := ry
      obtain ⟨its, _, pl, _⟩ := I.list (Evl.ex_l ex h2)
      exact rc_dict_list pl1 pl.isList hu _ _ _ _ (fin false rfl)
    | tup h2 _ =>
      obtain rfl : u = Value.ref _ := ry
      obtain ⟨its, _, pl, _⟩ := I.tuple (Evl.ex_t ex h2)
      exact rc_dict_tuple pl1 pl hu _ _ _ _ (fin false rfl)
    | _ => cases hl
end Cw

set_option Elab.async false
set_option linter.all false
set_option maxRecDepth 100000
set_option maxHeartbeats 4000000
/-! Cw6: alike data; what is_like leans on. -/
namespace Cw
open PySem PySem.Spec PyProof.Rows L2

/-- what may be read in H may be read in H' -/
def Le (H H' : Hp) : Prop := ∀ a u, Rd H a u → Rd H' a u
theorem Le.refl (H : Hp) : Le H H := fun _ _ h => h
theorem Le.trans {H H1 H2 : Hp} (a : Le H H1) (b : Le H1 H2) : Le H H2 := fun c u h => b c u (a c u h)
theorem Le.ex {H H' : Hp} (e : Ex H H') : Le H H' := fun a u h => Evl.ex_rd e h
theorem Le.lock {H : Hp} {a : Addr} {u : HO} {o : Obj} (h : H a = some u) (mu : Mut (some u)) : Le H (upd H a (.frz o u)) := fun b w r => by
  by_cases e : b = a
  · subst e
    rcases r with r | ⟨o', r⟩
    · rw [h] at r; cases r; exact .inr ⟨o, upd_same⟩
    · rw [h] at r; cases r; exact mu.elim
  · rcases r with r | ⟨o', r⟩
    · exact .inl (by rw [upd_ne e]; exact r)
    · exact .inr ⟨o', by rw [upd_ne e]; exact r⟩
section
variable {K : PySem.W.Frag} {H H' : Hp}
theorem Le.l {a : Addr} {xs : List V} (e : Le H H') (h : SqL K H a xs) : SqL K H' a xs := h.imp (e _ _) id
theorem Le.t {a : Addr} {xs : List V} (e : Le H H') (h : SqT K H a xs) : SqT K H' a xs := h.imp (e _ _) id
mutual
theorem Rp.le (e : Le H H') : ∀ {v : V} {d : PyData}, Rp K H v d → Rp K H' v d
  | _, _, .non => .non
  | _, _, .bl b => .bl b
  | _, _, .int i => .int i
  | _, _, .str x => .str x
  | _, _, .lst h t => .lst (e.l h) (RpA.le e t)
  | _, _, .tup h t => .tup (e.t h) (RpA.le e t)
  | _, _, .dic h t => .dic (e _ _ h) (RpK.le e t)
theorem RpA.le (e : Le H H') : ∀ {vs : List V} {ds : List PyData}, RpA K H vs ds → RpA K H' vs ds
  | _, _, .nil => .nil
  | _, _, .cons h t => .cons (Rp.le e h) (RpA.le e t)
theorem RpK.le (e : Le H H') : ∀ {vs : List (Key × V)} {ds : List (PyData × PyData)}, RpK K H vs ds → RpK K H' vs ds
  | _, _, .nil => .nil
  | _, _, .cons h t => .cons (Rp.le e h) (RpK.le e t)
end
end

/-! ### one of two readings -/
section
variable {X : Cx} {e : Expr} {t1 t2 : TE}
theorem pe_or2 (h1 : PE X e t1) (h2 : PE X e t2) : PE X e (fun σ H Q => t1 σ H Q ∨ t2 σ H Q) := ⟨fun pins s σ H Q I h => h.elim (h1.run pins s σ H Q I) (h2.run pins s σ H Q I)⟩
/-- a comprehension over a dict, locked meanwhile if it isn't yet -/
theorem pe_lockIf (h : PE X e t1) : PE X e (fun σ H Q => t1 σ H Q ∨ tLockE t1 σ H Q) := pe_or2 h (pe_lock h)
end
/-- list(d): the keys, d locked or not -/
def rKeysL : List V → Hp → VK → Prop := fun xs H Q => ∃ p kvs, xs = [.ref p] ∧ Rd H p (.dK kvs) ∧ ∀ q, H q = none → Q (.ref q) (upd H q (.lst (kvs.map fun kv => kV kv.1)))
theorem call_keysL {X : Cx} (hc : X.calm = true) : CallR X (.type "list") rKeysL := by
  rintro pins s σ H xs us Q I r ⟨p, kvs, rfl, hk, q⟩
  obtain ⟨u, rfl, rx⟩ := vals1 r
  obtain rfl : u = Value.ref p := rx
  obtain ⟨z, lo, vs, rk, hd⟩ := dk_rd I.hok hk
  obtain ⟨ep, hat⟩ := hd.dictAt
  have hl := Paired.length rk
  refine PySem.W.kdl_call (PySem.W.kdl_dict (knd := mixKind X.prog X.w) (kvs := vs) (ep := ep) lo) (I.ok.hd hc) hat (by omega) ?_
  intro h' tk acc' c' hkeep hS hacc
  have new : ObjOk X.prog X.w (upd H s.heap.objs.size (.lst (kvs.map fun kv => kV kv.1))) h' s.heap.objs.size (.lst (kvs.map fun kv => kV kv.1)) := by
    refine ⟨by rw [List.length_map]; exact z, acc'.toList, c', vals_of_at ?_ ?_, ?_⟩
    · have el : acc'.toList.length = acc'.size := by simp
      rw [List.length_map, el, hacc.1, hl]
    · intro j x w h1 h2
      obtain ⟨k, y, hky, hi⟩ := hacc.2 j w (by rw [← Array.getElem?_toList]; exact h2)
      have e1 : (kvs.map (·.1))[j]? = some k := by
        rw [KV.keys rk, List.getElem?_map, hky]
        rfl
      rw [List.getElem?_map] at h1 e1
      cases e : kvs[j]? with
      | none => rw [e] at h1; cases h1
      | some kv =>
        rw [e] at h1 e1
        have e2 : kv.1 = k := Option.some.inj e1
        have e3 : kV kv.1 = x := Option.some.inj h1
        subst e3
        rw [e2]
        rcases keyIs_shape hi with ⟨i, t, rfl, ev⟩ | ⟨sx, t, rfl, ev⟩
        · exact ⟨t, ev⟩
        · exact ⟨t, ev⟩
    · simpa using hS
  exact ⟨.ref s.heap.objs.size, _, I.laid hkeep (Nat.le_refl _) new, rfl, q _ (I.hok.fresh (Nat.le_refl _))⟩

/-! ### alike -/
mutual
def likeD : PyData → PyData → Bool
  | .none, e => (match e with | .none => true | _ => false)
  | .bool a, e => (match e with | .bool b => a == b | _ => false)
  | .int a, e => (match e with | .int b => a == b | _ => false)
  | .str a, e => (match e with | .str b => a == b | _ => false)
  | .list ds, e => (match e with | .list es => decide (ds.length = es.length) && likeAll ds es | _ => false)
  | .tuple ds, e => (match e with | .tuple es => decide (ds.length = es.length) && likeAll ds es | _ => false)
  | .dict ds, e => (match e with | .dict es => likeKv ds es | _ => false)
def likeAll : List PyData → List PyData → Bool
  | [], _ => true
  | d :: ds, es => (match es with | e :: es => likeD d e && likeAll ds es | [] => true)
def likeKv : List (PyData × PyData) → List (PyData × PyData) → Bool
  | [], _ => true
  | (_, d) :: ds, es => (match es with | (_, e) :: es => likeD d e && likeKv ds es | [] => true)
end
theorem likeAll_range : ∀ (ds es : List PyData), ds.length = es.length → likeAll ds es = ((List.range ds.length).map fun i => likeD (ds.getD i .none) (es.getD i .none)).all id
  | [], [], _ => by simp [likeAll]
  | [], _ :: _, h => by simp at h
  | _ :: _, [], h => by simp at h
  | d :: ds, e :: es, h => by
    have ih := likeAll_range ds es (by simpa using h)
    simp only [likeAll, List.length_cons, List.range_succ_eq_map, List.map_cons, List.all_cons, List.map_map]
    rw [ih]
    rfl

/-! ### isinstance as a value told by data -/
section
variable {K : PySem.W.Frag} {σ : L2.St} {H : Hp} {v : V} {d : PyData} {i : Nat} {T : String}
theorem ev_isi (r : Rp K H v d) (hv : σ[i]? = some (some v)) (h : T = "list" ∨ T = "tuple" ∨ T = "dict" ∨ T = "bool" ∨ T = "int" ∨ T = "str") :
    Evl.Ev (tCB (rIsi K) (tCons (tVar i) (tCons (tC (.ty T)) tNil))) σ H (.bl (kitD d T)) := fun H1 e Q q =>
  ⟨v, hv, isi (r.mono e) (Evl.Ex.refl _) (kitB_D d h) (q H1 (Evl.Ex.refl _))⟩
end

/-! ### comprehensions whose items are told values -/
section
variable {J : It} {n : Nat} {G : Hp → Prop} {Y : Nat → Hp → V → Hp → Prop} {g : TG} {te : TE} {vs : List Nat} {σ : L2.St} {H1 : Hp} {Q : VK}
theorem lc_vals (w : Walk J n G Y) (vals : Nat → V) (hz : n ≤ 100000) (hG : ∀ H, Ex H1 H → G H)
    (turn : ∀ (i : Nat) (x : V) (H H' : Hp) (Qy : VK), i < n → Ex H1 H → Y i H x H' → (∀ H4, Ex H H4 → Qy (vals i) H4) → g x (wipe σ vs) H' fun σ2 H2 => wipe σ2 vs = wipe σ vs ∧ te σ2 H2 Qy)
    (k : ∀ D H, H1 D = none → H D = some (.lst ((List.range n).map vals)) → Ex H1 H → Q (.ref D) H) :
    ∀ D, H1 D = none → ∃ W : Nat → Nat → Hp → Prop, (∃ m, W 0 m (upd H1 D (.lst []))) ∧ ∀ i m H, W i m H →
      (J.stop i H ∧ Q (.ref D) H) ∨ (J.go i H ∧ ∃ Nx : Hp → Prop, (∀ H', Nx H' → ∃ m', m' < m ∧ W (i + 1) m' H') ∧ ∀ x H', J.yld i H x H' → g x (wipe σ vs) H' fun σ2 H2 => wipe σ2 vs = wipe σ vs ∧ tYes σ2 H2 fun b H3 =>
        if b = true then te σ2 H3 fun y H4 => ∃ acc, H4 D = some (.lst acc) ∧ acc.length < sizeLine ∧ Nx (upd H4 D (.lst (acc ++ [y]))) else Nx H3) := fun D hD => by
  refine lc_it w (fun i H => H D = some (.lst ((List.range i).map vals)) ∧ Ex H1 H) ⟨upd_same, Evl.Ex.new hD⟩ (fun i H _ p => hG H p.2) (fun i x H H' hi p y => ?_) fun H p => k D H hD p.1 p.2
  refine turn i x H H' _ hi p.2 y fun H4 e4 => ?_
  refine ⟨_, e4 _ _ p.1, Evl.sz_lt (by rw [List.length_map, List.length_range]; omega), ?_, (p.2.trans e4).mut hD⟩
  rw [List.range_succ, List.map_append]
  exact upd_same
theorem walk_zipT {K : PySem.W.Frag} {a b : Addr} {xs ys : List V} {n : Nat} (hn : n = min xs.length ys.length) : Walk (RZ.ItzT K a b) n (fun H => SqT K H a xs ∧ SqT K H b ys) (YPair (fun i => xs[i]?) (fun i => ys[i]?)) := by
  subst hn
  constructor
  · intro i _ hi q
    have h1 : i < xs.length := by omega
    have h2 : i < ys.length := by omega
    exact ⟨xs, ys, xs[i], ys[i], q.1, q.2, List.getElem?_eq_getElem h1, List.getElem?_eq_getElem h2⟩
  · intro _ q
    exact ⟨xs, ys, q.1, q.2, by omega⟩
  · rintro i H v H' _ q ⟨T, x, z, h1, h2, h3, h4, h5⟩
    exact ⟨T, x, z, h1, h2, h3, h4 xs q.1, h5 ys q.2⟩
/-- the keys of a locked dict -/
theorem walk_keysR {d : Addr} {o : Obj} {kvs : List (Key × V)} : Walk (Itk d o kvs) kvs.length (fun H => H d = some (.frz o (.dK kvs))) (fun i H x H' => H' = H ∧ ∃ k v, kvs[i]? = some (k, v) ∧ x = kV k) :=
  ⟨fun i H hi h => ⟨h, hi⟩, fun H h => ⟨h, Nat.le_refl _⟩, fun i H x H' _ _ y => y⟩
end
end Cw

set_option Elab.async false
set_option linter.all false
set_option maxRecDepth 100000
set_option maxHeartbeats 4000000
/-! Cw7: rules whose readings speak of the written part, told with the part by name (so that a comprehension's block does not hide it). -/
namespace Cw
open PySem PySem.Spec PyProof.Rows L2
section
variable {X : Cx}
theorem ixL (K : PySem.W.Frag) (h : X.K = K := by rfl) : IxR X (rIxL K) := by subst h; exact ix_list
theorem ixT (K : PySem.W.Frag) (h : X.K = K := by rfl) : IxR X (rIxT K) := by subst h; exact ix_tup
theorem ixA (K : PySem.W.Frag) (h : X.K = K := by rfl) : IxR X (rIx K) := by subst h; exact ix_seq
theorem inSeq (K : PySem.W.Frag) (h : X.K = K := by rfl) : OpR X (compareOp .In) (rIn K false) := by subst h; exact op_in_seq
theorem notInSeq (K : PySem.W.Frag) (h : X.K = K := by rfl) : OpR X (compareOp .NotIn) (rIn K true) := by subst h; exact op_notIn_seq
theorem eqD (K : PySem.W.Frag) (hu : X.A.units + 64 < cLine) (h : X.K = K := by rfl) : OpR X (compareOp .Eq) (rEqD K) := by subst h; exact op_eqD hu
theorem neD (K : PySem.W.Frag) (hu : X.A.units + 64 < cLine) (h : X.K = K := by rfl) : OpR X (compareOp .NotEq) (rNeD K) := by subst h; exact op_neD hu
theorem eqLeaf (K : PySem.W.Frag) (hu : X.A.units < cLine) (h : X.K = K := by rfl) : OpR X (compareOp .Eq) (rEqLeaf K) := by subst h; exact op_eqLeaf hu
def rLenSq (K : PySem.W.Frag) : List V → Hp → VK → Prop := fun xs H Q => ∃ p ys, xs = [.ref p] ∧ (SqL K H p ys ∨ SqT K H p ys) ∧ Q (.int ys.length) H
def rListOf (K : PySem.W.Frag) : List V → Hp → VK → Prop := fun xs H Q => ∃ p ys, xs = [.ref p] ∧ (SqL K H p ys ∨ SqT K H p ys) ∧ ∀ l, H l = none → Q (.ref l) (upd H l (.lst ys))
def rTupleOf (K : PySem.W.Frag) : List V → Hp → VK → Prop := fun xs H Q => ∃ p ys, xs = [.ref p] ∧ ((SqL K H p ys ∧ ∀ l, H l = none → Q (.ref l) (upd H l (.tup ys))) ∨ (SqT K H p ys ∧ Q (.ref p) H))
theorem lenSq (K : PySem.W.Frag) (h : X.K = K := by rfl) : CallR X (.builtin "len") (rLenSq K) := by subst h; exact call_len_seq
theorem listOf (K : PySem.W.Frag) (h : X.K = K := by rfl) : CallR X (.type "list") (rListOf K) := by subst h; exact call_list_of
theorem tupleOf (K : PySem.W.Frag) (h : X.K = K := by rfl) : CallR X (.type "tuple") (rTupleOf K) := by subst h; exact call_tuple_of
theorem isiC (K : PySem.W.Frag) (h : X.K = K := by rfl) : CallR X (.builtin "isinstance") (rIsi K) := by subst h; exact call_isi
theorem isiTC (K : PySem.W.Frag) (h : X.K = K := by rfl) : CallR X (.builtin "isinstance") (rIsiT K) := by subst h; exact call_isiT
theorem allC (K : PySem.W.Frag) (hc : X.calm = true) (h : X.K = K := by rfl) : CallR X (.builtin "all") (rAll K) := by subst h; exact cr_all hc
theorem anyC (K : PySem.W.Frag) (hc : X.calm = true) (h : X.K = K := by rfl) : CallR X (.builtin "any") (rAny K) := by subst h; exact cr_any hc
theorem slL (K : PySem.W.Frag) (h : X.K = K := by rfl) : SlR X (rSlL K) := by subst h; exact sl_list
theorem slT (K : PySem.W.Frag) (h : X.K = K := by rfl) : SlR X (rSlT K) := by subst h; exact sl_tup
theorem piL (K : PySem.W.Frag) {tg l : Expr} {tl : TE} (hl : PE X l tl) (h : X.K = K := by rfl) : PI X tg l (iList K tl) := by subst h; exact pi_list hl
theorem piT (K : PySem.W.Frag) {tg l : Expr} {tl : TE} (hl : PE X l tl) (h : X.K = K := by rfl) : PI X tg l (iTup K tl) := by subst h; exact pi_tup hl
/-- over a list or a tuple -/
def iSq (K : PySem.W.Frag) (tl : TE) : TI := fun σ H R => iList K tl σ H R ∨ iTup K tl σ H R
theorem piS (K : PySem.W.Frag) {tg l : Expr} {tl : TE} (hl : PE X l tl) (h : X.K = K := by rfl) : PI X tg l (iSq K tl) := by subst h; exact pi_seq hl
theorem pgTup (K : PySem.W.Frag) {es : List Expr} {k : Nat} {pos : Pos} {t : TGs} {n : Nat} (hc : X.calm = true) (h : PGs X es t) (hk : X.K = K := by rfl) (hn : (assignEach es X.env).length = n := by rfl)
    (hs : (assignEach es X.env).findIdx? (·.1) = none := by rfl) : PG X (.Tuple es k pos) (gTup K n t) := by
  subst hk
  exact pg_tup hc h hn hs
end
end Cw

set_option Elab.async false
set_option linter.all false
set_option maxRecDepth 100000
set_option maxHeartbeats 4000000
/-! Cw8: kinds of data, dicts with the drawn keys, alike. -/
namespace Cw
open PySem PySem.Spec PyProof.Rows L2
section
variable {K : PySem.W.Frag} {F : Hp} {v : V}
def isT : PyData → Bool
  | .tuple _ => true
  | _ => false
def isL : PyData → Bool
  | .list _ => true
  | _ => false
def isD : PyData → Bool
  | .dict _ => true
  | _ => false
def isB : PyData → Bool
  | .bool _ => true
  | _ => false
def isI : PyData → Bool
  | .int _ => true
  | .bool _ => true
  | _ => false
theorem kit_t (d : PyData) : kitD d "tuple" = isT d := by cases d <;> rfl
theorem kit_l (d : PyData) : kitD d "list" = isL d := by cases d <;> rfl
theorem kit_d (d : PyData) : kitD d "dict" = isD d := by cases d <;> rfl
theorem kit_b (d : PyData) : kitD d "bool" = isB d := by cases d <;> rfl
theorem kit_i (d : PyData) : kitD d "int" = isI d := by cases d <;> rfl
theorem kit_seq {d e : PyData} (h : (kitD d "tuple" && kitD e "tuple" || kitD d "list" && kitD e "list") = true) : (∃ ds es, d = .tuple ds ∧ e = .tuple es) ∨ ∃ ds es, d = .list ds ∧ e = .list es := by
  rw [kit_t, kit_t, kit_l, kit_l] at h
  cases d <;> cases e <;> first | exact .inl ⟨_, _, rfl, rfl⟩ | exact .inr ⟨_, _, rfl, rfl⟩ | exact Bool.noConfusion h
theorem kit_dict {d e : PyData} (h : (kitD d "dict" && kitD e "dict") = true) : ∃ ds es, d = .dict ds ∧ e = .dict es := by
  rw [kit_d, kit_d] at h
  cases d <;> cases e <;> first | exact ⟨_, _, rfl, rfl⟩ | exact Bool.noConfusion h
theorem like_kinds (d e : PyData) (h : ((!decide (V.bl (isB d) = V.bl (isB e))) || (!decide (V.bl (isI d) = V.bl (isI e)))) = true) : likeD d e = false := by
  cases d <;> cases e <;> first | (simp only [likeD]; done) | (revert h; simp [isB, isI])
theorem like_leaf (d e : PyData) (h1 : (isT d && isT e || isL d && isL e) = false) (h2 : (isD d && isD e) = false) (h3 : ((!decide (V.bl (isB d) = V.bl (isB e))) || (!decide (V.bl (isI d) = V.bl (isI e)))) = false) : leafy d e = true ∧ leafEq d e = likeD d e := by
  cases d <;> cases e <;> first | (refine ⟨rfl, ?_⟩; simp only [leafEq, likeD]; done) | exact Bool.noConfusion h1 | exact Bool.noConfusion h2 | (revert h3; simp [isB, isI]; done)
theorem shaped_keys : SeqAt.shaped (.list [.str "a", .int 1]) = true := by decide +kernel
/-- the two keys of the drawn dicts -/
def kA : Key := .inr "a"
def k1 : Key := .inl 1
theorem Rp.dict2 {ds : List (PyData × PyData)} (r : Rp K F v (.dict ds)) (h : keysOk ds = true) : ∃ a x y d1 d2, v = .ref a ∧ Rd F a (.dK [(kA, x), (k1, y)]) ∧ Rp K F x d1 ∧ Rp K F y d2 ∧ ds = [(.str "a", d1), (.int 1, d2)] := by
  cases r with
  | dic hr hk =>
    match hk with
    | .nil => exact absurd h (by decide)
    | .cons (k := k) (v := x) (d := d1) h1 t =>
      match t with
      | .nil => exact absurd h (by cases k <;> exact Bool.false_ne_true)
      | .cons (k := k') (v := y) (d := d2) h2 t2 =>
        match t2 with
        | .cons _ _ => exact absurd h (by cases k <;> cases k' <;> exact Bool.false_ne_true)
        | .nil =>
          cases k with
          | inl i => exact absurd h (by cases k' <;> exact Bool.false_ne_true)
          | inr s =>
            cases k' with
            | inr s2 => exact absurd h Bool.false_ne_true
            | inl i =>
              simp only [keyD, keysOk, Bool.and_eq_true, decide_eq_true_eq] at h
              obtain ⟨rfl, rfl⟩ := h
              exact ⟨_, x, y, d1, d2, rfl, hr, h1, h2, rfl⟩
theorem depthKv_two {d1 d2 : PyData} : PyData.depth (.dict [(.str "a", d1), (.int 1, d2)]) = max d1.depth d2.depth + 1 := by
  simp [PyData.depth, PyData.depthKv]
theorem okKv_two {x y d1 d2 : PyData} (h : okKv [(x, d1), (y, d2)] = true) : okD d1 = true ∧ okD d2 = true := by
  simpa [okKv] using h
theorem likeKv_two {x y z w d1 d2 e1 e2 : PyData} : likeKv [(x, d1), (y, d2)] [(z, e1), (w, e2)] = (likeD d1 e1 && likeD d2 e2) := by
  simp [likeKv]
end
end Cw

set_option Elab.async false
set_option linter.all false
set_option maxRecDepth 100000
set_option maxHeartbeats 4000000
/-! Cw9: drawn data; steps that draw and make. -/
namespace Cw
open PySem PySem.Spec PyProof.Rows L2
theorem cut_ints (ns : List Int) (lo hi : Option Int) : ∃ ms : List Int, cutV (ns.map V.int) lo hi = ms.map V.int ∧ ms.length ≤ ns.length :=
  ⟨(ns.drop (HT.sIx (ns.map V.int).length 0 lo)).take (HT.sIx (ns.map V.int).length (ns.map V.int).length hi - HT.sIx (ns.map V.int).length 0 lo), by unfold cutV; rw [List.map_take, List.map_drop], by rw [List.length_take, List.length_drop]; omega⟩
/-! ### drawn data -/
def leafI (i : Int) : Bool := decide (i = 0) || (decide (i = 1) || (decide (i = -1) || decide (i = 10 ^ 59)))
def leafS (x : Str) : Bool := decide (x = "") || (decide (x = "a") || (decide (x = "ann") || (decide (x = "1") || (decide (x = "stairs") || decide (x = "bound")))))
mutual
def drD : PyData → Bool
  | .none => true
  | .bool _ => true
  | .int i => leafI i
  | .str x => leafS x
  | .list ds => decide (ds.length ≤ 4) && drAll ds
  | .tuple ds => decide (ds.length ≤ 4) && drAll ds
  | .dict kvs => keysOk kvs && drKv kvs
def drAll : List PyData → Bool
  | [] => true
  | d :: ds => drD d && drAll ds
def drKv : List (PyData × PyData) → Bool
  | [] => true
  | (_, d) :: r => drD d && drKv r
end
mutual
theorem drD.ok : ∀ {d : PyData}, drD d = true → okD d = true
  | .none, _ => by simp only [okD]
  | .bool _, _ => by simp only [okD]
  | .int _, _ => by simp only [okD]
  | .str _, _ => by simp only [okD]
  | .list ds, h => by
    simp only [drD, okD, Bool.and_eq_true, decide_eq_true_eq] at h ⊢
    exact ⟨by omega, drAll.ok h.2⟩
  | .tuple ds, h => by
    simp only [drD, okD, Bool.and_eq_true, decide_eq_true_eq] at h ⊢
    exact ⟨by omega, drAll.ok h.2⟩
  | .dict kvs, h => by
    simp only [drD, okD, Bool.and_eq_true] at h ⊢
    exact ⟨h.1, drKv.ok h.2⟩
theorem drAll.ok : ∀ {ds : List PyData}, drAll ds = true → okAll ds = true
  | [], _ => by simp only [okAll]
  | d :: ds, h => by
    simp only [drAll, okAll, Bool.and_eq_true] at h ⊢
    exact ⟨drD.ok h.1, drAll.ok h.2⟩
theorem drKv.ok : ∀ {ds : List (PyData × PyData)}, drKv ds = true → okKv ds = true
  | [], _ => by simp only [okKv]
  | (x, d) :: ds, h => by
    simp only [drKv, okKv, Bool.and_eq_true] at h ⊢
    exact ⟨drD.ok h.1, drKv.ok h.2⟩
end
theorem drAll_snoc : ∀ {ds : List PyData} {d : PyData}, drAll ds = true → drD d = true → drAll (ds ++ [d]) = true
  | [], d, _, h => by simp [drAll, h]
  | x :: ds, d, h, h2 => by
    simp only [drAll, Bool.and_eq_true] at h
    simp only [List.cons_append, drAll, h.1, drAll_snoc h.2 h2, Bool.and_self]
theorem depthAll_snoc : ∀ {ds : List PyData} {d : PyData} {k : Nat}, PyData.depthAll ds ≤ k → d.depth ≤ k → PyData.depthAll (ds ++ [d]) ≤ k
  | [], d, k, _, h => by simp [PyData.depthAll]; exact h
  | x :: ds, d, k, h, h2 => by
    simp only [PyData.depthAll] at h
    simp only [List.cons_append, PyData.depthAll]
    have := depthAll_snoc (ds := ds) (d := d) (k := k) (by omega) h2
    omega
/-! ### steps -/
/-- from H, what is frozen F, to H', F': all but the pen at p is kept, what is frozen grows by new things -/
structure Stp (p : Addr) (H F H' F' : Hp) : Prop where
  kp : Kp p H H'
  ff : Ex F F'
  fh : Ex F' H'
  fp : F' p = none
  nw : New H F F'
theorem Stp.refl {p : Addr} {H F : Hp} (e : Ex F H) (h : F p = none) : Stp p H F H F := ⟨Kp.refl _ _, Evl.Ex.refl _, e, h, New.refl _ _⟩
theorem Stp.trans {p : Addr} {H F H1 F1 H2 F2 : Hp} (a : Stp p H F H1 F1) (b : Stp p H1 F1 H2 F2) (hp : H1 p ≠ none) : Stp p H F H2 F2 :=
  ⟨a.kp.trans b.kp, a.ff.trans b.ff, b.fh, b.fp, a.nw.trans (a.kp.back hp) b.nw⟩
/-- only the pen went on -/
theorem Stp.pen {p : Addr} {H F H' : Hp} (e : Ex F H) (h : F p = none) (k : Kp p H H') : Stp p H F H' F :=
  ⟨k, Evl.Ex.refl _, fun a o z => k a o (fun q => by rw [q, h] at z; cases z) (e a o z), h, New.refl _ _⟩
/-- something new was laid, and counts as frozen -/
theorem Stp.lay {p q : Addr} {H F : Hp} {o : HO} (e : Ex F H) (h : F p = none) (hq : H q = none) (ne : q ≠ p) : Stp p H F (upd H q o) (upd F q o) :=
  ⟨Kp.new hq, ex_updF (fresh_in e hq), ex_upd2 e, by rw [upd_ne (Ne.symm ne)]; exact h, New.upd hq⟩
theorem kp_l {K : PySem.W.Frag} {H H' : Hp} {p l : Addr} {xs : List V} (k : Kp p H H') (ne : l ≠ p) (h : SqL K H l xs) : SqL K H' l xs := h.imp (fun r => r.imp (k l _ ne) fun ⟨o, e⟩ => ⟨o, k l _ ne e⟩) id
theorem PenAt.some {H : Hp} {p c : Addr} {n : Nat} (h : PenAt H p c n) : H p ≠ none := by
  obtain ⟨cells, lap, left, h1, _⟩ := h
  rw [h1]
  simp
theorem PenAt.lay {H : Hp} {p c q : Addr} {n : Nat} {o : HO} (h : PenAt H p c n) (hq : H q = none) : PenAt (upd H q o) p c n := h.ex (Evl.Ex.new hq)
end Cw
namespace Cw
open PySem PySem.Spec PyProof.Rows L2
section
variable {K : PySem.W.Frag} {p c : Addr} {H1 F1 : Hp} {n0 cs dp : Nat}
/-- what holds between two turns of a comprehension whose items are drawn -/
def LcD (K : PySem.W.Frag) (p c : Addr) (H1 F1 : Hp) (n0 cs dp : Nat) (D : Addr) (i : Nat) (H : Hp) : Prop :=
  ∃ ys ds F m, H D = some (.lst ys) ∧ RpA K F ys ds ∧ ys.length = i ∧ F D = none ∧ Stp p H1 F1 H F ∧ PenAt H p c m ∧ m ≤ n0 + i * cs ∧ drAll ds = true ∧ PyData.depthAll ds ≤ dp
/-- [e for x in ..], each item drawn -/
theorem lc_draw {J : It} {n : Nat} {G : Hp → Prop} {Y : Nat → Hp → V → Hp → Prop} {g : TG} {te : TE} {vs : List Nat} {σ : L2.St} {D : Addr} {Qd : Hp → Prop} (hD : H1 D = none) (w : Walk J n G Y) (hz : n ≤ 7) (hG : ∀ H F, Stp p H1 F1 H F → G H) (e1 : Ex F1 H1) (fp : F1 p = none) (hp : PenAt H1 p c n0)
    (turn : ∀ (i : Nat) (x : V) (H H' F : Hp) (m : Nat) (Qy : VK), i < n → Y i H x H' → PenAt H p c m → F p = none → Ex F H → Ex F1 F → m ≤ n0 + i * cs →
      (∀ r d H2 F' m', Stp p H F H2 F' → PenAt H2 p c m' → m' ≤ m + cs → Rp K F' r d → drD d = true → d.depth ≤ dp → Qy r H2) → g x (wipe σ vs) H' fun σ2 H2 => wipe σ2 vs = wipe σ vs ∧ te σ2 H2 Qy)
    (k : ∀ ys ds F H m, H D = some (.lst ys) → RpA K F ys ds → ys.length = n → F D = none → Stp p H1 F1 H F → PenAt H p c m → m ≤ n0 + n * cs → drAll ds = true → PyData.depthAll ds ≤ dp → Qd H) :
    ∃ W : Nat → Nat → Hp → Prop, (∃ m, W 0 m (upd H1 D (.lst []))) ∧ ∀ i m H, W i m H →
      (J.stop i H ∧ Qd H) ∨ (J.go i H ∧ ∃ Nx : Hp → Prop, (∀ H', Nx H' → ∃ m', m' < m ∧ W (i + 1) m' H') ∧ ∀ x H', J.yld i H x H' → g x (wipe σ vs) H' fun σ2 H2 => wipe σ2 vs = wipe σ vs ∧ tYes σ2 H2 fun b H3 =>
        if b = true then te σ2 H3 fun y H4 => ∃ acc, H4 D = some (.lst acc) ∧ acc.length < sizeLine ∧ Nx (upd H4 D (.lst (acc ++ [y]))) else Nx H3) := by
  have hne : D ≠ p := hp.ne hD
  have hnc : D ≠ c := hp.neC hD
  refine lc_it w (LcD K p c H1 F1 n0 cs dp D) ⟨[], [], F1, n0, upd_same, .nil, rfl, fresh_in e1 hD, ⟨Kp.new hD, Evl.Ex.refl _, e1.trans (Evl.Ex.new hD), fp, New.refl _ _⟩, hp.lay hD, by omega, by simp only [drAll], by simp [PyData.depthAll]⟩ (fun i H _ q => let ⟨_, _, F, _, _, _, _, _, h5, _⟩ := q; hG H F h5) (fun i x H H' hi q y => ?_) fun H q => ?_
  · obtain ⟨ys, ds, F, m, h1, h2, h3, h4, h5, h6, h7, h8, h9⟩ := q
    refine turn i x H H' F m _ hi y h6 h5.fp h5.fh h5.ff h7 fun r d H2 F' m' s1 s2 s3 s4 s5 s6 => ?_
    have fD : F' D = none := s1.nw.free h4 (by rw [h1]; simp)
    have hD2 : H2 D = some (.lst ys) := s1.kp D _ hne h1
    have st := h5.trans s1 h6.some
    refine ⟨ys, hD2, Evl.sz_lt (by omega), ys ++ [r], ds ++ [d], F', m', upd_same, (h2.mono s1.ff).snoc s4, by rw [List.length_append, h3]; rfl, fD, ⟨fun a o na ha => ?_, st.ff, st.fh.mut fD, st.fp, st.nw⟩, s2.put hne hnc, ?_, drAll_snoc h8 s5, depthAll_snoc h9 s6⟩
    · rw [upd_ne (fun e => by rw [e, hD] at ha; cases ha)]
      exact st.kp a o na ha
    · have : (i + 1) * cs = i * cs + cs := Nat.succ_mul i cs
      omega
  · obtain ⟨ys, ds, F, m, h1, h2, h3, h4, h5, h6, h7, h8, h9⟩ := q
    exact k ys ds F H m h1 h2 h3 h4 h5 h6 h7 h8 h9
end
end Cw
namespace Cw
open PySem PySem.Spec
theorem drD_two {d1 d2 : PyData} (h1 : drD d1 = true) (h2 : drD d2 = true) : drD (.dict [(.str "a", d1), (.int 1, d2)]) = true := by
  have e : keysOk [(PyData.str "a", d1), (.int 1, d2)] = true := rfl
  simp only [drD, drKv, h1, h2, Bool.and_true]
  exact e
end Cw

set_option Elab.async false
set_option linter.all false
set_option maxRecDepth 100000
set_option maxHeartbeats 4000000
/-! Cs1: a method whose first statement is super().__init__(..). -/
namespace Cw
open PySem PySem.Spec PyProof.Rows L2 NdefX
/-- a statement whose run asks which code runs -/
structure PSa (X : Cx) (body : List Stmt) (st : Stmt) (t : TS) : Prop where
  run : ∀ (pins : List (Addr × Obj)) (s : Shared) (σ : L2.St) (H : Hp) (D : Ends), Inv X pins σ H s → t D σ H → _root_.PySem.wpAt (model X.prog X.w) X.A (.func body X.env) (exec st X.env) (SP X pins D) X.xe s
/-- the words of such a method -/
abbrev supF (name qual : Str) (params : Arguments) (body : List Stmt) (scope : Scope) (c cc : Addr) : NF := ⟨name, qual, params, body, scope, [("__class__", cc)], c⟩
section
variable {CX : CXT} {P : Program} {w : World} {K : PySem.W.Frag} {mg : Str → Option Value} {base : Heap} {k : Nat} {f c cc D : Addr} {name qual : Str} {params : Arguments} {st : Stmt} {rest : List Stmt} {scope : Scope} {dV kV doc pm ct oc ccl : Value} {an od ccd : Option Addr}
  {osl ccs : Array (Option Value)} {N ps : List Str} {sp : Sp}
theorem fn_sup (lk : K.lookup f = some ⟨oc, od, .func (PySem.W.ksFn name qual params (st :: rest) scope dV kV doc pm an (.ref c) ct cc), osl⟩) (hcd : PySem.W.codeIn K (.ref c) qual = true) (S : NScope N ps ["__class__"] scope)
    (hcc : K.lookup cc = some ⟨ccl, ccd, .cell (some (.ref D)), ccs⟩) (len : ∀ vs H Q E, sp vs H Q E → vs.length = ps.length)
    (hbody : ∀ (A : Around) (outer : List Env) (s : Shared) (H : Hp) (vs : List V) (Q : VK) (E : XK), Room k (A.deeper (envF (supF name qual params (st :: rest) scope c cc) f s.heap.objs.size)) → sp vs H Q E →
      ∃ t1 t2, PSa (ncx CX P w K mg base N (supF name qual params (st :: rest) scope c cc) f A outer s H E) (st :: rest) st t1 ∧ PSs (ncx CX P w K mg base N (supF name qual params (st :: rest) scope c cc) f A outer s H E) rest t2 ∧
        tSeq t1 t2 { nx := fun _ H' => Q .non H', rt := Q } (startF N vs [some (.ref D)]) H) :
    FnOk P w K mg base CX (k + 1) f (PySem.W.ksFn name qual params (st :: rest) scope dV kV doc pm an (.ref c) ct cc) ps sp := by
  refine ⟨len, fun A outer s H args us vs Q E hr e0 hb r hsp => ?_⟩
  have hl := len _ _ _ _ hsp
  have KX : K.In s.heap := e0.mod.kin.keeps fun b o e => (e0.bs b o e).1
  have lim : s.heap.NoLimit := e0.mod.nolimit.keeps fun b o e => (e0.bs b o e).1
  have C : CellsAt [(("__class__" : Str), cc)] ["__class__"] [some (V.ref D)] s.heap H := by
    have h1 : s.heap.IsCell cc (some (.ref D)) := ⟨_, KX _ _ hcc, rfl⟩
    have h2 : H cc = none := (e0.bs cc _ (e0.mod.kin _ _ hcc)).2
    have h0 : ∀ (y : Str) (c' : Addr), List.lookup y [(("__class__" : Str), cc)] = some c' → y = "__class__" ∧ c' = cc := fun y c' h => by
      simp only [List.lookup] at h
      split at h
      · rename_i e
        exact ⟨by simpa using e, (Option.some.inj h).symm⟩
      · cases h
    refine ⟨rfl, fun y c' h => ?_, fun x y c' h1 h2 => ?_, fun i y h => ?_⟩
    · obtain ⟨rfl, rfl⟩ := h0 y c' h
      exact ⟨h2, _, h1⟩
    · rw [(h0 x c' h1).1, (h0 y c' h2).1]
    · cases i with
      | succ i => simp at h
      | zero =>
        obtain rfl : ("__class__" : Str) = y := by simpa using h
        refine ⟨cc, by simp [List.lookup], fun v hv => ?_⟩
        obtain rfl : V.ref D = v := by simpa using hv
        exact ⟨.ref D, rfl, h1⟩
  refine codeAny_call_function hr.depth (KX _ _ lk) rfl S.co S.gen rfl (PySem.W.codeRec_of KX hcd) (hb _ _ _ _ ?_)
  refine wpAny_newFunctionEnv S.nocell (fun ⟨n, _⟩ hy => S.par n (List.of_mem_zip hy).1) (fun h₁ hns hsb => ⟨lim.fresh _ hsb, ?_⟩) S.kind
  show codeAny _ _ (.func (st :: rest) (envF (supF name qual params (st :: rest) scope c cc) f s.heap.objs.size)) _ _
  refine PySem.ks_codeAny_funcAt ?_
  have kp : ∀ b o, s.heap.get? b = some o → h₁.get? b = some o := fun b o e => hsb.extBut b o (Nat.ne_of_lt (Heap.lt_size e)) (Heap.get?_push_of_some _ e)
  obtain ⟨t1, t2, g1, g2, hq⟩ := hbody A outer s H vs Q E (hr.deeper _) hsp
  have I : Inv (ncx CX P w K mg base N (supF name qual params (st :: rest) scope c cc) f A outer s H E) [] (startF N vs [some (.ref D)]) H { s with heap := h₁, toks := s.toks + (ps.zip us).length } := inv_startN S hr.hd e0 hl r C hns kp
  have fin : ∀ {σ' : L2.St} {H' : Hp} {v : V} {u : Value} {s' : Shared}, Inv (ncx CX P w K mg base N (supF name qual params (st :: rest) scope c cc) f A outer s H E) [] σ' H' s' → L2.RelV v u → Q v H' → CE outer P w H s Q u s' :=
    fun {σ' H' v u s'} J rv q => ⟨v, H', J.os, J.bare, J.base, J.hok, rv, q⟩
  refine PySem.ks_wpAt_execs_cons (PySem.ks_wpAt_mono (g1.run [] _ (startF N vs [some (.ref D)]) H _ I hq) (fun fl s' hs => ?_) fun e s' hs => hs)
  cases fl with
  | ret u =>
    obtain ⟨v, σ', H', J, rv, q⟩ := hs
    exact fin J rv q
  | brk =>
    obtain ⟨_, _, _, q⟩ := hs
    exact False.elim q
  | cont =>
    obtain ⟨_, _, _, q⟩ := hs
    exact False.elim q
  | next =>
    obtain ⟨σ', H', J, q⟩ := hs
    refine wpAt_of_wpAny (wpAny_mono (g2.run [] _ σ' H' _ J q) (fun fl s2 hs => ?_) fun e s2 hs => hs)
    cases fl with
    | ret u =>
      obtain ⟨v, σ', H', J, rv, q⟩ := hs
      exact fin J rv q
    | next =>
      obtain ⟨σ', H', J, q⟩ := hs
      exact fin (v := V.non) (u := Value.none) J rfl q
    | brk =>
      obtain ⟨_, _, _, q⟩ := hs
      exact False.elim q
    | cont =>
      obtain ⟨_, _, _, q⟩ := hs
      exact False.elim q
end
end Cw

set_option Elab.async false
set_option linter.all false
set_option maxRecDepth 100000
set_option maxHeartbeats 4000000
/-! Cs2: super().__init__(..) over the layer: of an exception, of an instance. -/
namespace Cw
open PySem PySem.Spec PyProof.Rows L2 NdefX
/-- what the context must say that super() may be asked: the method's class D -/
structure SupOk (X : Cx) (D : Addr) : Prop where
  fn : ∃ (f : Addr) (oc : Value) (od : Option Addr) (fd : FuncData) (osl : Array (Option Value)) (ar : Arg), X.env.func = some f ∧ X.K.lookup f = some ⟨oc, od, .func fd, osl⟩ ∧ (fd.params.posonlyargs ++ fd.params.args).head? = some ar ∧ X.N[0]? = some ar.arg ∧ X.env.kindOf ar.arg = some .local
  code : ∃ (c : Addr) (ccl : Value) (cdd : Option Addr) (vs : Array Value) (ccs : Array (Option Value)) (file : Str) (tf : Tok), X.env.code = .ref c ∧ X.K.lookup c = some ⟨ccl, cdd, .fields vs, ccs⟩ ∧ vs[2]? = some (.str file tf) ∧ ((X.prog.main.file : Str) == file) = true
  ks : X.env.kindOf "super" = some .globalImplicit
  kc : X.env.kindOf "__class__" = some .free
  cell : ∃ (cc : Addr) (cl : Value) (cld : Option Addr) (csl : Array (Option Value)), X.env.cells.lookup ("__class__" : Str) = some cc ∧ X.K.lookup cc = some ⟨cl, cld, .cell (some (.ref D)), csl⟩
  cls : ∃ cdD, PySem.W.clsIn X.K D = some cdD
  top : (X.prog.main.scope.names.lookup ("super" : Str)).isSome = false
  mg : X.mg "super" = none
  opq : PySem.W.nsIn X.K cStatics "thirdparty.any" = some none
section
variable {X : Cx} {D x C : Addr} {pins : List (Addr × Obj)} {s : Shared} {σ : L2.St} {H : Hp}
theorem sup_base {body : List Stmt} {p0 p1 : Pos} {attr : Str} {whole : Sem Value} {ox : Obj} {Q : Value → Shared → Prop} (S : SupOk X D) (I : Inv X pins σ H s) (hx : σ[0]? = some (some (.ref x))) (ho : s.heap.get? x = some ox) (hc : ox.cls = .ref C) (hnc : ∀ c, ox.data ≠ .cls c)
    (hsub : PySem.W.mroIn X.K C (.ref D) = some true) (hat : (attr == ("__class__" : Str)) = false)
    (h : ∀ so s', Inv X pins σ H s' → s'.heap.get? so = some (PySem.W.ks_superObj D x C) → s'.heap.get? x = some ox → Q (.ref so) s') :
    _root_.PySem.wpAt (model X.prog X.w) X.A (.func body X.env) (attributeBase (.Call (.Name "super" p0) [] [] p1) attr X.env whole) Q X.xe s := by
  obtain ⟨f, oc, od, fd, osl, ar, f1, f2, f3, f4, f5⟩ := S.fn
  obtain ⟨c, ccl, cdd, vs, ccs, file, tf, c1, c2, c3, c4⟩ := S.code
  obtain ⟨cc, cl, cld, csl, e1, e2⟩ := S.cell
  obtain ⟨cdD, hD⟩ := S.cls
  have KX : X.K.In s.heap := I.kIn
  obtain ⟨oD, hD1, hD2⟩ : ∃ oD, s.heap.get? D = some oD ∧ oD.data = .cls cdD := by
    unfold PySem.W.clsIn at hD
    split at hD
    · rename_i c d cd' sl hh
      cases hD
      exact ⟨_, KX _ _ hh, rfl⟩
    · cases hD
  obtain ⟨mb, hb1, hb2⟩ := I.mod.blt
  obtain ⟨m, hn, hl⟩ := I.loc
  obtain ⟨u, ru, lu⟩ := hl 0 ar.arg (.ref x) f4 hx (.inl f5)
  have ru : u = Value.ref x := ru
  subst ru
  have hm : m ar.arg = some (.ref x) := by
    rcases lu with ⟨_, q⟩ | ⟨q, _⟩
    · exact q
    · rw [f5] at q
      rcases q with q | q <;> cases q
  refine ks_wpAt_super_base S.ks S.kc hat f1 (KX _ _ f2) rfl f3 c1 (KX _ _ c2) rfl c3 c4 S.top ?_
  refine PySem.W.ks_loadName_global I.ok.kind S.ks (Calls.loadGlobal_builtin (v := .type "super") (by rw [I.ok.glob]; exact I.mod.glob.keeps I.bk) S.mg (by rw [I.ok.blt]; exact hb1.keeps I.bk) ((hb2 _ (by decide)).trans (by decide +kernel)) ⟨rfl, ?_⟩)
  refine wpAny_loadName_free I.ok.kind S.kc e1 ⟨_, KX _ _ e2, rfl⟩ ?_
  refine wpAny_loadName_local I.ok.kind f5 hn hm ?_
  obtain ⟨hh, g, d, t, os⟩ := s
  refine ks_wpAny_isType_cls hD1 hD2 ⟨rfl, ?_⟩
  refine ks_wpAny_call_super hD1 hD2 ho hc hnc (PySem.W.looks_mroIn KX hsub) (fun h' e k => ?_)
  exact h _ _ (I.kept (t' := t) k) e (k _ _ ho)

/-- the bound __init__ called with its arguments, behind the pin -/
theorem call_mw {u a : Addr} {us : List Value} {Q : Value → Shared → Prop} {A : Around} {E : Value → Shared → Prop} (T : OexC X.K C) (I : Inv X pins σ H s) (e : H a = some (exo a C none)) (hu : s.heap.get? u = some (PySem.W.kxs_mw "ValueError.__init__" a)) (hl : us.length ≤ sizeLine)
    (h : ∀ s', Inv X pins σ H s' → Q .none s') : wpAny (model X.prog X.w) A (call (.ref u) us) Q E s := by
  obtain ⟨nm, q, N, bs, bm, sn, sub, ab, col, dd, k0, k1, k2, k3, k5, hC, hbm⟩ := T.cls
  obtain ⟨t1, ho⟩ := exo_at I.hok e
  have hCh := I.kIn _ _ hC
  obtain ⟨hp, g, d, t, os⟩ := s
  have fin : ∀ h' t2, (∀ b o, b ≠ a → hp.get? b = some o → h'.get? b = some o) → h'.get? a = some ({ cls := .ref C, dict := none, data := .fields #[.ref t2, .none, .none, .none, .bool false, .none] } : Obj) → Q .none ⟨h', g, d, t, os⟩ := fun h' t2 k hx => by
    have J := I.write (t' := t) (x := a) (e := a) (o := exo a C none) (by rw [e]; exact True.intro) (.inl rfl) k ⟨_, hx⟩ (exo_ok hx)
    have eu : upd H a (exo a C none) = H := by
      funext b
      by_cases hb : b = a
      · rw [hb, upd_same, e]
      · rw [upd_ne hb]
    rw [eu] at J
    exact h _ J
  refine wpAny_call (codeAny_of_tree ?_)
  show wpAny _ A.in1 (callAny (.ref u) ⟨us, []⟩) _ _ _
  simp only [callAny]
  refine wpAny_bind (wpAny_load hu ?_)
  simp only [PySem.W.kxs_mw, show (Value.type "method-wrapper" == Value.type "method" || Value.type "method-wrapper" == Value.type "builtin_function_or_method" || Value.type "method-wrapper" == Value.type "method-wrapper") = true by decide, if_true]
  refine PySem.W.KFB.if_so (by decide) ?_
  refine wpAny_bind (PySem.W.check_bound_init F.excBase_ValueError.toExcCallFacts hCh ho rfl ?_)
  refine wpAny_bind (wpAny_pure (wpAny_pure ?_))
  refine ⟨plainId_quiet F.excBase_ValueError.init.plain _, codeAny_builtin F.excBase_ValueError.initEntry ?_⟩
  rw [Around.under_plainId F.excBase_ValueError.init.plain _]
  wp_walk
  refine fin _ hp.objs.size (fun b o hb ho => ?_) ?_
  · rw [Heap.get?_update_other _ _ (Ne.symm hb)]
    exact Heap.get?_push_of_some _ ho
  · rw [Heap.get?_update_self _ (Heap.get?_push_of_some _ ho) rfl]
    rfl

/-- what the written part says of an exception class that calls super().__init__ in its own __init__ -/
structure SupE (K : PySem.W.Frag) (C D : Addr) : Prop where
  mro : PySem.W.mroIn K C (.ref D) = some true
  sup : PySem.W.ks_superIn K C D "__init__" = some (some (.builtin "ValueError.__init__"))
  ve : PySem.W.subIn K (.ref C) (.type "ValueError") = some true
/-- super().__init__(..) of an exception: the arguments are looked up, nothing else is told -/
def tSupE (K : PySem.W.Frag) (D : Addr) (ta : TA) : TS := fun E σ H => ∃ x C, σ[0]? = some (some (.ref x)) ∧ OexC K C ∧ SupE K C D ∧ H x = some (exo x C none) ∧ ta σ H fun vs H1 => vs.length ≤ 1000 ∧ H1 x = some (exo x C none) ∧ E.nx σ H1
theorem psa_exc {body : List Stmt} {p0 p1 p2 pos pos' : Pos} {e : Expr} {es : List Expr} {ta : TA} {pl : Sem Bool} (S : SupOk X D) (ha : PA X (e :: es) ta)
    (hs : swapsWith (.Call (.Attribute (.Call (.Name "super" p0) [] [] p1) "__init__" p2) (e :: es) [] pos) none pos'.line X.env = pure false := by rfl)
    (hc : eval (.Call (.Attribute (.Call (.Name "super" p0) [] [] p1) "__init__" p2) (e :: es) [] pos) X.env = (do
      let ov ← attributeBase (.Call (.Name "super" p0) [] [] p1) "__init__" X.env (eval (.Call (.Name "super" p0) [] [] p1) X.env)
      standAt p2.atName
      let (f, first) ← holding [ov] (getMethod ov "__init__" pl)
      callWith pos f first (backTo pos (starEach (e :: es) X.env)) []) := by rfl)
    (he : starEach (e :: es) X.env = (false, eval e X.env) :: starEach es X.env := by rfl) (hpl : (backTo pos (starEach es X.env)).any (·.1) = false := by rfl) :
    PSa X body (.Expr (.Call (.Attribute (.Call (.Name "super" p0) [] [] p1) "__init__" p2) (e :: es) [] pos) pos') (tSupE X.K D ta) := by
  refine ⟨fun pins s σ H E I h => ?_⟩
  obtain ⟨x, C, hx, T, SE, hH, h⟩ := h
  obtain ⟨t1, ho⟩ := exo_at I.hok hH
  refine ks_wpAt_Expr_any (ks_wpAt_MethodCall (pl := pl) (sup_base S I hx ho rfl (fun c => by simp) SE.mro (by decide) fun so s' I1 hso ho1 => ?_) hc) I.quiet hs
  have KX : X.K.In s'.heap := I1.kIn
  have hin : PySem.W.Looks (model X.prog X.w) s'.heap (isInstance (.ref x) (.type "ValueError")) true := PySem.W.Looks.andThen (PySem.W.InstAt.type (od := none) ⟨ho1, rfl, rfl, True.intro⟩) (PySem.W.looks_subIn KX SE.ve)
  have hm := SE.sup
  unfold PySem.W.ks_superIn at hm
  cases hcl : PySem.W.clsIn X.K C with
  | none =>
    rw [hcl] at hm
    cases hm
  | some cd =>
    rw [hcl] at hm
    have hne : x ≠ C := PySem.W.ks_ne (odx := none) KX ⟨ho1, rfl, rfl, True.intro⟩ hcl
    obtain ⟨hh, g, d, t, os⟩ := s'
    refine PySem.W.kxs_getMethod PySem.W.kxs_ValueError hso (PySem.W.looks_opaque KX S.opq) (l₀ := cd.mro) (fun A Q E s k q => wpAny_bind ((PySem.W.looks_clsIn KX hcl) A _ E s k (wpAny_pure q))) rfl KX hm hin hne (by decide) ?_
    have k2 : ∀ b u, hh.get? b = some u → (hh.push (PySem.W.kxs_mw "ValueError.__init__" x)).get? b = some u := fun b u e => Heap.get?_push_of_some _ e
    have I2 := I1.kept (t' := t + 1) k2
    have hu : (hh.push (PySem.W.kxs_mw "ValueError.__init__" x)).get? hh.objs.size = some (PySem.W.kxs_mw "ValueError.__init__" x) := Heap.get?_push_size _ rfl
    have I3 : Inv X ((hh.objs.size, PySem.W.kxs_mw "ValueError.__init__" x) :: pins) σ H _ := I2.pins_of fun p hp => by
      rcases List.mem_cons.mp hp with rfl | hp
      · exact ⟨hu, I1.hok.fresh (Nat.le_refl _), Nat.ne_of_gt I1.lt, I1.nofs (Nat.le_refl _), fun v => by simp [PySem.W.kxs_mw]⟩
      · exact I2.pin p (List.mem_append_right _ hp)
    show wpAny _ _ (callWith pos (.ref hh.objs.size) [] (backTo pos (starEach (e :: es) X.env)) []) _ _ _
    rw [he]
    refine PySem.W.kxs_callWith (i := "ValueError.__init__") (x := x) (by show (false || (backTo pos (starEach es X.env)).any (·.1)) = false; rw [hpl]; rfl) ?_
    have run := ha.run pos _ _ σ H _ I3 h
    rw [he] at run
    refine PySem.Calls.evalArgs_plain (thn run fun us s1 ⟨vs, H1, J, r, hz, hH1, q⟩ => ?_)
    have hu1 : s1.heap.get? hh.objs.size = some (PySem.W.kxs_mw "ValueError.__init__" x) := (J.pin _ (List.mem_append_right _ (List.mem_cons_self ..))).1
    have J1 : Inv X pins σ H1 s1 := J.pins_of fun p hp => J.pin p (List.mem_append_right _ (List.mem_cons_of_mem _ hp))
    refine ⟨hu1, ?_⟩
    exact call_mw T J1 hH1 hu1 (by show us.length ≤ sizeLine; rw [← Paired.length r, sizeLine_eq]; omega) fun s2 J2 => ⟨σ, H1, J2, q⟩
end
end Cw

set_option Elab.async false
set_option linter.all false
set_option maxRecDepth 100000
set_option maxHeartbeats 4000000
/-! Cs3: super().__init__(..) of an instance, the base's __init__ a def of the text. -/
namespace Cw
open PySem PySem.Spec PyProof.Rows L2 NdefX
structure SupI (K : PySem.W.Frag) (C D g : Addr) : Prop where
  mro : PySem.W.mroIn K C (.ref D) = some true
  sup : PySem.W.ks_superIn K C D "__init__" = some (some (.ref g))
  ty : PySem.W.typeIn K (.ref g) = some (.type "function")
  fn : PySem.W.fnIn K g = true
def tSupI (K : PySem.W.Frag) (D g : Addr) (sp : Sp) (E : XK) (ta : TA) : TS := fun D' σ H => ∃ x C dx fs, σ[0]? = some (some (.ref x)) ∧ SupI K C D g ∧ H x = some (.ins C dx fs) ∧ ta σ H fun vs H1 => sp (.ref x :: vs) H1 (fun _ H2 => D'.nx σ H2) E
section
variable {X : Cx} {D g : Addr}
theorem psa_ins {CX : CXT} {k : Nat} {sp : Sp} {E : XK} {body : List Stmt} {p0 p1 p2 pos pos' : Pos} {e : Expr} {es : List Expr} {ta : TA} {pl : Sem Bool} (S : SupOk X D) (F : FnR X.prog X.w X.K X.mg X.base CX k g sp) (hr : Room k X.A) (hx : Passes CX X E) (ha : PA X (e :: es) ta)
    (hs : swapsWith (.Call (.Attribute (.Call (.Name "super" p0) [] [] p1) "__init__" p2) (e :: es) [] pos) none pos'.line X.env = pure false := by rfl)
    (hc : eval (.Call (.Attribute (.Call (.Name "super" p0) [] [] p1) "__init__" p2) (e :: es) [] pos) X.env = (do
      let ov ← attributeBase (.Call (.Name "super" p0) [] [] p1) "__init__" X.env (eval (.Call (.Name "super" p0) [] [] p1) X.env)
      standAt p2.atName
      let (f, first) ← holding [ov] (getMethod ov "__init__" pl)
      callWith pos f first (backTo pos (starEach (e :: es) X.env)) []) := by rfl)
    (he : starEach (e :: es) X.env = (false, eval e X.env) :: starEach es X.env := by rfl) (hpl : (backTo pos (starEach es X.env)).any (·.1) = false := by rfl) :
    PSa X body (.Expr (.Call (.Attribute (.Call (.Name "super" p0) [] [] p1) "__init__" p2) (e :: es) [] pos) pos') (tSupI X.K D g sp E ta) := by
  refine ⟨fun pins s σ H Ee I h => ?_⟩
  obtain ⟨x, C, dx, fs, h0, SI, hH, h⟩ := h
  obtain ⟨ox, od, IA, hdat⟩ := StX.insC_at I (.inr ⟨dx, fs, hH⟩)
  refine ks_wpAt_Expr_any (ks_wpAt_MethodCall (pl := pl) (sup_base S I h0 IA.at_ IA.cls (fun c => by rw [hdat]; simp) SI.mro (by decide) fun so s' I1 hso ho1 => ?_) hc) I.quiet hs
  have KX : X.K.In s'.heap := I1.kIn
  have hm := SI.sup
  obtain ⟨oxA, odA, IA1, _⟩ := StX.insC_at I1 (.inr ⟨dx, fs, hH⟩)
  unfold PySem.W.ks_superIn at hm
  obtain ⟨of, hof, hofc⟩ : ∃ of, s'.heap.get? g = some of ∧ of.cls = .type "function" := by
    have ht' : (X.K.lookup g).map (·.cls) = some (.type "function") := SI.ty
    cases z : X.K.lookup g with
    | none => rw [z] at ht'; cases ht'
    | some of => rw [z] at ht'; exact ⟨of, KX _ _ z, Option.some.inj ht'⟩
  cases hcl : PySem.W.clsIn X.K C with
  | none =>
    rw [hcl] at hm
    cases hm
  | some cd =>
    rw [hcl] at hm
    have hne : x ≠ C := PySem.W.ks_ne KX IA1 hcl
    obtain ⟨hh, gs, d, t, os⟩ := s'
    refine ks_wpAny_getMethod_super hso (PySem.W.looks_opaque KX S.opq) (l₀ := cd.mro) (fun A Q E s k q => wpAny_bind ((PySem.W.looks_clsIn KX hcl) A _ E s k (wpAny_pure q))) rfl KX hm hof hofc hne (by decide) ?_
    have k2 : ∀ b u, hh.get? b = some u → (hh.push (PySem.W.methodObj (.ref g) (.ref x))).get? b = some u := fun b u e => Heap.get?_push_of_some _ e
    have I2 := I1.kept (t' := t + 1) k2
    have hu : (hh.push (PySem.W.methodObj (.ref g) (.ref x))).get? hh.objs.size = some (PySem.W.methodObj (.ref g) (.ref x)) := Heap.get?_push_size _ rfl
    have I3 : Inv X ((hh.objs.size, PySem.W.methodObj (.ref g) (.ref x)) :: pins) σ H _ := I2.pins_of fun p hp => by
      rcases List.mem_cons.mp hp with rfl | hp
      · exact ⟨hu, I1.hok.fresh (Nat.le_refl _), Nat.ne_of_gt I1.lt, I1.nofs (Nat.le_refl _), fun v => by simp [PySem.W.methodObj]⟩
      · exact I2.pin p (List.mem_append_right _ hp)
    show wpAny _ _ (callWith pos (.ref hh.objs.size) [] (backTo pos (starEach (e :: es) X.env)) []) _ _ _
    rw [he]
    have run := ha.run pos _ _ σ H _ I3 h
    rw [he] at run
    refine PySem.W.callWith_of (by show ((false || (backTo pos (starEach es X.env)).any (·.1)) || false) = false; rw [hpl]; rfl) (PySem.W.keeps_M (self := .ref x) SI.fn) ?_
    refine PySem.Calls.evalArgs_plain (thn run fun us s1 ⟨vs, H1, J, r, q⟩ => ?_)
    have hu1 : s1.heap.get? hh.objs.size = some (PySem.W.methodObj (.ref g) (.ref x)) := (J.pin _ (List.mem_append_right _ (List.mem_cons_self ..))).1
    have J1 : Inv X pins σ H1 s1 := J.pins_of fun p hp => J.pin p (List.mem_append_right _ (List.mem_cons_of_mem _ hp))
    refine ⟨⟨hu1, J1.kIn⟩, ?_⟩
    refine wpAny_call (PySem.W.method_call hu1 (codeAny_mono (run_fnR F hr hx J1 (us := .ref x :: us) (vs := .ref x :: vs) (.cons rfl r) q) fun rr s2 hq => ?_))
    cases rr with
    | error e => exact hq
    | ok fl =>
      cases fl with
      | ret u =>
        obtain ⟨v, H', J2, _, q2⟩ := hq
        exact ⟨σ, H', J2, q2⟩
      | next => exact hq
      | brk => exact hq
      | cont => exact hq
end
end Cw

set_option Elab.async false
set_option linter.all false
set_option maxRecDepth 100000
set_option maxHeartbeats 4000000
/-! Cs4: exceptions of the text held as values: made, their fields read, asked for their kind. -/
namespace PySem.W
open PySem PySem.Calls PyProof.Rows
/-- __class__ of an exception that has its dict -/
theorem cw_class_of {prog : Program} {w : World} {K : Frag} {C x : Addr} {ob : Obj} {od : Obj} {Er : Value → Shared → Prop} {G : Option Value → Shared → Prop} {Ar : Around} {sh : Shared}
    (g1 : findIn K (.ref C) "__getattribute__" = some (some (.builtin "BaseException.__getattribute__"))) (g2 : findIn K (.ref C) "__getattr__" = some none) (g3 : subIn K (.ref C) (.type "BaseException") = some true)
    (g4 : (clsIn K C).isSome = true) (g5 : findIn K (.ref C) "__class__" = some (some (.builtin "object.__class__"))) (g6 : specialIn K (.builtin "object.__class__") "__get__" = some (some (.builtin "getset_descriptor.__get__")))
    (g7 : takesIn K (.builtin "object.__class__") = some true) (g8 : mroIn K C (.type "object") = some true) (kin : K.In sh.heap) (at_ : InstAt sh.heap x ob C (some od)) (fin : G (some (.ref C)) { sh with toks := sh.toks + 1 }) :
    wpAny (model prog w) Ar (getAttr? (.ref x) "__class__") G Er sh := by
  have found : findObj K C (some od) "__class__" = some (.bind (.builtin "getset_descriptor.__get__") (.builtin "object.__class__")) := findObj_data g4 g5 g6 g7
  cases sh with
  | mk hh gg dd tt oo =>
    have ty := at_.type (M := model prog w)
    have fg := looks_findIn (M := model prog w) kin g1
    have fa := looks_findIn (M := model prog w) kin g2
    have fo := looks_find (M := model prog w) kin at_ found
    have isB : Looks (model prog w) hh (isInstance (.ref x) (.type "BaseException")) true := ty.andThen (looks_subIn kin g3)
    have n0 : (Value.builtin "BaseException.__getattribute__" == Value.builtin "object.__getattribute__") = false := by decide +kernel
    have n1 : (onTheHeap (Value.ref C) && Value.builtin "BaseException.__getattribute__" == Value.builtin "object.__getattribute__") = false := by rw [n0]; rfl
    have n2 : (false && onTheHeap (Value.builtin "BaseException.__getattribute__")) = false := rfl
    unfold getAttr? getAttrBy? getAttrBy
    apply wpAny_bind
    apply wpAny_mkText
    apply wpAny_bind
    apply wpAny_attempt
    apply wpAny_holding
    apply wpAny_bind
    apply ty.at
    apply wpAny_bind
    apply fg.at
    show wpAny _ _ (if (onTheHeap (Value.ref C) && Value.builtin "BaseException.__getattribute__" == Value.builtin "object.__getattribute__") = true then _ else _) _ _ _
    rw [n1, if_neg Bool.false_ne_true]
    unfold getAttrByItsOwn hookBefore
    apply wpAny_bind
    rw [if_pos (show onTheHeap (Value.ref C) = true from rfl)]
    apply fa.at
    apply wpAny_bind
    apply wpAny_attempt
    apply wpAny_holding
    unfold callGetattribute
    rw [n2, if_neg Bool.false_ne_true]
    unfold boundAndCalled
    rw [PySem.F.excAttr_ValueError.ga.bind (.ref x)]
    apply wpAny_bind
    apply wpAny_pure
    show wpAny _ _ (call (.builtin "BaseException.__getattribute__") [.ref x, .str "__class__" tt]) _ _ _
    refine wpAny_call (codeAny_call_builtin PySem.F.excAttr_ValueError.ga.plain PySem.F.entry_bexc_ga ?_)
    refine @check_slot (model prog w) _ _ ⟨hh, gg, dd, tt + 1, oo⟩ "BaseException.__getattribute__" "BaseException" "__getattribute__" (.ref x) [.str "__class__" tt] [] _ (by decide +kernel) (by decide +kernel) isB (PySem.F.args_bexc_ga (.ref x) (.str "__class__" tt)) ?_
    unfold Builtin.«object.__getattribute__»
    refine wpAny_bind (wpAny_of_eq (a := ((Value.ref x : Value), [Value.str "__class__" tt])) (by first | rfl | (simp only [slotArgs]; rfl)) ?_)
    apply wpAny_bind
    apply wpAny_pure
    apply wpAny_bind
    apply ty.at
    apply wpAny_bind
    apply fo.at
    show wpAny _ _ (holding [Value.builtin "object.__class__"] (call (.builtin "getset_descriptor.__get__") [.builtin "object.__class__", .ref x, .ref C]) >>= ret) _ _ _
    refine wpAny_bind (wpAny_holding (wpAny_call (class_get (s := ⟨hh, gg, dd, tt + 1, oo⟩) (ox := ob) (od := some od) kin at_ g8 ?_)))
    apply wpAny_pure
    show wpAny _ _ (handedOut (.ref C)) _ _ _
    rw [handedOut_of (v := .ref C) rfl]
    first
      | exact wpAny_pure (wpAny_pure fin)
      | exact wpAny_pure fin
      | exact wpAny_pure (wpAny_bind (wpAny_pure (wpAny_pure fin)))
theorem cw_kitx {K : Frag} {C x : Addr} {ob od : Obj} (g1 : findIn K (.ref C) "__getattribute__" = some (some (.builtin "BaseException.__getattribute__"))) (g2 : findIn K (.ref C) "__getattr__" = some none) (g3 : subIn K (.ref C) (.type "BaseException") = some true)
    (g4 : hasDictIn K C = true) (g5 : findIn K (.ref C) "__class__" = some (some (.builtin "object.__class__"))) (g6 : specialIn K (.builtin "object.__class__") "__get__" = some (some (.builtin "getset_descriptor.__get__")))
    (g7 : takesIn K (.builtin "object.__class__") = some true) (g8 : mroIn K C (.type "object") = some true) : KitX K (.ref x) (.ref C) (fun h => InstAt h x ob C (some od)) where
  ty := fun M h X I => I.type
  it := fun M h X I => by
    obtain ⟨cd, hcd, _⟩ := any_some g4
    unfold clsIn at hcd
    split at hcd
    · rename_i c1 d1 cd1 sl1 ho
      exact fun A' Q' E' s' k q => by
        unfold isType loadHead
        exact wpAny_bind (wpAny_loadPart (k _ _ (X _ _ ho)) (wpAny_pure q))
    · cases hcd
  ne := fun h tp dd its n sl X htp => by
    obtain ⟨cd, hcd, _⟩ := any_some g4
    cases hb : (Value.ref C == .ref tp) with
    | false => rfl
    | true =>
      have e : C = tp := Value.ref.inj (beq_iff_eq.mp hb)
      subst e
      unfold clsIn at hcd
      split at hcd
      · rename_i c1 d1 cd1 sl1 ho
        have z := (X _ _ ho).symm.trans htp
        cases z
      · cases hcd
  ca := fun X I k => cw_class_of g1 g2 g3 (by obtain ⟨cd, hc, _⟩ := any_some g4; rw [hc]; rfl) g5 g6 g7 g8 X I k
end PySem.W
namespace Cw
open PySem PySem.Spec PyProof.Rows L2
/-- a made exception of the class at C with the fields fs -/
def ExV (H : Hp) (a C : Addr) (fs : List (Str × V)) : Prop := ∃ dx, H a = some (exo a C (some dx)) ∧ H dx = some (exd dx fs)
theorem ExV.mono {H H' : Hp} {a C : Addr} {fs : List (Str × V)} (e : Ex H H') (h : ExV H a C fs) : ExV H' a C fs := let ⟨dx, h1, h2⟩ := h; ⟨dx, e _ _ h1, e _ _ h2⟩
section
variable {X : Cx} {pins : List (Addr × Obj)} {s : Shared} {σ : L2.St} {H : Hp} {a C : Addr} {fs : List (Str × V)}
theorem ExV.inst (I : Inv X pins σ H s) (h : ExV H a C fs) : ∃ (ob od : Obj) (mA : Str → Option Value), PySem.W.InstAt s.heap a ob C (some od) ∧ (∀ n, PySem.W.lookIn n od = some (mA n)) ∧ ∀ f, RelO (fs.lookup f) (mA f) := by
  obtain ⟨dx, h1, h2⟩ := h
  obtain ⟨t1, e1⟩ := exo_at I.hok h1
  obtain ⟨mA, e2, e3⟩ := exd_at I.hok h2
  obtain ⟨od, e4, e5⟩ := lookIn_ns e2
  exact ⟨_, od, mA, ⟨e1, rfl, rfl, e4⟩, e5, e3⟩
/-- e.f, e a made exception -/
def tOfld (K : PySem.W.Frag) (f : Str) (te : TE) : TE := fun σ H Q => te σ H fun x H1 => ∃ (a C : Addr) (fs : List (Str × V)) (v : V), x = .ref a ∧ ExV H1 a C fs ∧ XfC K C ∧ PySem.W.findIn K (.ref C) f = some none ∧ fs.lookup f = some v ∧ Q v H1
theorem pe_ofld {e : Expr} {te : TE} {pos : Pos} {n : Str} (he : PE X e te) (hb : attributeBase e n X.env (eval e X.env) = eval e X.env := by rfl) : PE X (.Attribute e n pos) (tOfld X.K n te) := by
  refine ⟨fun pins s σ H Q I h => attr_of hb (thn (he.run pins s σ H _ I h) fun u s1 hh => ?_)⟩
  obtain ⟨x, H1, I1, rx, a, C, fs, v, ex, xv, T, hno, l, q⟩ := hh
  subst ex
  obtain rfl : u = Value.ref a := rx
  obtain ⟨ob, od, mA, J, hl, hr⟩ := xv.inst I1
  have hn := hr n
  rw [l] at hn
  obtain ⟨u, hu, ru⟩ := RelO.some_of (v := v) (o := mA n) hn
  exact HandSPX.exc_get I1.kIn J T.ga T.gg T.exC (PySem.W.findObj_own T.hdC hno rfl (by rw [hl, hu])) (handed_of ru) ⟨v, H1, I1.tok _, ru, q⟩
/-- isinstance(e, c) | isinstance(e, (c, ..)), e a made exception -/
def rIsX (K : PySem.W.Frag) : List V → Hp → VK → Prop := fun xs H Q => ∃ (a C : Addr) (fs : List (Str × V)) (c : V) (u : Value) (b : Bool), xs = [.ref a, c] ∧ ExV H a C fs ∧ ExcC K C ∧ ClsV c u ∧ PySem.W.kitOne K (.ref C) u = some b ∧ Q (.bl b) H
def rIsXT (K : PySem.W.Frag) : List V → Hp → VK → Prop := fun xs H Q => ∃ (a C tp : Addr) (fs : List (Str × V)) (cs : List V) (us : List Value) (b : Bool), xs = [.ref a, .ref tp] ∧ ExV H a C fs ∧ ExcC K C ∧ H tp = some (.tup cs) ∧ Paired ClsV cs us ∧
  PySem.W.kitAny K (.ref C) us = some b ∧ Q (.bl b) H
theorem call_isX : CallR X (.builtin "isinstance") (rIsX X.K) := by
  rintro pins s σ H xs us Q I r ⟨a, C, fs, c, u, b, rfl, xv, T, k, e, q⟩
  obtain ⟨u1, u2, rfl, r1, r2⟩ := vals2 r
  obtain rfl : u1 = Value.ref a := r1
  obtain rfl := k.eq r2
  obtain ⟨ob, od, mA, J, _, _⟩ := xv.inst I
  exact PySem.W.kia_one (PySem.W.cw_kitx T.hg T.hk T.hs T.hd T.ha T.hn T.ht T.hm) I.kIn J e (fun z => nomatch z) fun tk => ⟨.bl b, H, I.tok tk, rfl, q⟩
theorem call_isXT : CallR X (.builtin "isinstance") (rIsXT X.K) := by
  rintro pins s σ H xs us Q I r ⟨a, C, tp, fs, cs, ws, b, rfl, xv, T, hT, k, e, q⟩
  obtain ⟨u1, u2, rfl, r1, r2⟩ := vals2 r
  obtain rfl : u1 = Value.ref a := r1
  obtain rfl : u2 = Value.ref tp := r2
  obtain ⟨ob, od, mA, J, _, _⟩ := xv.inst I
  obtain ⟨_, its, rv, ot, h1, h2, n, h3⟩ := (show ObjOk X.prog X.w H s.heap tp (.tup cs) from I.hok tp _ hT)
  obtain rfl := ClsV.all k rv
  obtain ⟨c0, d0, dt0, sl0⟩ := ot
  simp only at h2 h3
  subst h2 h3
  exact PySem.W.kia_tup (PySem.W.cw_kitx T.hg T.hk T.hs T.hd T.ha T.hn T.ht T.hm) I.kIn J h1 e (fun z => nomatch z) fun tk => ⟨.bl b, H, I.tok tk, rfl, q⟩
/-- C(e, ..) as a value, C's own __init__ keeping sp -/
def tMkV (C : Addr) (sp : Sp) (ta : TA) : TE := fun σ H Q => ta σ H fun vs H1 => vs.length ≤ 1000 ∧ ∀ a, H1 a = none → sp (.ref a :: vs) (upd H1 a (exo a C none)) (fun v H2 => v = .non ∧ Q (.ref a) H2) (fun _ _ _ => False)
theorem pe_mkv {CX : CXT} {x : Str} {fI : Addr} {k : Nat} {fd : FuncData} {ps : List Str} {sp : Sp} {e : Expr} {es : List Expr} {ta : TA} {p pos : Pos} (T : OexC X.K C) (iC : PySem.W.findIn X.K (.ref C) "__init__" = some (some (.ref fI))) (tI : PySem.W.typeIn X.K (.ref fI) = some (.type "function"))
    (F1 : FnOk X.prog X.w X.K X.mg X.base CX k fI fd ps sp) (hr : Room (k + 1) X.A) (hb : Binds X.K fd ps []) (hx : Passes CX X (fun _ _ _ => False)) (hg : Gl X x) (hm : X.mg x = some (.ref C)) (ha : PA X (e :: es) ta)
    (hdb : (x == ("__debug__" : Str)) = false := by decide) (he : starEach (e :: es) X.env = (false, eval e X.env) :: starEach es X.env := by rfl) (hpl : (backTo pos (starEach es X.env)).any (·.1) = false := by rfl) :
    PE X (.Call (.Name x p) (e :: es) [] pos) (tMkV C sp ta) := by
  refine ⟨fun pins s σ H Q I h => ?_⟩
  obtain ⟨nm, qn, N, bs, bm, sn, sub, ab, col, dd, k0, k1, k2, k3, k5, hC, hbm⟩ := T.cls
  refine wpAny_Call_Name_kw (ld_glob I hg hm ?_ hdb)
  refine PySem.W.callWith_K (h₀ := X.base) I.ok.mod.kin T.kC (thn (ha.run pos pins s σ H _ I h) fun us s1 ⟨vs, H1, I1, r1, hz, q1⟩ => ⟨I1.kIn, ?_⟩) he hpl
  show wpAny _ _ (call (.ref C) us) _ _ _
  cases s1 with
  | mk hp g dr tk os =>
    have fresh : H1 (hp.objs.size + 1) = none := I1.hok.fresh (Nat.le_succ _)
    have hq := q1 (hp.objs.size + 1) fresh
    have up : ∀ b o, hp.get? b = some o → ((hp.push (PySem.W.kdv_tup us)).push (PySem.HandSPX.excO C hp.objs.size)).get? b = some o := fun b o z => Heap.get?_push_of_some _ (Heap.get?_push_of_some _ z)
    have got : ((hp.push (PySem.W.kdv_tup us)).push (PySem.HandSPX.excO C hp.objs.size)).get? (hp.objs.size + 1) = some (PySem.HandSPX.excO C hp.objs.size) := by heap_get
    have I2 : Inv X pins σ (upd H1 (hp.objs.size + 1) (exo (hp.objs.size + 1) C none)) ⟨(hp.push (PySem.W.kdv_tup us)).push (PySem.HandSPX.excO C hp.objs.size), g, dr, tk, os⟩ := I1.laid (t' := tk) up (Nat.le_succ _) (exo_ok got)
    have r2 : Vals (V.ref (hp.objs.size + 1) :: vs) (Value.ref (hp.objs.size + 1) :: us) := .cons rfl r1
    have hl : (Value.ref (hp.objs.size + 1) :: us ++ []).length = ps.length := by
      have z := r2.length
      rw [F1.len _ _ _ _ hq] at z
      rw [List.append_nil]
      exact z.symm
    have hus : us.length ≤ sizeLine := by
      rw [← Paired.length r1, sizeLine_eq]
      omega
    have bnd := hb _ (Value.ref (hp.objs.size + 1) :: us) I2.kIn hl
    rw [List.append_nil] at bnd
    refine wpAny_call (PySem.HandSPX.call_own F.excBase_ValueError (fun Y => PySem.HandSPX.refsVE_contains Y bm hbm) (I1.kIn _ _ hC) (PySem.W.looks_findIn I1.kIn iC) (fun self => PySem.W.bind_fn I1.kIn self tI) hus
      (codeAny_mono (F1.run _ X.stack _ _ ⟨Value.ref (hp.objs.size + 1) :: us, []⟩ (Value.ref (hp.objs.size + 1) :: us) _ _ (fun _ _ _ => False) (hr.make C us []) (I2.env0.make C us []) bnd r2 hq) fun r s' hq' => ?_))
    cases r with
    | error er => exact hx pins σ _ _ er s' I2 hq'
    | ok fl =>
      cases fl with
      | ret u =>
        obtain ⟨v, H', I3, rv, ev, q3⟩ := I2.after hq'
        subst ev
        exact ⟨rv, ⟨V.ref (hp.objs.size + 1), H', I3, rfl, q3⟩⟩
      | next => exact False.elim hq'
      | brk => exact False.elim hq'
      | cont => exact False.elim hq'
end
end Cw

set_option Elab.async false
set_option linter.all false
set_option maxRecDepth 100000
set_option maxHeartbeats 4000000
/-! Cs5: what the head tells of methods that say super(), of the text's exception classes. -/
namespace Cw
open PySem PySem.Spec PyProof.Rows L2 NdefX
/-! ### a method whose closure is the class's own cell -/
abbrev FnS : Type := Option (Str × Str × Arguments × FuncBody × Scope × Addr × List Str × Addr)
def fnS (K : PySem.W.Frag) (p : Str × Option Str) : FnS := match K.lookup (He.fAd K p) with
  | some ⟨_, _, .func fd, _⟩ => some (fd.name, fd.qualname, fd.params, fd.body, fd.scope, fd.globals, fd.closure.map (·.1), fd.builtins)
  | _ => none
/-- class, method; where its words stand; the file that its code names -/
structure SDef where
  cls : Str
  name : Str
  st : Stmt
  file : Str
def SDef.at_ (d : SDef) : Str × Option Str := (d.cls, some d.name)
def SDef.val (d : SDef) : FnS := some (d.name, d.cls ++ ("." ++ d.name), C8.fnArgs d.st, .stmts (C8.fnBody d.st), C8.fnScope d.st, mainGlobals, ["__class__"], builtinsNs)
def cellB (K : PySem.W.Frag) (D : Addr) : List (Str × Addr) → Bool
  | [(_, cc)] => (match K.lookup cc with
    | some ⟨_, _, .cell (some (.ref E)), _⟩ => decide (E = D)
    | _ => false)
  | _ => false
def fileB (K : PySem.W.Frag) (file : Str) : Value → Bool
  | .ref c => (match K.lookup c with
    | some ⟨_, _, .fields vs, _⟩ => (match (vs : Array Value)[2]? with
      | some (Value.str f _) => decide (f = file)
      | _ => false)
    | _ => false)
  | _ => false
def SDef.ok (K : PySem.W.Frag) (d : SDef) : Bool := PySem.W.keepIn K (.ref (He.fAd K d.at_)) && ((PySem.W.clsIn K (He.ga K d.cls)).isSome && (match K.lookup (He.fAd K d.at_) with
  | some ⟨_, _, .func fd, _⟩ => PySem.W.codeIn K fd.code (d.cls ++ ("." ++ d.name)) && (cellB K (He.ga K d.cls) fd.closure && (fileB K d.file fd.code && He.dflB K fd.defaults []))
  | _ => false))
/-- what stands there -/
structure SupD (K : PySem.W.Frag) (D f : Addr) (name qual : Str) (params : Arguments) (body : List Stmt) (scope : Scope) (file : Str) (fd : FuncData) : Prop where
  ex : ∃ (oc : Value) (od : Option Addr) (kV doc pm : Value) (an : Option Addr) (c : Addr) (ct : Value) (cc : Addr) (osl : Array (Option Value)), fd = PySem.W.ksFn name qual params body scope .none kV doc pm an (.ref c) ct cc ∧
    K.lookup f = some ⟨oc, od, .func fd, osl⟩ ∧ PySem.W.codeIn K (.ref c) qual = true ∧
    (∃ (cl : Value) (cld : Option Addr) (csl : Array (Option Value)), K.lookup cc = some ⟨cl, cld, .cell (some (.ref D)), csl⟩) ∧
    ∃ (ccl : Value) (cdd : Option Addr) (vs : Array Value) (ccs : Array (Option Value)) (tf : Tok), K.lookup c = some ⟨ccl, cdd, .fields vs, ccs⟩ ∧ vs[2]? = some (.str file tf)
  kp : PySem.W.keepIn K (.ref f) = true
  cls : (PySem.W.clsIn K D).isSome = true
theorem SDef.supD {K : PySem.W.Frag} {d : SDef} (e : fnS K d.at_ = d.val) (c : d.ok K = true) : ∃ fd, SupD K (He.ga K d.cls) (He.fAd K d.at_) d.name (d.cls ++ ("." ++ d.name)) (C8.fnArgs d.st) (C8.fnBody d.st) (C8.fnScope d.st) d.file fd := by
  obtain ⟨kp, c⟩ := He.ba c
  obtain ⟨cl, c⟩ := He.ba c
  unfold fnS at e
  cases q : K.lookup (He.fAd K d.at_) with
  | none => rw [q] at c; cases c
  | some o =>
    obtain ⟨oc, od, dt, osl⟩ := o
    rw [q] at c e
    cases dt with
    | func fd =>
      obtain ⟨n1, n2, n3, n4, n5, n6, n7, n8, n9, n10, n11, n12, n13, n14, n15⟩ := fd
      have e2 : (some (n1, n2, n3, n4, n5, n6, n7.map (·.1), n15) : FnS) = d.val := e
      unfold SDef.val at e2
      simp only [Option.some.injEq, Prod.mk.injEq] at e2
      obtain ⟨h1, h2, h3, h4, h5, h6, h7, h8⟩ := e2
      subst h1 h2 h3 h4 h5 h6 h8
      have c3 : (PySem.W.codeIn K n13 (d.cls ++ ("." ++ d.name)) && (cellB K (He.ga K d.cls) n7 && (fileB K d.file n13 && He.dflB K n8 []))) = true := c
      obtain ⟨k1, k2⟩ := He.ba c3
      obtain ⟨k3, k2⟩ := He.ba k2
      obtain ⟨k4, k5⟩ := He.ba k2
      have dn : n8 = .none := by
        rcases He.dflB_ok k5 with ⟨_, z⟩ | ⟨z, _⟩
        · exact z
        · exact absurd rfl z
      subst dn
      match n7, h7, k3 with
      | [(y, cc)], h7, k3 =>
        have hy : y = "__class__" := by simpa using h7
        subst hy
        cases n13 with
        | ref cd =>
          have k3 : (match K.lookup cc with
            | some ⟨_, _, .cell (some (.ref E)), _⟩ => decide (E = He.ga K d.cls)
            | _ => false) = true := k3
          have k4 : (match K.lookup cd with
            | some ⟨_, _, .fields vs, _⟩ => (match (vs : Array Value)[2]? with
              | some (Value.str f _) => decide (f = d.file)
              | _ => false)
            | _ => false) = true := k4
          refine ⟨_, ⟨oc, od, n9, n10, n11, n12, cd, n14, cc, osl, rfl, q, k1, ?_, ?_⟩, kp, cl⟩
          · split at k3
            · rename_i e1
              have := of_decide_eq_true k3
              subst this
              exact ⟨_, _, _, e1⟩
            · cases k3
          · split at k4
            · rename_i vs _ e1
              split at k4
              · rename_i e2
                have := of_decide_eq_true k4
                subst this
                exact ⟨_, _, _, _, _, e1, e2⟩
              · cases k4
            · cases k4
        | _ => cases k1
    | _ => cases c
/-- what of the program must be known -/
def ProgOk (P : Program) (file : Str) : Prop := P.main.file = file ∧ (P.main.scope.names.lookup ("super" : Str)).isSome = false
section
variable {CX : CXT} {P : Program} {w : World} {K : PySem.W.Frag} {mg : Str → Option Value} {base : Heap} {k : Nat} {f D : Addr} {name qual : Str} {params : Arguments} {st : Stmt} {rest : List Stmt} {scope : Scope} {file : Str} {fd : FuncData} {N ps : List Str} {sp : Sp}
/-- THE RULE for such a method -/
theorem SupD.rule (F : SupD K D f name qual params (st :: rest) scope file fd) (hP : ProgOk P file) (S : NScope N ps ["__class__"] scope) (ar : Arg) (hp : (params.posonlyargs ++ params.args).head? = some ar) (hN : N[0]? = some ar.arg) (hl : scope.names.lookup ar.arg = some .local)
    (hks : scope.names.lookup ("super" : Str) = some .globalImplicit) (hkc : scope.names.lookup ("__class__" : Str) = some .free) (hmg : mg "super" = none) (hopq : PySem.W.nsIn K cStatics "thirdparty.any" = some none) (len : ∀ vs H Q E, sp vs H Q E → vs.length = ps.length)
    (hbody : ∀ (c cc : Addr) (A : Around) (outer : List Env) (s : Shared) (H : Hp) (vs : List V) (Q : VK) (E : XK), Room k (A.deeper (envF (supF name qual params (st :: rest) scope c cc) f s.heap.objs.size)) → sp vs H Q E →
      SupOk (ncx CX P w K mg base N (supF name qual params (st :: rest) scope c cc) f A outer s H E) D →
      ∃ t1 t2, PSa (ncx CX P w K mg base N (supF name qual params (st :: rest) scope c cc) f A outer s H E) (st :: rest) st t1 ∧ PSs (ncx CX P w K mg base N (supF name qual params (st :: rest) scope c cc) f A outer s H E) rest t2 ∧
        tSeq t1 t2 { nx := fun _ H' => Q .non H', rt := Q } (startF N vs [some (.ref D)]) H) : FnOk P w K mg base CX (k + 1) f fd ps sp := by
  obtain ⟨oc, od, kV, doc, pm, an, c, ct, cc, osl, rfl, lk, hcd, ⟨cl, cld, csl, hcc⟩, ⟨ccl, cdd, vs, ccs, tf, hc1, hc2⟩⟩ := F.ex
  refine fn_sup lk hcd S hcc len fun A outer s H vs' Q E hr hsp => ?_
  refine hbody c cc A outer s H vs' Q E hr hsp ⟨⟨f, _, _, _, _, ar, rfl, lk, hp, hN, hl⟩, ⟨c, _, _, _, _, file, tf, rfl, hc1, hc2, ?_⟩, hks, hkc, ⟨cc, _, _, _, by simp [ncx, List.lookup], hcc⟩, ?_, hP.2, hmg, hopq⟩
  · show (P.main.file == file) = true
    rw [hP.1]
    exact beq_self_eq_true _
  · obtain ⟨cd, h⟩ := Option.isSome_iff_exists.mp F.cls
    exact ⟨cd, h⟩
end
section
variable {K : PySem.W.Frag} {f D : Addr} {name qual : Str} {params : Arguments} {body : List Stmt} {scope : Scope} {file : Str} {fd : FuncData} {ps : List Str}
/-- its parameters bound by positions | by keywords behind the instance -/
theorem SupD.binds (F : SupD K D f name qual params body scope file fd) (h : ∀ (kV doc pm cdv ct : Value) (an : Option Addr) (cc : Addr) (us : List Value), us.length = ps.length → bindArgs (PySem.W.ksFn name qual params body scope .none kV doc pm an cdv ct cc) ⟨us, []⟩ = pure (ps.zip us)) :
    Binds K fd ps [] := by
  obtain ⟨oc, od, kV, doc, pm, an, c, ct, cc, osl, rfl, _⟩ := F.ex
  intro s us _ hl
  rw [List.append_nil] at hl ⊢
  exact BindsTo.of_eq (h kV doc pm (.ref c) ct an cc us hl)
theorem SupD.kbinds {ks : List Str} (F : SupD K D f name qual params body scope file fd) (h : ∀ (kV doc pm cdv ct : Value) (an : Option Addr) (cc : Addr) (us ws : List Value), us.length = 1 → ws.length = ks.length → bindArgs (PySem.W.ksFn name qual params body scope .none kV doc pm an cdv ct cc) ⟨us, ks.zip ws⟩ = pure (ps.zip (us ++ ws))) :
    KBn K fd ps 1 ks (fun us ws => us ++ ws) (fun us ws => us ++ ws) := by
  obtain ⟨oc, od, kV, doc, pm, an, c, ct, cc, osl, rfl, _⟩ := F.ex
  exact ⟨fun s us ws _ l1 l2 => BindsTo.of_eq (h kV doc pm (.ref c) ct an cc us ws l1 l2), fun r1 r2 => r1.append r2⟩
end
/-! ### the exception classes of the text -/
structure ExcF (K : PySem.W.Frag) (C fI : Addr) : Prop where
  oex : OexC K C
  sup : SupE K C C
  xf : XfC K C
  ec : ExcC K C
  ini : PySem.W.findIn K (.ref C) "__init__" = some (some (.ref fI))
  tyI : PySem.W.typeIn K (.ref fI) = some (.type "function")
def oexB (K : PySem.W.Frag) (C : Addr) : Bool := match K.lookup C with
  | some ⟨.type t, _, .cls cd, sl⟩ => decide (t = "type") && ((match cd.mro, sl.toList with
    | .ref C' :: bm, [_, _, _, _, some (.builtin n), _] => decide (C' = C) && (decide (n = "ValueError.__new__") && (!cd.hasDel && (cd.hasDict && PySem.HandSPX.refsVE bm)))
    | _, _ => false))
  | _ => false
theorem oexB_ok {K : PySem.W.Frag} {C : Addr} (q : oexB K C = true) : ∃ nm q N bs bm sn sub ab col dd k0 k1 k2 k3 k5, K.lookup C = some (excClassObj nm q C N bs bm true sn sub ab col dd k0 k1 k2 k3 k5 "ValueError.__new__") ∧ PySem.HandSPX.refsVE bm = true := by
  unfold oexB at q
  split at q
  · rename_i t dd cd sl ho
    have q1 := of_decide_eq_true (He.ba q).1
    replace q := (He.ba q).2
    subst q1
    split at q
    · rename_i C' bm k0 k1 k2 k3 n k5 hm hs
      have a1 := of_decide_eq_true (He.ba q).1
      replace q := (He.ba q).2
      have a2 := of_decide_eq_true (He.ba q).1
      replace q := (He.ba q).2
      have a3 := (He.ba q).1
      replace q := (He.ba q).2
      have a4 := (He.ba q).1
      have a5 := (He.ba q).2
      subst a1 a2
      obtain ⟨nm, bs, mro, ns, qn, hd, sn, sub, ab, col, del⟩ := cd
      simp only [Bool.not_eq_true'] at a3
      dsimp only at hm a3 a4
      subst hm a3 a4
      obtain ⟨l⟩ := sl
      simp only at hs
      subst hs
      exact ⟨nm, qn, ns, bs, bm, sn, sub, ab, col, dd, k0, k1, k2, k3, k5, ho, a5⟩
    · cases q
  · cases q
def excB (K : PySem.W.Frag) (x : Str) : Bool :=
  let C := He.ga K x
  let fI := He.ma K C "__init__"
  oexB K C && (decide (PySem.W.findIn K (.ref C) "__setattr__" = some (some (.builtin "object.__setattr__"))) && (decide (PySem.W.subIn K (.ref C) (.type "BaseException") = some true) && (decide (PySem.W.typeIn K (.ref C) = some (.type "type")) && (PySem.W.keepIn K (.ref C) &&
  (decide (PySem.W.mroIn K C (.ref C) = some true) && (decide (PySem.W.ks_superIn K C C "__init__" = some (some (.builtin "ValueError.__init__"))) && (decide (PySem.W.subIn K (.ref C) (.type "ValueError") = some true) && (xfB K C &&
  (decide (PySem.W.findIn K (.ref C) "__class__" = some (some (.builtin "object.__class__"))) && (decide (PySem.W.specialIn K (.builtin "object.__class__") "__get__" = some (some (.builtin "getset_descriptor.__get__"))) && (decide (PySem.W.takesIn K (.builtin "object.__class__") = some true) &&
  (decide (PySem.W.mroIn K C (.type "object") = some true) && (decide (PySem.W.findIn K (.ref C) "__init__" = some (some (.ref fI))) && decide (PySem.W.typeIn K (.ref fI) = some (.type "function")))))))))))))))
theorem excB_ok {K : PySem.W.Frag} {x : Str} (h : excB K x = true) : ExcF K (He.ga K x) (He.ma K (He.ga K x) "__init__") := by
  unfold excB at h
  obtain ⟨a0, h⟩ := He.ba h
  obtain ⟨a1, h⟩ := He.ba h
  obtain ⟨a2, h⟩ := He.ba h
  obtain ⟨a3, h⟩ := He.ba h
  obtain ⟨a4, h⟩ := He.ba h
  obtain ⟨a5, h⟩ := He.ba h
  obtain ⟨a6, h⟩ := He.ba h
  obtain ⟨a7, h⟩ := He.ba h
  obtain ⟨a8, h⟩ := He.ba h
  obtain ⟨a9, h⟩ := He.ba h
  obtain ⟨b1, h⟩ := He.ba h
  obtain ⟨b2, h⟩ := He.ba h
  obtain ⟨b3, h⟩ := He.ba h
  obtain ⟨b4, b5⟩ := He.ba h
  have X := xfB_ok a8
  exact ⟨⟨oexB_ok a0, of_decide_eq_true a1, of_decide_eq_true a2, of_decide_eq_true a3, a4⟩, ⟨of_decide_eq_true a5, of_decide_eq_true a6, of_decide_eq_true a7⟩, X,
    ⟨X.ga, X.gg, X.exC, X.hdC, of_decide_eq_true a9, of_decide_eq_true b1, of_decide_eq_true b2, of_decide_eq_true b3⟩, of_decide_eq_true b4, of_decide_eq_true b5⟩
end Cw

set_option Elab.async false
set_option linter.all false
set_option maxRecDepth 100000
set_option maxHeartbeats 4000000
/-! Cs6: what the __init__ of an exception promises. -/
namespace Cw
open PySem PySem.Spec PyProof.Rows L2
def spX1 (C : Addr) (f : Str) : Sp := fun vs H Q _ => ∃ a v, vs = [.ref a, v] ∧ H a = some (exo a C none) ∧ ∀ dx, H dx = none → dx ≠ a → Q .non (upd (upd H dx (exd dx [(f, v)])) a (exo a C (some dx)))
def spX2 (C : Addr) (f g : Str) : Sp := fun vs H Q _ => ∃ a v u, vs = [.ref a, v, u] ∧ H a = some (exo a C none) ∧ ∀ H' dx, H dx = none → dx ≠ a → H' a = some (exo a C (some dx)) → H' dx = some (exd dx [(g, u), (f, v)]) → (∀ b, b ≠ a → b ≠ dx → H' b = H b) → Q .non H'
section
variable {P : Program} {w : World} {K : PySem.W.Frag} {mg : Str → Option Value} {base : Heap} {X : Cx} {C : Addr} {fI : Addr} {Q : VK}
/-- what a made exception leaves: it, and all that stood -/
theorem spX1_made {f : Str} {H : Hp} {v : V} (k : ∀ a H', Ex H H' → H a = none → ExV H' a C [(f, v)] → Q (.ref a) H') : ∀ a, H a = none → spX1 C f [.ref a, v] (upd H a (exo a C none)) (fun r H2 => r = .non ∧ Q (.ref a) H2) (fun _ _ _ => False) := fun a ha =>
  ⟨a, v, rfl, upd_same, fun dx hd hne => by
    rw [upd_ne hne] at hd
    refine ⟨rfl, k a _ (fun b o hb => ?_) ha ⟨dx, upd_same, by rw [upd_ne hne]; exact upd_same⟩⟩
    have h1 : b ≠ a := fun e => by rw [e, ha] at hb; cases hb
    have h2 : b ≠ dx := fun e => by rw [e, hd] at hb; cases hb
    rw [upd_ne h1, upd_ne h2, upd_ne h1]
    exact hb⟩
theorem spX2_made {f g : Str} {H : Hp} {v u : V} (k : ∀ a H', Ex H H' → H a = none → ExV H' a C [(g, u), (f, v)] → Q (.ref a) H') : ∀ a, H a = none → spX2 C f g [.ref a, v, u] (upd H a (exo a C none)) (fun r H2 => r = .non ∧ Q (.ref a) H2) (fun _ _ _ => False) := fun a ha =>
  ⟨a, v, u, rfl, upd_same, fun H' dx hd hne e1 e2 e3 => by
    rw [upd_ne hne] at hd
    refine ⟨rfl, k a _ (fun b o hb => ?_) ha ⟨dx, e1, e2⟩⟩
    have h1 : b ≠ a := fun e => by rw [e, ha] at hb; cases hb
    have h2 : b ≠ dx := fun e => by rw [e, hd] at hb; cases hb
    rw [e3 b h1 h2, upd_ne h1]
    exact hb⟩
end
end Cw

set_option Elab.async false
set_option linter.all false
set_option maxRecDepth 100000
set_option maxHeartbeats 4000000
/-! Cg1: a law's promise where nothing is being shown around it (no guard stands), for repr. -/
namespace Cw
open PySem PySem.Spec PyProof.Rows L2
/-- a promise for a call around which no guard stands -/
def FnG (P : Program) (w : World) (K : PySem.W.Frag) (mg : Str → Option Value) (base : Heap) (CX : CXT) (k : Nat) (f : Addr) (fd : FuncData) (ps : List Str) (sp : Sp) : Prop :=
  ∀ (A : Around) (outer : List Env) (s : Shared) (H : Hp) (args : Args) (us : List Value) (vs : List V) (Q : VK) (E : XK), A.guards = some [] → Room k A → Env0 P w K mg base A outer s H → BindsTo s fd args (ps.zip us) → Vals vs us → vs.length = ps.length → sp vs H Q E →
    codeAny (model P w) A (.call (.ref f) args) (CR CX outer P w H s Q E) s
section
variable {P : Program} {w : World} {K : PySem.W.Frag} {mg : Str → Option Value} {base : Heap} {x qual : Str} {params : Arguments} {body : List Stmt} {scope : Scope} {dvs : List V} {kws : List (Str × V)} {f : Addr} {fd : FuncData}
theorem funD_G {CX : CXT} {N ps : List Str} {k : Nat} {sp : Sp} (F : FunD K x qual params body scope dvs kws f fd) (S : FnScope N ps scope)
    (hbody : ∀ (cdv : Value) (A : Around) (outer : List Env) (s : Shared) (H : Hp) (vs : List V) (Q : VK) (E : XK), (cxOf CX P w K mg base N qual scope f cdv A outer s H E).A.guards = some [] → Room k (A.deeper (envOfC qual scope s.heap.objs.size f cdv)) → sp vs H Q E →
      ∃ t, PSs (cxOf CX P w K mg base N qual scope f cdv A outer s H E) body t ∧ t { nx := fun _ H' => Q .non H', rt := Q } (start N vs) H) : FnG P w K mg base CX (k + 1) f fd ps sp := by
  obtain ⟨oc, od, dV, kV, doc, pm, an, cdv, ct, osl, rfl, lk, hcd, _, _⟩ := F.ex
  intro A outer s H args us vs Q E hg hr e0 hb r hl hsp
  refine StX.run_bnd lk hcd S hr e0 (G := fun vs' H2 => vs' = vs ∧ H2 = H) (fun A' Ex Q' q => hb _ A' Ex Q' (q s H vs us e0 Un.refl rfl (fun _ _ z => z) r hl ⟨rfl, rfl⟩)) fun s2 H2 vs' hG hr2 => ?_
  · obtain ⟨rfl, rfl⟩ := hG
    exact hbody cdv A outer s2 _ _ Q E hg hr2 hsp
end
/-- the heap's abstract side at a law's call: the script, if it isn't one of the written objects -/
def scriptH (a : Addr) (vs : List Value) (ns : List Int) : Option Obj → Hp
  | some _ => fun _ => none
  | none => fun b => if b = a then some (.frz { cls := .type "list", data := .seq vs.toArray } (.lst (ns.map V.int))) else none
section
variable {P : Program} {w : World} {K : PySem.W.Frag} {mg mb : Str → Option Value} {CX : CXT} {k : Nat} {fa a : Addr} {fd : FuncData} {x : Str} {sp : Sp} {s₁ : Shared} {vs : List Value} {ns : List Int}
theorem scriptH_off {b : Addr} (h : b ≠ a) : ∀ o, scriptH a vs ns o b = none
  | some _ => rfl
  | none => if_neg h
theorem scriptH_only : ∀ o, Only (scriptH a vs ns o)
  | some _ => fun _ => .inl rfl
  | none => fun b => if h : b = a then .inr ⟨_, _, if_pos h⟩ else .inl (if_neg h)
theorem law_callG (kin : K.In s₁.heap) (gl : s₁.heap.Ns mainGlobals mg) (bl : s₁.heap.Ns builtinsNs mb) (bl2 : ∀ x : Str, x ≠ "__name__" → mb x = bootBuiltins x) (nl : s₁.heap.NoLimit) (gn : s₁.gens = #[])
    (at_ : s₁.heap.get? a = some { cls := .type "list", data := .seq vs.toArray }) (isI : IntsAre vs ns) (len : ns.length ≤ sizeLine) (room : Room k callerA)
    (F : ∀ base : Heap, K.In base → base.Ns mainGlobals mg → FnG P w K mg base CX k fa fd [x] sp) (bind : ∀ (s : Shared) (u : Value), BindsTo s fd ⟨[u], []⟩ [(x, u)])
    (prom : ∀ H : Hp, Only H → SqL K H a (ns.map V.int) → sp [.ref a] H (fun v _ => v = .bl true) fun _ _ _ => False)
    (noX : ∀ H e s', CX [] H s₁ (fun _ _ _ => False) e s' → False) :
    codeAny (model P w) callerA (.call (.ref fa) ⟨[.ref a], []⟩) (fun r s' => r = .ok (.ret (.bool true)) ∧ OldK s₁.heap s'.heap ∧ s'.os = s₁.os ∧ AllBare s'.gens) s₁ := by
  have rel := vals_ints isI
  have size := isI.length
  generalize hH : scriptH a vs ns (K.lookup a) = H
  have only : Only H := hH ▸ scriptH_only _
  have off : ∀ b, b ≠ a → H b = none := fun b hb => hH ▸ scriptH_off hb _
  have isK : ∀ o, K.lookup a = some o → H = fun _ => none := fun o e => by rw [← hH, e]; rfl
  have isN : K.lookup a = none → H a = some (.frz { cls := .type "list", data := .seq vs.toArray } (.lst (ns.map V.int))) := fun e => by rw [← hH, e]; exact if_pos rfl
  have script : SqL K H a (ns.map V.int) := by
    cases e : K.lookup a with
    | none => exact .inl (.inr ⟨_, isN e⟩)
    | some o =>
      have z := kin a o e
      rw [at_] at z
      cases z
      exact .inr ⟨_, vs.toArray, _, e, rfl, rfl, rfl, by rw [List.size_toArray, size]; exact len, by simpa using rel⟩
  have holds : HOk P w H s₁.heap := fun b u z => by
    by_cases hb : b = a
    · subst hb
      cases e : K.lookup b with
      | some o =>
        rw [isK o e] at z
        cases z
      | none =>
        rw [isN e] at z
        cases z
        exact ⟨at_, by rw [List.length_map]; exact len, vs, _, rel, at_⟩
    · rw [off b hb] at z
      cases z
  have seen : ∀ {b : Addr} {o : Obj}, b ≠ a → s₁.heap.get? b = some o → (hidT s₁.heap H).get? b = some o := fun hb z => hidT_get z (off _ hb)
  have names : ∀ {b : Addr} {m : Str → Option Value}, s₁.heap.Ns b m → (hidT s₁.heap H).Ns b m := fun {b m} ⟨o, es, ep, z, d, r⟩ => by
    refine ⟨o, es, ep, seen (fun hb => ?_) z, d, r⟩
    subst hb
    rw [at_] at z
    cases z
    cases d
  have kin2 : K.In (hidT s₁.heap H) := fun b o z => by
    by_cases hb : b = a
    · subst hb
      have e : H b = none := by rw [isK o z]
      exact hidT_get (kin b o z) e
    · exact seen hb (kin b o z)
  have lim2 : (hidT s₁.heap H).NoLimit := by
    obtain ⟨mc, h1, h2⟩ := nl
    exact ⟨mc, names h1, h2⟩
  have entry : Env0 P w K mg (hidT s₁.heap H) callerA [] s₁ H :=
    { frames := rfl, mod := ⟨kin2, names gl, ⟨mb, names bl, bl2⟩, lim2⟩, bs := fun b o z => of_hidT z, bsz := Nat.le_of_eq (hidT_size _ _), funs := trivial, frf := fun b hb => absurd hb List.not_mem_nil, hok := holds, bare := .of_eq gn }
  refine codeAny_mono (F _ kin2 (names gl) callerA [] s₁ H ⟨[.ref a], []⟩ [.ref a] [.ref a] _ _ rfl room entry (bind s₁ (.ref a)) (.cons rfl .nil) rfl (prom H only script)) fun r s' h => ?_
  match r, h with
  | .error e, h => exact (noX H e s' h).elim
  | .ok (.ret u), ⟨v, H', os, bare, un, hok', rv, q⟩ =>
    have q : v = .bl true := q
    subst q
    have rv : u = Value.bool true := rv
    subst rv
    refine ⟨rfl, OldK.of_keep fun b o z => ?_, os, bare⟩
    rcases only b with n | ⟨ob, xs, n⟩
    · exact un.keep b o z n List.not_mem_nil List.not_mem_nil
    · have kept := (hok' b _ (un.frzs b ob _ n)).1
      have was := (holds b _ n).1
      rw [z] at was
      cases was
      exact kept
end
/-- a law: F gives the written part, the function object, the promise over every base -/
theorem walk_ofG {l : PySem.W.OpenLaw} {n k : Nat} {q : Program} {loose : List Str} {XP : (Str → Option Value) → Heap → Prop} {YP : World → Heap → Prop} {d : DefRec} {CX : CXT} {x : Str} (most : l.most = some n) (small : n ≤ sizeLine) (dfl : d.params.defaults = []) (room : Room k callerA)
    (F : ∀ (w : World) (mg : Str → Option Value) (fa : Addr) (h : Heap), YP w h → h.Ns mainGlobals mg → mg d.name = some (.ref fa) → ∃ (K : PySem.W.Frag) (fd : FuncData) (sp : Sp), K.In h ∧ (∀ (s : Shared) (u : Value), BindsTo s fd ⟨[u], []⟩ [(x, u)]) ∧
      (∀ (H : Hp) (a : Addr) (ns : List Int), ns.length ≤ n → Only H → SqL K H a (ns.map V.int) → sp [.ref a] H (fun v _ => v = .bl true) fun _ _ _ => False) ∧ ∀ base : Heap, K.In base → base.Ns mainGlobals mg → FnG l.prog w K mg base CX k fa fd [x] sp)
    (noX : ∀ (H : Hp) (s : Shared) (e : Value) (s' : Shared), CX [] H s (fun _ _ _ => False) e s' → False) : PySem.W.WalkO q loose XP YP l.row.toRowW d [] (fun f vs => PySem.call f vs) := by
  refine Att.attach_call most dfl fun w s0 s1 mg mb fa o pm cd doc a vs ns G Y _ _ _ named list isI hl gens => ?_
  obtain ⟨K, fd, sp, kin, bind, prom, hF⟩ := F w mg fa _ Y G.T.g named
  exact law_callG kin G.T.g G.T.b G.T.builtins G.T.nolimit gens list isI (Nat.le_trans hl small) room hF bind (fun H ho hs => prom H a ns hl ho hs) fun H e s' => noX H s1 e s'
end Cw

set_option Elab.async false
set_option linter.all false
set_option maxRecDepth 100000
set_option maxHeartbeats 4000000
/-! Cg2: repr of data where no guard stands. -/
namespace Cw
open PySem PySem.Spec PyProof.Rows L2
def rReprD (K : PySem.W.Frag) : List V → Hp → VK → Prop := fun xs H Q => ∃ v d, xs = [v] ∧ Rp K H v d ∧ SmOk K ∧ d.showable = true ∧ d.depth ≤ 60 ∧ d.shown.length ≤ sizeLine ∧ Q (.str d.shown) H
theorem call_reprD {X : Cx} (hg : X.A.guards = some []) (hu : X.A.units + 64 < cLine) : CallR X (.builtin "repr") (rReprD X.K) := by
  rintro pins s σ H xs us Q I r ⟨v, d, rfl, rd, sm, sh, dep, len, q⟩
  obtain ⟨u, rfl, rx⟩ := vals1 r
  cases rd with
  | non =>
    obtain rfl : u = Value.none := rx
    exact PySem.P.repr_of_none ⟨.str _, H, I.tok _, ⟨_, rfl⟩, q⟩
  | bl b =>
    obtain rfl : u = Value.bool b := rx
    exact PySem.P.repr_of_bool ⟨.str _, H, I.tok _, ⟨_, rfl⟩, by cases b <;> exact q⟩
  | int i =>
    obtain ⟨t, rfl⟩ : ∃ t, u = Value.int i t := rx
    exact PySem.P.repr_of_int (of_decide_eq_true sh) ⟨.str _, H, I.tok _, ⟨_, rfl⟩, q⟩
  | str x =>
    obtain ⟨t, rfl⟩ : ∃ t, u = Value.str x t := rx
    exact PySem.P.repr_of_str ⟨.str _, H, I.tok _, ⟨_, rfl⟩, q⟩ len
  | lst h t =>
    obtain ⟨as, rr, hn⟩ := Rp.reads sm I (.lst h t) rx
    obtain rfl := rx
    exact repr_of_reads' rr sh (fun _ => hn) hg (by omega) (fun _ _ z => z) (fun h' u tk k => ⟨.str _, H, I.kept k, ⟨_, rfl⟩, q⟩) len
  | tup h t =>
    obtain ⟨as, rr, hn⟩ := Rp.reads sm I (.tup h t) rx
    obtain rfl := rx
    exact repr_of_reads' rr sh (fun _ => hn) hg (by omega) (fun _ _ z => z) (fun h' u tk k => ⟨.str _, H, I.kept k, ⟨_, rfl⟩, q⟩) len
  | dic h t =>
    obtain ⟨as, rr, hn⟩ := Rp.reads sm I (.dic h t) rx
    obtain rfl := rx
    exact repr_of_reads' rr sh (fun _ => hn) hg (by omega) (fun _ _ z => z) (fun h' u tk k => ⟨.str _, H, I.kept k, ⟨_, rfl⟩, q⟩) len
theorem reprD (K : PySem.W.Frag) {X : Cx} (hg : X.A.guards = some []) (hu : X.A.units + 64 < cLine) (h : X.K = K := by rfl) : CallR X (.builtin "repr") (rReprD K) := by subst h; exact call_reprD hg hu
end Cw

set_option Elab.async false
set_option linter.all false
set_option maxRecDepth 100000
set_option maxHeartbeats 4000000
/-! Cp1: instances: __class__, __name__ of a class of the text, truth by an own __bool__. -/
namespace PySem.W
open Lean Elab Tactic Meta PySem PySem.Calls PyProof.Rows Builtin Builtin.ObjectAttr Builtin.Getset_descriptor
section
variable {prog : Program} {w : World} {A : Around} {E : Value → Shared → Prop} {s : Shared} {K : Frag} {R : Result → Shared → Prop} {C : Addr}
/-- the class's name, kept in the class since it was made -/
def nameIn (K : Frag) (C : Addr) : Option Value := match K.lookup C with
  | some o => (o.slots[2]?).join
  | none => none
theorem cname_run {tp v : Value} (X : K.In s.heap) (ht : typeIn K (.ref C) = some (.type "type")) (hn : nameIn K C = some v) (h : R (.ok (.ret v)) s) :
    codeAny (model prog w) A (.call (.builtin "getset_descriptor.__get__") ⟨[.builtin "type.__name__", .ref C, tp], []⟩) R s := by
  obtain ⟨oC, hC, hv⟩ : ∃ oC, s.heap.get? C = some oC ∧ (oC.slots[2]?).join = some v := by
    unfold nameIn at hn
    cases e : K.lookup C with
    | none => rw [e] at hn; cases hn
    | some o => rw [e] at hn; exact ⟨o, X _ _ e, hn⟩
  have L0 := looks_typeIn (M := model prog w) X ht
  obtain ⟨hh, g, dr, t, os⟩ := s
  have L1 : Looks (model prog w) hh (isSubtype (.type "type") (.type "type")) true := Looks.of_pure (by rw [isSubtype_type]; kernel_rfl)
  refine codeAny_call_builtin KF.slot_gs.plain KF.entry_gs (KF.slot_gs.check _ _ _ _ _ _ _ _ ktyn_type (KF.args_gs _ _ _) ?_)
  unfold Builtin.«getset_descriptor.__get__» descrGet
  rw [dga_obj]
  apply wpAny_bind
  apply wpAny_pure
  unfold descrGetter descrCheckInstance descrNameAndClass isInstance
  simp only [ktyn_owner]
  repeat lk
  refine ⟨Code.quiet_builtin _ (by decide +kernel), codeAny_builtin ktyn_entry ?_⟩
  unfold Builtin.«type.__name__» keptObject slotAt
  dsimp only
  refine wpAny_bind (wpAny_bind (wpAny_loadPart_at hC (wpAny_pure ?_)))
  rw [hv]
  exact wpAny_pure h
theorem cname_attr {expr : Bool} {v : Value} {Q : Value → Shared → Prop} (X : K.In s.heap) (ho : nsIn K cStatics "thirdparty.any" = some none) (ht : typeIn K (.ref C) = some (.type "type")) (hn : nameIn K C = some v) (hh : handedIn v = true)
    (e : findCls K (.ref C) (.type "type") "__name__" = some (.get (.builtin "getset_descriptor.__get__") (.builtin "type.__name__") (.ref C) (.type "type"))) (h : ∀ u, Q v { s with toks := u }) :
    wpAny (model prog w) A (getAttr (.ref C) "__name__" expr) Q E s := by
  refine cls_open X (looks_opaque X ho) (looks_typeIn X ht) (type_tga : findIn K (.type "type") "__getattribute__" = _) (looks_hook X (r := none) (by rfl)) (by show subIn K _ _ = _; rfl) e ?_
  show wpAny _ _ (do ret (← holding [Value.builtin "type.__name__"] (call (.builtin "getset_descriptor.__get__") [.builtin "type.__name__", .ref C, .type "type"]))) _ _ _
  refine wpAny_bind (wpAny_holding (wpAny_call (cname_run (s := { s with toks := s.toks + 1 }) X ht hn ?_)))
  exact wpAny_pure (handed_on hh (h _))
end
end PySem.W
namespace Cw
open PySem PySem.Spec PyProof.Rows L2
/-- what the written part says of a class of the text whose instances are asked for their class, and its name -/
structure NameC (K : PySem.W.Frag) (C : Addr) (n : Str) : Prop where
  cl : Cls K C
  ga : PySem.W.findIn K (.ref C) "__getattribute__" = some (some (.builtin "object.__getattribute__"))
  gg : PySem.W.findIn K (.ref C) "__getattr__" = some none
  ic : (PySem.W.clsIn K C).isSome = true
  ha : PySem.W.findIn K (.ref C) "__class__" = some (some (.builtin "object.__class__"))
  hn : PySem.W.specialIn K (.builtin "object.__class__") "__get__" = some (some (.builtin "getset_descriptor.__get__"))
  ht : PySem.W.takesIn K (.builtin "object.__class__") = some true
  hm : PySem.W.mroIn K C (.type "object") = some true
  ty : PySem.W.typeIn K (.ref C) = some (.type "type")
  nm : ∃ tk, PySem.W.nameIn K C = some (.str n tk)
  fc : PySem.W.findCls K (.ref C) (.type "type") "__name__" = some (.get (.builtin "getset_descriptor.__get__") (.builtin "type.__name__") (.ref C) (.type "type"))
section
variable {X : Cx}
/-- x.__class__.__name__, x an instance of a class of the text -/
def tClsName (K : PySem.W.Frag) (te : TE) : TE := fun σ H Q => te σ H fun x H1 => ∃ (a C dx : Addr) (fs : List (Str × V)) (n : Str), x = .ref a ∧ H1 a = some (.ins C dx fs) ∧ NameC K C n ∧ Q (.str n) H1
theorem pe_clsName {e : Expr} {te : TE} {p1 p2 : Pos} (he : PE X e te) (hopq : PySem.W.nsIn X.K cStatics "thirdparty.any" = some none) (hb1 : attributeBase e "__class__" X.env (eval e X.env) = eval e X.env := by rfl)
    (hb2 : attributeBase (.Attribute e "__class__" p1) "__name__" X.env (eval (.Attribute e "__class__" p1) X.env) = eval (.Attribute e "__class__" p1) X.env := by rfl) :
    PE X (.Attribute (.Attribute e "__class__" p1) "__name__" p2) (tClsName X.K te) := by
  refine ⟨fun pins s σ H Q I h => attr_of hb2 (attr_of hb1 (thn (he.run pins s σ H _ I h) fun u s1 hh => ?_))⟩
  obtain ⟨x, H1, I1, rx, a, C, dx, fs, n, ex, ea, N, q⟩ := hh
  subst ex
  obtain rfl : u = Value.ref a := rx
  obtain ⟨mA, O, _⟩ := ins_get I1.hok ea
  obtain ⟨od, J, _⟩ := O.look
  have kin : X.K.In s1.heap := I1.kIn
  obtain ⟨tk, hn⟩ := N.nm
  refine PySem.W.get_bind kin J N.ga (PySem.W.findObj_data N.ic N.ha N.hn N.ht) N.gg (wpAny_call (PySem.W.class_get (s := { s1 with toks := s1.toks + 1 }) kin J N.hm ?_))
  refine PySem.W.handed_on rfl ?_
  have I2 := I1.tok (s1.toks + 1)
  exact PySem.W.cname_attr I2.kIn hopq N.ty hn rfl N.fc fun u => ⟨.str n, H1, I2.tok u, ⟨tk, rfl⟩, q⟩
end
end Cw

set_option Elab.async false
set_option linter.all false
set_option maxRecDepth 100000
set_option maxHeartbeats 4000000
/-! Cp2: own == of instances, told by what it gives; != by it; bool(). -/
namespace PySem.W
open PySem PySem.Calls PyProof.Rows L2
section
variable {prog : Program} {w : World} {A : Around} {E : Value → Shared → Prop} {s : Shared} {K : Frag} {x y C C' f : Addr} {ox oy : Obj} {od od' : Option Obj} {b tb : Value}
/-- the right one's class is a class below the left one's: its own == is asked first -/
theorem eq_first {Q : Value → Shared → Prop} (hu : A.units < cLine) (X : K.In s.heap) (I : InstAt s.heap x ox C od) (J : InstAt s.heap y oy C' od') (ne : C' ≠ C) (sub : subIn K (.ref C') (.ref C) = some true)
    (hs : findIn K (.ref C') "__eq__" = some (some (.ref f))) (hf : isFn K (.ref f) = true) (h : wpAny (model prog w) A (call (.ref f) [.ref y, .ref x]) (CmpBack Q) E s) : wpAny (model prog w) A (richCompare .Eq (.ref x) (.ref y)) Q E s := by
  have one : wpAny (model prog w) A (tryCompare (.ref y) "__eq__" (.ref x)) (fun r s' => ∃ v, r = some v ∧ Q v s') E s := by
    unfold tryCompare
    refine wpAny_bind (ifBound_K X J hs hf (thn h fun v s' hv => ?_))
    cases v <;> first | exact hv.elim | exact wpAny_pure ⟨_, rfl, hv⟩
  simp only [richCompare, cmpInfo_Eq, oneThing_ref]
  apply wpAny_holding
  refine wpAny_bind (wpAny_cRoomFor hu ?_)
  refine wpAny_bind (I.type.here (wpAny_bind (J.type.here ?_)))
  split
  · refine wpAny_bind ((looks_subIn X sub).here ?_)
    simp only [if_true]
    refine wpAny_bind (thn one fun r s' z => ?_)
    obtain ⟨v, rfl, hq⟩ := z
    exact wpAny_bind (wpAny_rule (wpAny_pure hq))
  · rename_i q
    exact absurd (by simp [ne.symm]) q
/-- != by an own == -/
theorem ne_own {Q : Value → Shared → Prop} (hu : A.units + 1 < cLine) (X : K.In s.heap) (I : InstAt s.heap x ox C od) (hb : Looks (model prog w) s.heap (typeOf b) tb) (hn : notFirst K C tb = true) (hm : mroIn K C (.type "object") = some true)
    (h1 : findIn K (.ref C) "__ne__" = some (some (.builtin "object.__ne__"))) (hs : findIn K (.ref C) "__eq__" = some (some (.ref f))) (hf : isFn K (.ref f) = true) (bRef : ∃ z, b = .ref z)
    (h : wpAny (model prog w) A.in1 (call (.ref f) [.ref x, b]) (fun v s' => ∃ k, v = .bool k ∧ Q (.bool (!k)) s') E s) : wpAny (model prog w) A (richCompare .NotEq (.ref x) b) Q E s := by
  obtain ⟨z, rfl⟩ := bRef
  have body : wpAny (model prog w) A.in1 (Builtin.«object.__ne__» ⟨[.ref x, .ref z], []⟩) (fun fin s' => ∃ k, fin = .done (.ret (.bool (!k))) ∧ Q (.bool (!k)) s') E s := by
    unfold Builtin.«object.__ne__»
    refine wpAny_bind (m := slotArgs "__ne__" 1 _) (wpAny_of_eq (a := ((Value.ref x : Value), [Value.ref z])) (by first | rfl | (simp only [slotArgs]; rfl)) ?_)
    refine wpAny_bind (wpAny_cRoomFor hu ?_)
    refine wpAny_bind (m := callSpecialIfBound? (.ref x) (Str.ofString "__eq__") [.ref z]) (ifBound_K X I hs hf (thn h fun v s' hv => ?_))
    obtain ⟨k, rfl, hq⟩ := hv
    exact wpAny_bind (m := truthy (.bool k)) (wpAny_truthy_bool (wpAny_pure ⟨k, rfl, hq⟩))
  have called : wpAny (model prog w) A (call (.builtin "object.__ne__") [.ref x, .ref z]) (fun v s' => ∃ k, v = .bool k ∧ Q (.bool k) s') E s := by
    refine wpAny_call (codeAny_call_builtin F.cmp_object.ne.plain F.cmpEntry_ne (check_slot F.cmpKind_ne F.cmpSplit_ne (I.type.andThen (looks_mroIn X hm)) (F.cmpArgs_ne _ _) (thn body fun fin s' hv => ?_)))
    obtain ⟨k, rfl, hq⟩ := hv
    exact ⟨_, rfl, hq⟩
  have one : wpAny (model prog w) A (tryCompare (.ref x) "__ne__" (.ref z)) (fun r s' => ∃ v, r = some v ∧ Q v s') E s := by
    unfold tryCompare
    refine wpAny_bind ?_
    simp only [callSpecialIfBound?, bindSpecialIfBound?]
    apply wpAny_holding
    refine wpAny_bind (wpAny_bind (wpAny_bind (I.type.here ((looks_findIn X h1).here ?_))))
    refine wpAny_bind (wpAny_askSetting (wpAny_ite ?_))
    have fin : wpAny (model prog w) A (call (.builtin "object.__ne__") ([.ref x] ++ [.ref z]) >>= fun v => pure (some v)) (fun r s' => ∃ k, r = some (Value.bool k) ∧ Q (.bool k) s') E s := wpAny_bind (thn called fun v s' h' => by
      obtain ⟨k, rfl, hq⟩ := h'
      exact wpAny_pure ⟨k, rfl, hq⟩)
    have fin2 : wpAny (model prog w) A (call (.builtin "object.__ne__") ([.ref x] ++ [.ref z]) >>= fun v => pure (some v)) (fun r s' => wpAny (model prog w) A (match r with
      | some .notImplemented | none => pure none
      | some v => pure (some v)) (fun r s' => ∃ v, r = some v ∧ Q v s') E s') E s := thn fin fun r s' h' => by
      obtain ⟨k, rfl, hq⟩ := h'
      exact wpAny_pure ⟨_, rfl, hq⟩
    split
    · exact wpAny_bind (wpAny_of_eq (F.cmp_object.ne.bind _) (wpAny_pure (by exact fin2)))
    · exact wpAny_tryCatch (wpAny_bind (wpAny_of_eq (F.cmp_object.ne.bind _) (wpAny_pure (by exact fin2))))
  simp only [richCompare, cmpInfo_NotEq, oneThing_ref]
  apply wpAny_holding
  refine wpAny_bind (wpAny_cRoomFor (Nat.lt_of_succ_lt hu) ?_)
  refine wpAny_bind (I.type.here (wpAny_bind (hb.here ?_)))
  split
  · rename_i q
    have e : subIn K tb (.ref C) = some false := by
      rcases Bool.or_eq_true_iff.mp hn with e | e
      · rw [beq_iff_eq.mp e] at q
        simp at q
      · exact beq_iff_eq.mp e
    refine wpAny_bind ((looks_subIn X e).here ?_)
    simp only [Bool.false_eq_true, if_false]
    refine wpAny_bind (thn one fun r s' z => ?_)
    obtain ⟨v, rfl, hq⟩ := z
    exact wpAny_pure hq
  · refine wpAny_bind (wpAny_pure ?_)
    simp only [Bool.false_eq_true, if_false]
    refine wpAny_bind (thn one fun r s' z => ?_)
    obtain ⟨v, rfl, hq⟩ := z
    exact wpAny_pure hq
end
end PySem.W

set_option Elab.async false
set_option linter.all false
set_option maxRecDepth 100000
set_option maxHeartbeats 4000000
/-! Cp3: the layer's rules: x == y, x != y, bool(x), x an instance with own defs. -/
namespace PySem.W
open PySem PySem.Calls PyProof.Rows
section
variable {prog : Program} {w : World} {A : Around} {E : Value → Shared → Prop} {s : Shared} {K : Frag} {x C f : Addr} {ox : Obj} {od : Option Obj}
theorem bool_own {Q : Value → Shared → Prop} (X : K.In s.heap) (I : InstAt s.heap x ox C od) (hs : findIn K (.ref C) "__bool__" = some (some (.ref f))) (hf : isFn K (.ref f) = true)
    (h : wpAny (model prog w) A.in1.in1 (call (.ref f) [.ref x]) (fun r s₁ => ∃ b, r = Value.bool b ∧ Q r s₁) E s) : wpAny (model prog w) A (call (.type "bool") [.ref x]) Q E s := by
  refine callType_codes (T := "bool") (Bi := Builtin.«object.__init__») (Q₁ := fun r s₁ => ∃ b, r = Value.bool b ∧ Q r s₁) PySem.F.called_bool (PySem.F.typeCall_bool_1 _) PySem.F.entry_object_init ?_ ?_
  · refine codeAny_of_tree ?_
    show wpAny _ A.in1.in1 (do checkBuiltinCall "bool.__new__" ⟨[.type "bool", .ref x], []⟩; again (.builtin "bool.__new__" ⟨[.type "bool", .ref x], []⟩)) _ _ s
    refine wpAny_bind (wpAny_of_eq (PySem.F.newCall_bool_1 _) (wpAny_pure ⟨plainId_quiet (by decide +kernel) _, codeAny_builtin PySem.F.entry_bool_new ?_⟩))
    rw [Around.under_plainId (by decide +kernel) _]
    have run : wpAny (model prog w) A.in1.in1 (truthy (.ref x)) (fun b s₁ => Q (.bool b) s₁) E s := by
      unfold truthy
      refine wpAny_bind (m := callSpecial? (.ref x) (Str.ofString "__bool__")) (special_fn X I hs (beq_iff_eq.mp hf) (L2.thn h fun r s' hr => ?_))
      obtain ⟨b, rfl, q⟩ := hr
      exact wpAny_pure q
    have run2 : ∀ G : Bool → Shared → Prop, (∀ b s₁, Q (.bool b) s₁ → G b s₁) → wpAny (model prog w) A.in1.in1 (truthy (.ref x)) G E s := fun G g => L2.thn run g
    have f1 := PySem.F.conv_sub_bool
    unfold Builtin.«bool.__new__»
    repeat (any_goals (first | assumption | (with_reducible refine run2 _ fun b s₁ q => ?_) | wp_step))
    all_goals first | exact ⟨_, rfl, q⟩ | skip
  · rintro obj s₁ ⟨b, rfl, hq⟩
    exact ⟨typeIs_bool _ _, PySem.F.args_object_init_2 _ _, object_init_meets PySem.F.called_bool.init.lookup PySem.F.called_bool.made (by decide) prog w A.in1 _ s₁ ⟨typeIs_bool _ _, rfl, hq⟩⟩
end
end PySem.W
namespace Cw
open PySem PySem.Spec PyProof.Rows L2
/-- what the written part says of a class whose == is the def at g -/
structure EqC (K : PySem.W.Frag) (C g : Addr) : Prop where
  eq : PySem.W.findIn K (.ref C) "__eq__" = some (some (.ref g))
  fn : PySem.W.isFn K (.ref g) = true
  ob : PySem.W.mroIn K C (.type "object") = some true
  ne : PySem.W.findIn K (.ref C) "__ne__" = some (some (.builtin "object.__ne__"))
/-- the two ways by which an own == is asked: the left one's; or the right one's, if its class lies below the left one's -/
def EqAsk (K : PySem.W.Frag) (g : Addr) (sp : Sp) (E : XK) (a b : Addr) (H : Hp) (R : Bool → Hp → Prop) : Prop :=
  ∃ C dx fs, H a = some (.ins C dx fs) ∧ EqC K C g ∧ ((∃ t, TyX K H (.ref b) t ∧ PySem.W.notFirst K C t = true ∧ sp [.ref a, .ref b] H (fun z H' => ∃ k, z = .bl k ∧ R k H') E) ∨
    ∃ C' dy gs, H b = some (.ins C' dy gs) ∧ EqC K C' g ∧ C' ≠ C ∧ PySem.W.subIn K (.ref C') (.ref C) = some true ∧ sp [.ref b, .ref a] H (fun z H' => ∃ k, z = .bl k ∧ R k H') E)
def rEqI (K : PySem.W.Frag) (g : Addr) (sp : Sp) (E : XK) : R2 := fun x y H Q => ∃ a b, x = .ref a ∧ y = .ref b ∧ EqAsk K g sp E a b H fun k H' => Q (.bl k) H'
def rNeI (K : PySem.W.Frag) (g : Addr) (sp : Sp) (E : XK) : R2 := fun x y H Q => ∃ a b C dx fs t, x = .ref a ∧ y = .ref b ∧ H a = some (.ins C dx fs) ∧ EqC K C g ∧ TyX K H (.ref b) t ∧ PySem.W.notFirst K C t = true ∧
  sp [.ref a, .ref b] H (fun z H' => ∃ k, z = .bl k ∧ Q (.bl (!k)) H') E
section
variable {X : Cx} {CX : CXT} {n : Nat} {g : Addr} {sp : Sp} {E : XK}
theorem op_eqI (F : FnR X.prog X.w X.K X.mg X.base CX n g sp) (hr : Room n X.A) (hx : Passes CX X E) : OpR X (compareOp .Eq) (rEqI X.K g sp E) := by
  rintro pins s σ H x y v u Q I rx ry ⟨a, b, rfl, rfl, C, dx, fs, ha, T, h⟩
  obtain rfl : v = Value.ref a := rx
  obtain rfl : u = Value.ref b := ry
  obtain ⟨mA, O, _⟩ := ins_get I.hok ha
  obtain ⟨od, J, _⟩ := O.look
  obtain ⟨m, hF⟩ := I.fr
  show wpAny _ _ (richCompare .Eq _ _) _ _ _
  rcases h with ⟨t, ty, nf, q⟩ | ⟨C', dy, gs, hb, T', ne, sub, q⟩
  · obtain ⟨P, Z, p, _⟩ := kit_of I (x := .ref b) rfl ty
    refine PySem.W.cmp_K (op := .Eq) (tb := t) hr.units0 hF I.ok.mod.kin J (Z.ty _ _ I.kIn p) nf T.eq T.fn ?_
    refine thn (wpAny_call (run_fnR (us := [.ref a, .ref b]) (vs := [.ref a, .ref b]) F hr hx I (.cons rfl (.cons rfl .nil)) q)) fun r s' z => ?_
    obtain ⟨z', H', I', rz, k, ez, qz⟩ := z
    subst ez
    obtain rfl : r = Value.bool k := rz
    exact ⟨.bl k, H', I', rfl, qz⟩
  · obtain ⟨mB, O', _⟩ := ins_get I.hok hb
    obtain ⟨od', J', _⟩ := O'.look
    refine PySem.W.eq_first hr.units0 I.kIn J J' ne sub T'.eq T'.fn ?_
    refine thn (wpAny_call (run_fnR (us := [.ref b, .ref a]) (vs := [.ref b, .ref a]) F hr hx I (.cons rfl (.cons rfl .nil)) q)) fun r s' z => ?_
    obtain ⟨z', H', I', rz, k, ez, qz⟩ := z
    subst ez
    obtain rfl : r = Value.bool k := rz
    exact ⟨.bl k, H', I', rfl, qz⟩
/-- a def run at an inner place of the body -/
theorem run_in1 {pins : List (Addr × Obj)} {s : Shared} {σ : L2.St} {H : Hp} {Q : VK} {us : List Value} {vs : List V} (F : FnR X.prog X.w X.K X.mg X.base CX n g sp) {A : Around} (hr : Room n A) (e0 : Env0 X.prog X.w X.K X.mg X.base A X.stack s H) (hx : Passes CX X E) (I : Inv X pins σ H s)
    (r : Vals vs us) (q : sp vs H Q E) : wpAny (model X.prog X.w) A (call (.ref g) us) (EP X pins σ Q) X.xe s := by
  refine wpAny_call (codeAny_mono (F A X.stack s H us vs Q E hr e0 r q) fun r s' hq => ?_)
  match r, hq with
  | .error e, hq => exact hx pins σ H s e s' I hq
  | .ok (.ret u), hq => exact I.after hq
theorem op_neI (F : FnR X.prog X.w X.K X.mg X.base CX n g sp) (hr : Room (n + 1) X.A) (hx : Passes CX X E) : OpR X (compareOp .NotEq) (rNeI X.K g sp E) := by
  rintro pins s σ H x y v u Q I rx ry ⟨a, b, C, dx, fs, t, rfl, rfl, ha, T, ty, nf, q⟩
  obtain rfl : v = Value.ref a := rx
  obtain rfl : u = Value.ref b := ry
  obtain ⟨mA, O, _⟩ := ins_get I.hok ha
  obtain ⟨od, J, _⟩ := O.look
  obtain ⟨P, Z, p, _⟩ := kit_of I (x := .ref b) rfl ty
  have hu := hr.units
  have e0 := I.env0
  show wpAny _ _ (richCompare .NotEq _ _) _ _ _
  refine PySem.W.ne_own (by omega) I.kIn J (Z.ty _ _ I.kIn p) nf T.ob T.ne T.eq T.fn ⟨b, rfl⟩ ?_
  refine thn (run_in1 (us := [.ref a, .ref b]) (vs := [.ref a, .ref b]) F hr.in1 ⟨e0.frames, e0.mod, e0.bs, e0.bsz, e0.funs, e0.frf, e0.hok, e0.bare⟩ hx I (.cons rfl (.cons rfl .nil)) q) fun r s' z => ?_
  obtain ⟨z', H', I', rz, k, ez, qz⟩ := z
  subst ez
  obtain rfl : r = Value.bool k := rz
  exact ⟨k, rfl, .bl (!k), H', I', rfl, qz⟩
/-- bool(x), x an instance with an own __bool__ -/
def rBoolI (K : PySem.W.Frag) (fns : Addr → Option Addr) (sp : Addr → Sp) (E : XK) : List V → Hp → VK → Prop := fun xs H Q => ∃ a C dx fs g, xs = [.ref a] ∧ H a = some (.ins C dx fs) ∧ fns C = some g ∧ PySem.W.findIn K (.ref C) "__bool__" = some (some (.ref g)) ∧ PySem.W.isFn K (.ref g) = true ∧
  sp g [.ref a] H (fun z H' => ∃ k, z = .bl k ∧ Q (.bl k) H') E
theorem call_boolI {fns : Addr → Option Addr} {spB : Addr → Sp} (F : ∀ C g, fns C = some g → FnR X.prog X.w X.K X.mg X.base CX n g (spB g)) (hr : Room (n + 2) X.A) (hx : Passes CX X E) : CallR X (.type "bool") (rBoolI X.K fns spB E) := by
  rintro pins s σ H xs us Q I r ⟨a, C, dx, fs, g, rfl, ha, hg, h1, h2, q⟩
  obtain ⟨u, rfl, ru⟩ := vals1 r
  obtain rfl : u = Value.ref a := ru
  obtain ⟨mA, O, _⟩ := ins_get I.hok ha
  obtain ⟨od, J, _⟩ := O.look
  have e0 := I.env0
  refine PySem.W.bool_own I.kIn J h1 h2 (thn (run_in1 (us := [.ref a]) (vs := [.ref a]) (F C g hg) (Room.in1 (k := n) (Room.in1 (k := n + 1) hr)) ⟨e0.frames, e0.mod, e0.bs, e0.bsz, e0.funs, e0.frf, e0.hok, e0.bare⟩ hx I (.cons rfl .nil) q) fun r s' z => ?_)
  obtain ⟨z', H', I', rz, k, ez, qz⟩ := z
  subst ez
  obtain rfl : r = Value.bool k := rz
  exact ⟨k, rfl, .bl k, H', I', rfl, qz⟩
end
end Cw

set_option Elab.async false
set_option linter.all false
set_option maxRecDepth 100000
set_option maxHeartbeats 4000000
/-! Cp4: what the head tells of classes whose instances are compared by an own def. -/
namespace Cw
open PySem PySem.Spec PyProof.Rows L2
structure PapF (K : PySem.W.Frag) (C g : Addr) (n : Str) : Prop where
  name : NameC K C n
  eq : EqC K C g
def nameB (K : PySem.W.Frag) (C : Addr) (n : Str) : Bool := match PySem.W.nameIn K C with
  | some (.str m _) => decide (m = n)
  | _ => false
theorem nameB_ok {K : PySem.W.Frag} {C : Addr} {n : Str} (h : nameB K C n = true) : ∃ tk, PySem.W.nameIn K C = some (.str n tk) := by
  unfold nameB at h
  split at h
  · rename_i m tk e
    have := of_decide_eq_true h
    subst this
    exact ⟨tk, e⟩
  · cases h
def fcB (K : PySem.W.Frag) (C : Addr) : Bool := match PySem.W.findCls K (.ref C) (.type "type") "__name__" with
  | some (.get (.builtin g) (.builtin a) (.ref D) (.type t)) => decide (g = "getset_descriptor.__get__") && (decide (a = "type.__name__") && (decide (D = C) && decide (t = "type")))
  | _ => false
theorem fcB_ok {K : PySem.W.Frag} {C : Addr} (h : fcB K C = true) : PySem.W.findCls K (.ref C) (.type "type") "__name__" = some (.get (.builtin "getset_descriptor.__get__") (.builtin "type.__name__") (.ref C) (.type "type")) := by
  unfold fcB at h
  split at h
  · rename_i g a D t e
    obtain ⟨h1, h⟩ := He.ba h
    obtain ⟨h2, h⟩ := He.ba h
    obtain ⟨h3, h4⟩ := He.ba h
    rw [e, of_decide_eq_true h1, of_decide_eq_true h2, of_decide_eq_true h3, of_decide_eq_true h4]
  · cases h
def papB (K : PySem.W.Frag) (g : Addr) (x : Str) : Bool :=
  let C := He.ga K x
  (He.Fa.cls x).ok K && (decide (PySem.W.findIn K (.ref C) "__getattribute__" = some (some (.builtin "object.__getattribute__"))) && (decide (PySem.W.findIn K (.ref C) "__getattr__" = some none) && ((PySem.W.clsIn K C).isSome &&
  (decide (PySem.W.findIn K (.ref C) "__class__" = some (some (.builtin "object.__class__"))) && (decide (PySem.W.specialIn K (.builtin "object.__class__") "__get__" = some (some (.builtin "getset_descriptor.__get__"))) && (decide (PySem.W.takesIn K (.builtin "object.__class__") = some true) &&
  (decide (PySem.W.mroIn K C (.type "object") = some true) && (decide (PySem.W.typeIn K (.ref C) = some (.type "type")) && (nameB K C x && (fcB K C && (decide (PySem.W.findIn K (.ref C) "__eq__" = some (some (.ref g))) && (PySem.W.isFn K (.ref g) &&
  decide (PySem.W.findIn K (.ref C) "__ne__" = some (some (.builtin "object.__ne__")))))))))))))))
theorem papB_ok {K : PySem.W.Frag} {g : Addr} {x : Str} (h : papB K g x = true) : PapF K (He.ga K x) g x := by
  unfold papB at h
  obtain ⟨a0, h⟩ := He.ba h
  obtain ⟨a1, h⟩ := He.ba h
  obtain ⟨a2, h⟩ := He.ba h
  obtain ⟨a3, h⟩ := He.ba h
  obtain ⟨a4, h⟩ := He.ba h
  obtain ⟨a5, h⟩ := He.ba h
  obtain ⟨a6, h⟩ := He.ba h
  obtain ⟨a7, h⟩ := He.ba h
  obtain ⟨a8, h⟩ := He.ba h
  obtain ⟨a9, h⟩ := He.ba h
  obtain ⟨b1, h⟩ := He.ba h
  obtain ⟨b2, h⟩ := He.ba h
  obtain ⟨b3, b4⟩ := He.ba h
  exact ⟨⟨He.cls_ok a0, of_decide_eq_true a1, of_decide_eq_true a2, a3, of_decide_eq_true a4, of_decide_eq_true a5, of_decide_eq_true a6, of_decide_eq_true a7, of_decide_eq_true a8, nameB_ok a9, fcB_ok b1⟩,
    ⟨of_decide_eq_true b2, b3, of_decide_eq_true a7, of_decide_eq_true b4⟩⟩
/-- an instance, as isinstance asks for its kind -/
theorem PapF.ty {K : PySem.W.Frag} {C g a dx : Addr} {n : Str} {H : Hp} {fs : List (Str × V)} (F : PapF K C g n) (h : H a = some (.ins C dx fs)) : TyX K H (.ref a) (.ref C) := .base (.ins h F.name.cl F.name.ha F.name.hn F.name.ht F.name.hm)
end Cw

set_option Elab.async false
set_option linter.all false
set_option maxRecDepth 100000
set_option maxHeartbeats 4000000
/-! Cp5: a field as a target within a tuple of targets. -/
namespace Cw
open PySem PySem.Spec PyProof.Rows L2
section
variable {X : Cx}
def gFld (K : PySem.W.Frag) (to : TE) (f : Str) : TG := fun v σ H Q => to σ H fun x H1 => ∃ a C dx fs, x = .ref a ∧ H1 a = some (.ins C dx fs) ∧ Cls K C ∧ NoAttr K C f ∧ fs.length < 1000 ∧ Q σ (upd H1 a (.ins C dx (putF f v fs)))
theorem pg_fld {o : Expr} {to : TE} {f : Str} {pos : Pos} (ho : PE X o to) : PG X (.Attribute o f pos) (gFld X.K to f) := by
  refine ⟨fun pins s σ H v u Q I r h => ?_⟩
  rw [assign_Attribute]
  refine wpAny_bind (wpAny_holding (thn (ho.run pins s σ H _ I h) fun ov s1 ⟨x, H1, I1, r1, a, C, dx, fs, ex, ea, cl, no, hl, q⟩ => ?_))
  subst ex
  obtain rfl : ov = Value.ref a := r1
  refine wpAny_bind (wpAny_standAt (wpAny_bind (wpAny_holding (setattr_ok I1 ea cl no hl r fun s3 I3 => ?_))))
  exact wpAny_release ⟨σ, _, I3, q⟩
end
def supiB (K : PySem.W.Frag) (g : Addr) (x : Str) : Bool :=
  let C := He.ga K x
  decide (PySem.W.mroIn K C (.ref C) = some true) && (decide (PySem.W.ks_superIn K C C "__init__" = some (some (.ref g))) && (decide (PySem.W.typeIn K (.ref g) = some (.type "function")) && PySem.W.fnIn K g))
theorem supiB_ok {K : PySem.W.Frag} {g : Addr} {x : Str} (h : supiB K g x = true) : SupI K (He.ga K x) (He.ga K x) g := by
  unfold supiB at h
  obtain ⟨a1, h⟩ := He.ba h
  obtain ⟨a2, h⟩ := He.ba h
  obtain ⟨a3, a4⟩ := He.ba h
  exact ⟨of_decide_eq_true a1, of_decide_eq_true a2, of_decide_eq_true a3, a4⟩
end Cw

set_option Elab.async false
set_option linter.all false
set_option maxRecDepth 100000
set_option maxHeartbeats 4000000
/-! Cl1: list.count of truth values. -/
namespace Cw
open PySem PySem.Spec PyProof.Rows L2
def rCntB (K : PySem.W.Frag) : V → List V → Hp → VK → Prop := fun x xs H Q => ∃ (p : Addr) (bs : List Bool) (k : Bool), x = .ref p ∧ xs = [.bl k] ∧ SqL K H p (bs.map V.bl) ∧ Q (.int (bs.count k : Nat)) H
theorem bools_read {h : Heap} : ∀ {bs : List Bool} {us : List Value}, Vals (bs.map V.bl) us → ∃ as, ReadsAll h us (bs.map PyData.bool) as
  | [], _, r => by cases r; exact ⟨_, .nil⟩
  | b :: bs, _, r => by
    cases r with
    | @cons _ u _ us r1 r2 =>
      obtain ⟨as, q⟩ := bools_read (h := h) r2
      obtain rfl : u = Value.bool b := r1
      exact ⟨_, .cons (.bool b) q⟩
theorem bools_plain : ∀ bs : List Bool, PyData.plainAll (bs.map PyData.bool) = true
  | [] => rfl
  | b :: bs => by
    have := bools_plain bs
    show (PyData.plain (.bool b) && PyData.plainAll (bs.map PyData.bool)) = true
    rw [this]
    rfl
theorem bools_count (k : Bool) : ∀ bs : List Bool, (bs.map PyData.bool).countP (fun y => PyData.eqv y (.bool k)) = bs.count k
  | [] => rfl
  | b :: bs => by
    rw [List.map_cons, List.countP_cons, List.count_cons, bools_count k bs]
    rfl
theorem mt_countB {X : Cx} (hu : X.A.units + 64 < cLine) : MtR X "list.count" (rCntB X.K) := by
  rintro pins s σ H x xs v us Q I rx rxs ⟨p, bs, k, rfl, rfl, hs, q⟩
  obtain rfl : v = Value.ref p := rx
  obtain ⟨u, rfl, ru⟩ := rxs.one
  obtain rfl : u = Value.bool k := ru
  obtain ⟨its, rv, pl, hlen⟩ := I.list hs
  obtain ⟨as, rs⟩ := bools_read (h := s.heap) rv
  refine PySem.SeqAt.count_list_data (d := .bool k) pl.isList rs (.bool k) (bools_plain bs) rfl (by simp only [PyData.depth]; omega) ?_
  rw [bools_count]
  exact ⟨.int _, H, I.tok _, ⟨_, rfl⟩, q⟩
end Cw
namespace Cw
open PySem PySem.Spec PyProof.Rows L2
section
variable {X : Cx}
/-! rules with the written part by name, for blocks -/
theorem ofldK (K : PySem.W.Frag) {e : Expr} {te : TE} {pos : Pos} {n : Str} (he : PE X e te) (h : X.K = K := by rfl) (hb : attributeBase e n X.env (eval e X.env) = eval e X.env := by rfl) : PE X (.Attribute e n pos) (tOfld K n te) := by subst h; exact pe_ofld he hb
theorem isXC (K : PySem.W.Frag) (h : X.K = K := by rfl) : CallR X (.builtin "isinstance") (rIsX K) := by subst h; exact call_isX
theorem isXTC (K : PySem.W.Frag) (h : X.K = K := by rfl) : CallR X (.builtin "isinstance") (rIsXT K) := by subst h; exact call_isXT
theorem countB (K : PySem.W.Frag) (hu : X.A.units + 64 < cLine) (h : X.K = K := by rfl) : MtR X "list.count" (rCntB K) := by subst h; exact mt_countB hu
theorem bmK (K : PySem.W.Frag) {T : String} {name : Str} {id : String} {r : V → List V → Hp → VK → Prop} {o e : Expr} {es : List Expr} {to : TE} {t : TA} {apos cpos : Pos} (pa : PlainAttrs T) (slot : Slot T name id) (hty : typeOf (.builtin id) = pure (.type "method_descriptor")) (hm : MtR X id r) (ho : PE X o to) (ha : PA X (e :: es) t)
    (h : X.K = K := by rfl) (hbase : attributeBase o name X.env (eval o X.env) = eval o X.env := by rfl)
    (hfew : ((backTo cpos (starEach (e :: es) X.env)).all (fun x => !x.1) && (backToKw cpos (keywordEach [] X.env)).all (fun x => x.1.isSome) && decide ((e :: es).length + ([] : List Keyword).length + (if ([] : List Keyword).isEmpty then 0 else 1) < 30)) = true := by rfl)
    (hline : (apos.endLine == cpos.line) = true := by rfl) (hs : starEach (e :: es) X.env = (false, eval e X.env) :: starEach es X.env := by rfl) (hplain : (backTo cpos (starEach es X.env)).any (·.1) = false := by rfl) :
    PE X (.Call (.Attribute o name apos) (e :: es) [] cpos) (tBM K T r to t) := by subst h; exact pe_bm pa slot hty hm ho ha hbase hfew hline hs hplain
end
/-- a promise by the binder is one by positions -/
theorem fnR_of {P : Program} {w : World} {K : PySem.W.Frag} {mg : Str → Option Value} {base : Heap} {CX : CXT} {k : Nat} {f : Addr} {fd : FuncData} {ps : List Str} {sp : Sp} (F : FnOk P w K mg base CX k f fd ps sp) (hb : Binds K fd ps []) : FnR P w K mg base CX k f sp :=
  fun A outer s H us vs Q E hr e0 r h => by
    have hl : (us ++ []).length = ps.length := by
      rw [List.append_nil, ← r.length]
      exact F.len _ _ _ _ h
    have b := hb s us (e0.mod.kin.keeps fun b o e => (e0.bs b o e).1) hl
    rw [List.append_nil] at b
    exact F.run A outer s H ⟨us, []⟩ us vs Q E hr e0 b r h
end Cw

set_option Elab.async false
set_option linter.all false
set_option maxRecDepth 100000
set_option maxHeartbeats 4000000
/-! Cl2: how drawn data are shown: short, each otherwise. -/
namespace Cw
open PySem PySem.Spec PyProof.Rows L2
/-! ### short -/
def lenD : Nat → Nat
  | 0 => 61
  | n + 1 => 4 * lenD n + 11
theorem lenD_ge : ∀ n, 61 ≤ lenD n
  | 0 => Nat.le_refl _
  | n + 1 => by have := lenD_ge n; simp only [lenD]; omega
theorem lenD_mono : ∀ {m n : Nat}, m ≤ n → lenD m ≤ lenD n
  | 0, n, _ => lenD_ge n
  | m + 1, 0, h => by omega
  | m + 1, n + 1, h => by have := lenD_mono (m := m) (n := n) (by omega); simp only [lenD]; omega
theorem keysOk_cases {kvs : List (PyData × PyData)} (h : keysOk kvs = true) : ∃ d1 d2, kvs = [(.str "a", d1), (.int 1, d2)] := by
  unfold keysOk at h
  split at h
  · rename_i x d1 i d2
    simp only [Bool.and_eq_true, decide_eq_true_eq] at h
    obtain ⟨rfl, rfl⟩ := h
    exact ⟨d1, d2, rfl⟩
  · cases h
theorem key_len1 : (PyData.shown (.str "a")).length = 3 := by decide +kernel
theorem key_len2 : (PyData.shown (.int 1)).length = 1 := by decide +kernel
theorem leafS_len {x : Str} (h : leafS x = true) : (reprText x).length ≤ 61 := by
  simp only [leafS, Bool.or_eq_true, decide_eq_true_eq] at h
  rcases h with rfl | rfl | rfl | rfl | rfl | rfl <;> decide +kernel
theorem leafI_len {i : Int} (h : leafI i = true) : (toString i : Str).length ≤ 61 := by
  simp only [leafI, Bool.or_eq_true, decide_eq_true_eq] at h
  rcases h with rfl | rfl | rfl | rfl <;> decide +kernel
mutual
theorem shown_len : ∀ (d : PyData) (n : Nat), drD d = true → d.depth ≤ n → d.shown.length ≤ lenD n
  | .none, n, _, _ => by
    have := lenD_ge n
    have e : (PyData.shown .none).length = 4 := rfl
    omega
  | .bool b, n, _, _ => by
    have := lenD_ge n
    have e : (PyData.shown (.bool b)).length ≤ 5 := by cases b <;> decide
    omega
  | .int i, n, h, _ => by
    have := lenD_ge n
    have h2 := leafI_len (by simpa only [drD] using h)
    simp only [PyData.shown]
    omega
  | .str x, n, h, _ => by
    have := lenD_ge n
    have h2 := leafS_len (by simpa only [drD] using h)
    simp only [PyData.shown]
    omega
  | .list ds, 0, h, hd => by simp [PyData.depth] at hd
  | .tuple ds, 0, h, hd => by simp [PyData.depth] at hd
  | .dict ds, 0, h, hd => by simp [PyData.depth] at hd
  | .list ds, n + 1, h, hd => by
    simp only [drD, Bool.and_eq_true, decide_eq_true_eq] at h
    simp only [PyData.depth] at hd
    obtain ⟨h1, h2⟩ := shownAll_len ds n h.2 (by omega)
    have h3 := listText_len_le (PyData.shownAll ds)
    have h4 : ds.length * lenD n ≤ 4 * lenD n := Nat.mul_le_mul_right _ h.1
    simp only [PyData.shown, lenD]
    omega
  | .tuple ds, n + 1, h, hd => by
    simp only [drD, Bool.and_eq_true, decide_eq_true_eq] at h
    simp only [PyData.depth] at hd
    obtain ⟨h1, h2⟩ := shownAll_len ds n h.2 (by omega)
    have h3 := tupleText_len_le (PyData.shownAll ds)
    have h4 : ds.length * lenD n ≤ 4 * lenD n := Nat.mul_le_mul_right _ h.1
    simp only [PyData.shown, lenD]
    omega
  | .dict kvs, n + 1, h, hd => by
    simp only [drD, Bool.and_eq_true] at h
    simp only [PyData.depth] at hd
    obtain ⟨h1, h2⟩ := shownKv_len kvs n h.2 (by omega)
    have h3 := dictText_len_le (PyData.shownKv kvs)
    obtain ⟨d1, d2, e⟩ := keysOk_cases h.1
    have h5 : (kvs.map fun p => p.1.shown.length).sum = 4 := by
      rw [e]
      simp only [List.map_cons, List.map_nil, List.sum_cons, List.sum_nil, key_len1, key_len2]
      rfl
    have h6 : kvs.length = 2 := by rw [e]; rfl
    have h7 := lenD_ge n
    rw [h6] at h1 h2
    simp only [PyData.shown, lenD]
    omega
theorem shownAll_len : ∀ (ds : List PyData) (n : Nat), drAll ds = true → PyData.depthAll ds ≤ n → ((PyData.shownAll ds).map (·.length)).sum ≤ ds.length * lenD n ∧ (PyData.shownAll ds).length = ds.length
  | [], n, _, _ => by simp [PyData.shownAll]
  | d :: ds, n, h, hd => by
    simp only [drAll, Bool.and_eq_true] at h
    simp only [PyData.depthAll] at hd
    have h1 := shown_len d n h.1 (by omega)
    obtain ⟨h2, h3⟩ := shownAll_len ds n h.2 (by omega)
    simp only [PyData.shownAll, List.map_cons, List.sum_cons, List.length_cons, h3, and_true]
    have : (ds.length + 1) * lenD n = ds.length * lenD n + lenD n := Nat.succ_mul _ _
    omega
theorem shownKv_len : ∀ (ds : List (PyData × PyData)) (n : Nat), drKv ds = true → PyData.depthKv ds ≤ n → ((PyData.shownKv ds).map (·.length)).sum ≤ (ds.map fun p => p.1.shown.length).sum + ds.length * (lenD n + 2) ∧ (PyData.shownKv ds).length = ds.length
  | [], n, _, _ => by simp [PyData.shownKv]
  | (k, d) :: ds, n, h, hd => by
    simp only [drKv, Bool.and_eq_true] at h
    simp only [PyData.depthKv] at hd
    have h1 := shown_len d n h.1 (by omega)
    obtain ⟨h2, h3⟩ := shownKv_len ds n h.2 (by omega)
    have e : (k.shown ++ ": " ++ d.shown : Str).length = k.shown.length + 2 + d.shown.length := by
      rw [strLen_append, strLen_append]
      rfl
    simp only [PyData.shownKv, List.map_cons, List.sum_cons, List.length_cons, h3, and_true, e]
    have : (ds.length + 1) * (lenD n + 2) = ds.length * (lenD n + 2) + (lenD n + 2) := Nat.succ_mul _ _
    omega
end
/-! ### may be shown -/
mutual
theorem drD.showable : ∀ {d : PyData}, drD d = true → d.showable = true
  | .none, _ => by simp only [PyData.showable]
  | .bool _, _ => by simp only [PyData.showable]
  | .str _, _ => by simp only [PyData.showable]
  | .int i, h => by
    simp only [drD, leafI, Bool.or_eq_true, decide_eq_true_eq] at h
    simp only [PyData.showable, decide_eq_true_eq]
    rcases h with rfl | rfl | rfl | rfl <;> decide +kernel
  | .list ds, h => by
    simp only [drD, Bool.and_eq_true] at h
    simp only [PyData.showable]
    exact drAll.showable h.2
  | .tuple ds, h => by
    simp only [drD, Bool.and_eq_true] at h
    simp only [PyData.showable]
    exact drAll.showable h.2
  | .dict ds, h => by
    simp only [drD, Bool.and_eq_true] at h
    obtain ⟨d1, d2, e⟩ := keysOk_cases h.1
    simp only [PyData.showable]
    refine drKv.showable h.2 ?_
    rw [e]
    simp only [List.all_cons, List.all_nil, PyData.showable, Bool.and_true, Bool.true_and]
    decide +kernel
theorem drAll.showable : ∀ {ds : List PyData}, drAll ds = true → PyData.showableAll ds = true
  | [], _ => by simp only [PyData.showableAll]
  | d :: ds, h => by
    simp only [drAll, Bool.and_eq_true] at h
    simp only [PyData.showableAll, Bool.and_eq_true]
    exact ⟨drD.showable h.1, drAll.showable h.2⟩
theorem drKv.showable : ∀ {ds : List (PyData × PyData)}, drKv ds = true → (ds.all fun p => p.1.showable) = true → PyData.showableKv ds = true
  | [], _, _ => by simp only [PyData.showableKv]
  | (k, d) :: ds, h, hk => by
    simp only [drKv, Bool.and_eq_true] at h
    simp only [List.all_cons, Bool.and_eq_true] at hk
    simp only [PyData.showableKv, Bool.and_eq_true]
    exact ⟨⟨hk.1, drD.showable h.1⟩, drKv.showable h.2 hk.2⟩
end
end Cw

set_option Elab.async false
set_option linter.all false
set_option maxRecDepth 100000
set_option maxHeartbeats 4000000
/-! Cl3: drawn data that are shown alike are alike. -/
namespace Cw
open PySem PySem.Spec PyProof.Rows L2
def sl (d : PyData) : List Nat := d.shown.cps.toList
def isStop (c : Nat) : Bool := c == 44 || (c == 93 || (c == 41 || c == 125))
def stopL : List Nat → Bool
  | [] => true
  | c :: _ => isStop c
/-- no text that stops there can make them the same -/
def apart : List Nat → List Nat → Bool
  | [], [] => false
  | [], c :: _ => !isStop c
  | c :: _, [] => !isStop c
  | c :: a, d :: b => (c != d) || apart a b
theorem apart_ne : ∀ {a b x y : List Nat}, apart a b = true → stopL x = true → stopL y = true → a ++ x ≠ b ++ y
  | [], [], _, _, h, _, _ => by cases h
  | [], c :: b, x, y, h, hx, _ => fun e => by
    have e : x = c :: (b ++ y) := e
    rw [e] at hx
    simp only [apart, Bool.not_eq_true'] at h
    rw [show stopL (c :: (b ++ y)) = isStop c from rfl, h] at hx
    cases hx
  | c :: a, [], x, y, h, _, hy => fun e => by
    have e : c :: (a ++ x) = y := e
    rw [← e] at hy
    simp only [apart, Bool.not_eq_true'] at h
    rw [show stopL (c :: (a ++ x)) = isStop c from rfl, h] at hy
    cases hy
  | c :: a, d :: b, x, y, h, hx, hy => fun e => by
    have e : c :: (a ++ x) = d :: (b ++ y) := e
    obtain ⟨e1, e2⟩ := List.cons.inj e
    simp only [apart, Bool.or_eq_true, bne_iff_ne] at h
    rcases h with h | h
    · exact h e1
    · exact apart_ne h hx hy e2
/-! ### leaves -/
def leaves : List PyData := [.none, .bool true, .bool false, .int 0, .int 1, .int (-1), .int (10 ^ 59), .str "", .str "a", .str "ann", .str "1", .str "stairs", .str "bound"]
def isLeaf : PyData → Bool
  | .list _ => false
  | .tuple _ => false
  | .dict _ => false
  | _ => true
theorem leaf_at {d : PyData} (h : drD d = true) (hl : isLeaf d = true) : ∃ i, i < 13 ∧ leaves[i]? = some d := by
  cases d with
  | none => exact ⟨0, by decide, rfl⟩
  | bool b => cases b; exact ⟨2, by decide, rfl⟩; exact ⟨1, by decide, rfl⟩
  | int i =>
    simp only [drD, leafI, Bool.or_eq_true, decide_eq_true_eq] at h
    rcases h with rfl | rfl | rfl | rfl
    · exact ⟨3, by decide, rfl⟩
    · exact ⟨4, by decide, rfl⟩
    · exact ⟨5, by decide, rfl⟩
    · exact ⟨6, by decide, rfl⟩
  | str x =>
    simp only [drD, leafS, Bool.or_eq_true, decide_eq_true_eq] at h
    rcases h with rfl | rfl | rfl | rfl | rfl | rfl
    · exact ⟨7, by decide, rfl⟩
    · exact ⟨8, by decide, rfl⟩
    · exact ⟨9, by decide, rfl⟩
    · exact ⟨10, by decide, rfl⟩
    · exact ⟨11, by decide, rfl⟩
    · exact ⟨12, by decide, rfl⟩
  | list _ => cases hl
  | tuple _ => cases hl
  | dict _ => cases hl
/-- how the i-th leaf is shown -/
def leafT (i : Nat) : List Nat := match leaves[i]? with
  | some d => sl d
  | none => []
theorem leaves_apart : ((List.range 13).all fun i => (List.range 13).all fun j => (i == j) || apart (leafT i) (leafT j)) = true := by decide +kernel
/-- a text that begins like a leaf -/
def leafHead : List Nat → Bool
  | [] => false
  | c :: _ => !isStop c && (c != 91 && (c != 40 && c != 123))
theorem leaves_head : ((List.range 13).all fun i => leafHead (leafT i)) = true := by decide +kernel
theorem leaf_leaf {d e : PyData} (hd : drD d = true) (he : drD e = true) (ld : isLeaf d = true) (le : isLeaf e = true) : d = e ∨ apart (sl d) (sl e) = true := by
  obtain ⟨i, hi, h1⟩ := leaf_at hd ld
  obtain ⟨j, hj, h2⟩ := leaf_at he le
  have h := List.all_eq_true.mp (List.all_eq_true.mp leaves_apart i (List.mem_range.mpr hi)) j (List.mem_range.mpr hj)
  simp only [Bool.or_eq_true, beq_iff_eq] at h
  rcases h with rfl | h
  · rw [h1] at h2
    exact .inl (Option.some.inj h2)
  · right
    unfold leafT at h
    rw [h1, h2] at h
    exact h
theorem leaf_head {d : PyData} (hd : drD d = true) (ld : isLeaf d = true) : leafHead (sl d) = true := by
  obtain ⟨i, hi, h1⟩ := leaf_at hd ld
  have h := List.all_eq_true.mp leaves_head i (List.mem_range.mpr hi)
  unfold leafT at h
  rw [h1] at h
  exact h
/-! ### lists, tuples, dicts -/
mutual
def bd : List PyData → List Nat
  | [] => []
  | d :: ds => sl d ++ bdr ds
def bdr : List PyData → List Nat
  | [] => []
  | d :: ds => 44 :: 32 :: (sl d ++ bdr ds)
end
theorem app_list (x y : Str) : (x ++ y).cps.toList = x.cps.toList ++ y.cps.toList := by
  show (x.cps ++ y.cps).toList = _
  rw [Array.toList_append]
theorem join_bd : ∀ ds : List PyData, (Str.join ", " (PyData.shownAll ds)).cps.toList = bd ds
  | [] => by simp only [PyData.shownAll, bd]; rfl
  | [d] => by simp only [PyData.shownAll, bd, bdr, List.append_nil]; rfl
  | d :: e :: ds => by
    have ih := join_bd (e :: ds)
    simp only [PyData.shownAll] at ih ⊢
    show (d.shown ++ ", " ++ Str.join ", " (e.shown :: PyData.shownAll ds) : Str).cps.toList = _
    rw [app_list, app_list, ih]
    simp only [bd, bdr]
    show sl d ++ [44, 32] ++ (sl e ++ bdr ds) = _
    simp
theorem sl_list (ds : List PyData) : sl (.list ds) = 91 :: (bd ds ++ [93]) := by
  unfold sl
  simp only [PyData.shown, listText_eq_join]
  rw [app_list, app_list, join_bd]
  rfl
theorem sl_tuple (ds : List PyData) : sl (.tuple ds) = 40 :: (bd ds ++ (if ds.length = 1 then [44, 41] else [41])) := by
  unfold sl
  simp only [PyData.shown, tupleText]
  rw [app_list, app_list, join_bd, PyData.shownAll_length]
  by_cases h : ds.length = 1
  · rw [h]; rfl
  · rw [if_neg h]
    have : (ds.length == 1) = false := by simpa using h
    rw [this]; rfl
theorem sl_dict (d1 d2 : PyData) : sl (.dict [(.str "a", d1), (.int 1, d2)]) = [123, 39, 97, 39, 58, 32] ++ (sl d1 ++ ([44, 32, 49, 58, 32] ++ (sl d2 ++ [125]))) := by
  have k1 : (PyData.shown (.str "a")).cps.toList = [39, 97, 39] := by decide +kernel
  have k2 : (PyData.shown (.int 1)).cps.toList = [49] := by decide +kernel
  unfold sl
  simp only [PyData.shown, PyData.shownKv, dictText]
  show (("{" : Str) ++ (PyData.shown (.str "a") ++ ": " ++ d1.shown ++ ", " ++ (PyData.shown (.int 1) ++ ": " ++ d2.shown)) ++ "}" : Str).cps.toList = _
  simp only [app_list, k1, k2]
  show [123] ++ ([39, 97, 39] ++ [58, 32] ++ _ ++ [44, 32] ++ ([49] ++ [58, 32] ++ _)) ++ [125] = _
  simp
end Cw

set_option Elab.async false
set_option linter.all false
set_option maxRecDepth 100000
set_option maxHeartbeats 4000000
/-! Cl4: drawn data are told apart by how they are shown. -/
namespace Cw
open PySem PySem.Spec PyProof.Rows L2
theorem leafHead_cons {l : List Nat} (h : leafHead l = true) : ∃ c t, l = c :: t ∧ isStop c = false ∧ c ≠ 91 ∧ c ≠ 40 ∧ c ≠ 123 := by
  cases l with
  | nil => cases h
  | cons c t =>
    simp only [leafHead, Bool.and_eq_true, Bool.not_eq_true', bne_iff_ne] at h
    exact ⟨c, t, rfl, h.1, h.2.1, h.2.2.1, h.2.2.2⟩
theorem head_free {d : PyData} (h : drD d = true) : ∃ c t, sl d = c :: t ∧ isStop c = false := by
  cases hl : isLeaf d with
  | true =>
    obtain ⟨c, t, e, hs, _⟩ := leafHead_cons (leaf_head h hl)
    exact ⟨c, t, e, hs⟩
  | false =>
    cases d with
    | list ds => exact ⟨91, _, sl_list ds, rfl⟩
    | tuple ds => exact ⟨40, _, sl_tuple ds, rfl⟩
    | dict kvs =>
      simp only [drD, Bool.and_eq_true] at h
      obtain ⟨d1, d2, rfl⟩ := keysOk_cases h.1
      exact ⟨123, _, sl_dict d1 d2, rfl⟩
    | none => cases hl
    | bool _ => cases hl
    | int _ => cases hl
    | str _ => cases hl
theorem comp_head {d : PyData} (h : drD d = true) (hl : isLeaf d = false) : ∃ c t, sl d = c :: t ∧ (c = 91 ∨ c = 40 ∨ c = 123) := by
  cases d with
  | list ds => exact ⟨91, _, sl_list ds, .inl rfl⟩
  | tuple ds => exact ⟨40, _, sl_tuple ds, .inr (.inl rfl)⟩
  | dict kvs =>
    simp only [drD, Bool.and_eq_true] at h
    obtain ⟨d1, d2, rfl⟩ := keysOk_cases h.1
    exact ⟨123, _, sl_dict d1 d2, .inr (.inr rfl)⟩
  | none => cases hl
  | bool _ => cases hl
  | int _ => cases hl
  | str _ => cases hl
theorem stop_bdr {ds : List PyData} {c : Nat} {x : List Nat} (hc : isStop c = true) : stopL (bdr ds ++ c :: x) = true := by
  cases ds with
  | nil => simpa only [bdr, List.nil_append, stopL] using hc
  | cons d ds => simp only [bdr, List.cons_append, stopL]; rfl
theorem leaf_comp {d e : PyData} {x y : List Nat} (hd : drD d = true) (he : drD e = true) (ld : isLeaf d = true) (le : isLeaf e = false) : sl d ++ x ≠ sl e ++ y := fun h => by
  obtain ⟨c, t, e1, _, n1, n2, n3⟩ := leafHead_cons (leaf_head hd ld)
  obtain ⟨c', t', e2, hc⟩ := comp_head he le
  rw [e1, e2] at h
  have := (List.cons.inj h).1
  subst this
  rcases hc with rfl | rfl | rfl
  · exact n1 rfl
  · exact n2 rfl
  · exact n3 rfl
mutual
theorem parseD : ∀ (n : Nat) (d e : PyData) (x y : List Nat) (hn : sizeOf d < n) (hd : drD d = true) (he : drD e = true) (hx : stopL x = true) (hy : stopL y = true) (h : sl d ++ x = sl e ++ y), d = e ∧ x = y
 | 0, _, _, _, _, hn, _, _, _, _, _ => absurd hn (Nat.not_lt_zero _)
 | n + 1, d, e, x, y, hn, hd, he, hx, hy, h => by
  cases ld : isLeaf d with
  | true =>
    cases le : isLeaf e with
    | true =>
      rcases leaf_leaf hd he ld le with rfl | ha
      · exact ⟨rfl, List.append_cancel_left h⟩
      · exact absurd h (apart_ne ha hx hy)
    | false => exact absurd h (leaf_comp hd he ld le)
  | false =>
    cases le : isLeaf e with
    | true => exact absurd h.symm (leaf_comp he hd le ld)
    | false =>
      match d, e, hn, hd, he, ld, le, h with
      | .list ds, .list es, hn, hd, he, _, _, h =>
        rw [sl_list, sl_list] at h
        simp only [drD, Bool.and_eq_true] at hd he
        have h : bd ds ++ 93 :: x = bd es ++ 93 :: y := by simpa using h
        match ds, es, hn, hd, he, h with
        | [], [], _, _, _, h => exact ⟨rfl, by simpa [bd] using h⟩
        | [], e :: es, _, _, he, h =>
          simp only [drAll, Bool.and_eq_true] at he
          obtain ⟨c, t, e1, hs⟩ := head_free he.2.1
          simp only [bd, e1, List.nil_append, List.cons_append, List.cons.injEq] at h
          rw [← h.1] at hs
          cases hs
        | d :: ds, [], _, hd, _, h =>
          simp only [drAll, Bool.and_eq_true] at hd
          obtain ⟨c, t, e1, hs⟩ := head_free hd.2.1
          simp only [bd, e1, List.nil_append, List.cons_append, List.cons.injEq] at h
          rw [h.1] at hs
          cases hs
        | d :: ds, e :: es, hn, hd, he, h =>
          simp only [PyData.list.sizeOf_spec, PyData.tuple.sizeOf_spec, List.cons.sizeOf_spec] at hn
          simp only [drAll, Bool.and_eq_true] at hd he
          simp only [bd, List.append_assoc] at h
          obtain ⟨rfl, h2⟩ := parseD n d e _ _ (by omega) hd.2.1 he.2.1 (stop_bdr rfl) (stop_bdr rfl) h
          obtain ⟨rfl, h3⟩ := parseR n ds es 93 x y (by omega) (by decide) rfl hd.2.2 he.2.2 h2
          exact ⟨rfl, h3⟩
      | .tuple ds, .tuple es, hn, hd, he, _, _, h =>
        rw [sl_tuple, sl_tuple] at h
        simp only [drD, Bool.and_eq_true] at hd he
        have h : bd ds ++ ((if ds.length = 1 then [44, 41] else [41]) ++ x) = bd es ++ ((if es.length = 1 then [44, 41] else [41]) ++ y) := by simpa using h
        match ds, es, hn, hd, he, h with
        | [], [], _, _, _, h => exact ⟨rfl, by simpa [bd] using h⟩
        | [], e :: es, _, _, he, h =>
          simp only [drAll, Bool.and_eq_true] at he
          obtain ⟨c, t, e1, hs⟩ := head_free he.2.1
          simp only [bd, e1, List.nil_append, List.cons_append, List.length_nil] at h
          rw [if_neg (by decide)] at h
          have h4 : 41 = c := (List.cons.inj h).1
          rw [← h4] at hs
          cases hs
        | d :: ds, [], _, hd, _, h =>
          simp only [drAll, Bool.and_eq_true] at hd
          obtain ⟨c, t, e1, hs⟩ := head_free hd.2.1
          simp only [bd, e1, List.nil_append, List.cons_append, List.length_nil] at h
          rw [if_neg (show ¬ ((0 : Nat) = 1) by decide)] at h
          have h4 : c = 41 := (List.cons.inj h).1
          rw [h4] at hs
          cases hs
        | d :: ds, e :: es, hn, hd, he, h =>
          simp only [PyData.list.sizeOf_spec, PyData.tuple.sizeOf_spec, List.cons.sizeOf_spec] at hn
          simp only [drAll, Bool.and_eq_true] at hd he
          simp only [bd, List.append_assoc] at h
          have st : ∀ (zs : List PyData) (z : List Nat) (d0 : PyData), stopL (bdr zs ++ ((if (d0 :: zs).length = 1 then [44, 41] else [41]) ++ z)) = true := fun zs z d0 => by
            by_cases hz : (d0 :: zs).length = 1
            · rw [if_pos hz]
              exact stop_bdr rfl
            · rw [if_neg hz]
              exact stop_bdr rfl
          obtain ⟨rfl, h2⟩ := parseD n d e _ _ (by omega) hd.2.1 he.2.1 (st ds x d) (st es y e) h
          match ds, es, hn, hd, he, h2 with
          | [], [], _, _, _, h2 => exact ⟨rfl, by simpa [bdr] using h2⟩
          | [], e' :: es, _, _, _, h2 =>
            simp [bdr] at h2
          | d' :: ds, [], _, _, _, h2 =>
            simp [bdr] at h2
          | d' :: ds, e' :: es, hn, hd, he, h2 =>
            rw [if_neg (by simp), if_neg (by simp)] at h2
            obtain ⟨e3, h3⟩ := parseR n (d' :: ds) (e' :: es) 41 x y (by omega) (by decide) rfl hd.2.2 he.2.2 h2
            exact ⟨by rw [e3], h3⟩
      | .dict ks, .dict ls, hn, hd, he, _, _, h =>
        simp only [drD, Bool.and_eq_true] at hd he
        obtain ⟨d1, d2, e1⟩ := keysOk_cases hd.1
        obtain ⟨f1, f2, e2⟩ := keysOk_cases he.1
        subst e1 e2
        simp only [PyData.dict.sizeOf_spec, List.cons.sizeOf_spec, Prod.mk.sizeOf_spec] at hn
        rw [sl_dict, sl_dict] at h
        simp only [drKv, Bool.and_eq_true] at hd he
        have h : sl d1 ++ (44 :: 32 :: 49 :: 58 :: 32 :: (sl d2 ++ (125 :: x))) = sl f1 ++ (44 :: 32 :: 49 :: 58 :: 32 :: (sl f2 ++ (125 :: y))) := by simpa using h
        obtain ⟨rfl, h2⟩ := parseD n d1 f1 _ _ (by omega) hd.2.1 he.2.1 rfl rfl h
        have h2 : sl d2 ++ (125 :: x) = sl f2 ++ (125 :: y) := by simpa using h2
        obtain ⟨rfl, h3⟩ := parseD n d2 f2 _ _ (by omega) hd.2.2.1 he.2.2.1 rfl rfl h2
        exact ⟨rfl, (List.cons.inj h3).2⟩
      | .list ds, .tuple es, _, _, _, _, _, h => rw [sl_list, sl_tuple] at h; exact absurd (List.cons.inj h).1 (by decide)
      | .tuple ds, .list es, _, _, _, _, _, h => rw [sl_list, sl_tuple] at h; exact absurd (List.cons.inj h).1 (by decide)
      | .list ds, .dict ls, _, _, he, _, _, h =>
        simp only [drD, Bool.and_eq_true] at he
        obtain ⟨f1, f2, rfl⟩ := keysOk_cases he.1
        rw [sl_list, sl_dict] at h
        exact absurd (List.cons.inj h).1 (by decide)
      | .tuple ds, .dict ls, _, _, he, _, _, h =>
        simp only [drD, Bool.and_eq_true] at he
        obtain ⟨f1, f2, rfl⟩ := keysOk_cases he.1
        rw [sl_tuple, sl_dict] at h
        exact absurd (List.cons.inj h).1 (by decide)
      | .dict ls, .list ds, _, hd, _, _, _, h =>
        simp only [drD, Bool.and_eq_true] at hd
        obtain ⟨f1, f2, rfl⟩ := keysOk_cases hd.1
        rw [sl_list, sl_dict] at h
        exact absurd (List.cons.inj h).1 (by decide)
      | .dict ls, .tuple ds, _, hd, _, _, _, h =>
        simp only [drD, Bool.and_eq_true] at hd
        obtain ⟨f1, f2, rfl⟩ := keysOk_cases hd.1
        rw [sl_tuple, sl_dict] at h
        exact absurd (List.cons.inj h).1 (by decide)
theorem parseR : ∀ (n : Nat) (ds es : List PyData) (c : Nat) (x y : List Nat) (hn : sizeOf ds < n) (nc : c ≠ 44) (hc : isStop c = true) (hd : drAll ds = true) (he : drAll es = true) (h : bdr ds ++ c :: x = bdr es ++ c :: y), ds = es ∧ x = y
 | 0, _, _, _, _, _, hn, _, _, _, _, _ => absurd hn (Nat.not_lt_zero _)
 | n + 1, ds, es, c, x, y, hn, nc, hc, hd, he, h => by
  match ds, es, hn, hd, he, h with
  | [], [], _, _, _, h => exact ⟨rfl, by simpa [bdr] using h⟩
  | [], e :: es, _, _, _, h =>
    simp only [bdr, List.nil_append, List.cons_append, List.cons.injEq] at h
    exact absurd h.1 nc
  | d :: ds, [], _, _, _, h =>
    simp only [bdr, List.nil_append, List.cons_append, List.cons.injEq] at h
    exact absurd h.1.symm nc
  | d :: ds, e :: es, hn, hd, he, h =>
    simp only [List.cons.sizeOf_spec] at hn
    simp only [drAll, Bool.and_eq_true] at hd he
    simp only [bdr, List.cons_append, List.cons.injEq, true_and, List.append_assoc] at h
    obtain ⟨rfl, h2⟩ := parseD n d e _ _ (by omega) hd.1 he.1 (stop_bdr hc) (stop_bdr hc) h
    obtain ⟨rfl, h3⟩ := parseR n ds es c x y (by omega) nc hc hd.2 he.2 h2
    exact ⟨rfl, h3⟩
end
theorem shown_inj {d e : PyData} (hd : drD d = true) (he : drD e = true) (h : d.shown = e.shown) : d = e := by
  have h2 : sl d ++ [] = sl e ++ [] := by unfold sl; rw [h]
  exact (parseD (sizeOf d + 1) d e [] [] (Nat.lt_succ_self _) hd he rfl rfl h2).1
end Cw

set_option Elab.async false
set_option linter.all false
set_option maxRecDepth 100000
set_option maxHeartbeats 4000000
/-! Cl5: alike, shown alike, the same; as told. -/
namespace Cw
open PySem PySem.Spec PyProof.Rows L2
mutual
theorem like_self : ∀ d : PyData, likeD d d = true
  | .none => by simp only [likeD]
  | .bool _ => by simp [likeD]
  | .int _ => by simp [likeD]
  | .str _ => by simp [likeD]
  | .list ds => by simp only [likeD, likeAll_self ds, decide_true, Bool.and_self]
  | .tuple ds => by simp only [likeD, likeAll_self ds, decide_true, Bool.and_self]
  | .dict ds => by simp only [likeD, likeKv_self ds]
theorem likeAll_self : ∀ ds : List PyData, likeAll ds ds = true
  | [] => by simp only [likeAll]
  | d :: ds => by simp only [likeAll, like_self d, likeAll_self ds, Bool.and_self]
theorem likeKv_self : ∀ ds : List (PyData × PyData), likeKv ds ds = true
  | [] => by simp only [likeKv]
  | (k, d) :: ds => by simp only [likeKv, like_self d, likeKv_self ds, Bool.and_self]
end
mutual
theorem like_eq : ∀ {d e : PyData}, drD d = true → drD e = true → likeD d e = true → d = e
  | .none, e, _, _, h => by cases e <;> first | rfl | (simp [likeD] at h)
  | .bool a, e, _, _, h => by cases e <;> first | (simp [likeD] at h; try rw [h]) | skip
  | .int a, e, _, _, h => by cases e <;> first | (simp [likeD] at h; try rw [h]) | skip
  | .str a, e, _, _, h => by cases e <;> first | (simp [likeD] at h; try rw [h]) | skip
  | .list ds, e, hd, he, h => by
    cases e with
    | list es =>
      simp only [drD, Bool.and_eq_true] at hd he
      simp only [likeD, Bool.and_eq_true, decide_eq_true_eq] at h
      rw [likeAll_eq hd.2 he.2 h.1 h.2]
    | _ => simp [likeD] at h
  | .tuple ds, e, hd, he, h => by
    cases e with
    | tuple es =>
      simp only [drD, Bool.and_eq_true] at hd he
      simp only [likeD, Bool.and_eq_true, decide_eq_true_eq] at h
      rw [likeAll_eq hd.2 he.2 h.1 h.2]
    | _ => simp [likeD] at h
  | .dict ds, e, hd, he, h => by
    cases e with
    | dict es =>
      simp only [drD, Bool.and_eq_true] at hd he
      simp only [likeD] at h
      obtain ⟨d1, d2, e1⟩ := keysOk_cases hd.1
      obtain ⟨f1, f2, e2⟩ := keysOk_cases he.1
      rw [likeKv_eq hd.2 he.2 (by rw [e1, e2]; rfl) h]
    | _ => simp [likeD] at h
theorem likeAll_eq : ∀ {ds es : List PyData}, drAll ds = true → drAll es = true → ds.length = es.length → likeAll ds es = true → ds = es
  | [], [], _, _, _, _ => rfl
  | [], _ :: _, _, _, h, _ => by simp at h
  | _ :: _, [], _, _, h, _ => by simp at h
  | d :: ds, e :: es, hd, he, hl, h => by
    simp only [drAll, Bool.and_eq_true] at hd he
    simp only [likeAll, Bool.and_eq_true] at h
    rw [like_eq hd.1 he.1 h.1, likeAll_eq hd.2 he.2 (by simpa using hl) h.2]
theorem likeKv_eq : ∀ {ds es : List (PyData × PyData)}, drKv ds = true → drKv es = true → ds.map (·.1) = es.map (·.1) → likeKv ds es = true → ds = es
  | [], [], _, _, _, _ => rfl
  | [], _ :: _, _, _, h, _ => by simp at h
  | _ :: _, [], _, _, h, _ => by simp at h
  | (k, d) :: ds, (l, e) :: es, hd, he, hk, h => by
    simp only [drKv, Bool.and_eq_true] at hd he
    simp only [likeKv, Bool.and_eq_true] at h
    simp only [List.map_cons, List.cons.injEq] at hk
    rw [like_eq hd.1 he.1 h.1, likeKv_eq hd.2 he.2 hk.2 h.2, hk.1]
end
/-- alike just if shown alike -/
theorem like_shown {d e : PyData} (hd : drD d = true) (he : drD e = true) : likeD d e = decide (d.shown = e.shown) := by
  rw [Bool.eq_iff_iff, decide_eq_true_eq]
  constructor
  · intro h
    rw [like_eq hd he h]
  · intro h
    rw [shown_inj hd he h]
    exact like_self e
mutual
theorem fixed_dr : ∀ {d : PyData}, drD d = true → drD (fixedD d) = true
  | .none, h => by simpa only [fixedD] using h
  | .bool _, h => by simpa only [fixedD] using h
  | .int _, h => by simpa only [fixedD] using h
  | .str _, h => by simpa only [fixedD] using h
  | .dict _, h => by simpa only [fixedD] using h
  | .list ds, h => by
    simp only [drD, Bool.and_eq_true, decide_eq_true_eq] at h
    simp only [fixedD, drD, Bool.and_eq_true, decide_eq_true_eq]
    exact ⟨by rw [fixedAll_map, List.length_map]; exact h.1, fixedAll_dr h.2⟩
  | .tuple ds, h => by
    simp only [drD, Bool.and_eq_true, decide_eq_true_eq] at h
    simp only [fixedD, drD, Bool.and_eq_true, decide_eq_true_eq]
    exact ⟨by rw [fixedAll_map, List.length_map]; exact h.1, fixedAll_dr h.2⟩
theorem fixedAll_dr : ∀ {ds : List PyData}, drAll ds = true → drAll (fixedAll ds) = true
  | [], _ => by simp only [fixedAll, drAll]
  | d :: ds, h => by
    simp only [drAll, Bool.and_eq_true] at h
    simp only [fixedAll, drAll, fixed_dr h.1, fixedAll_dr h.2, Bool.and_self]
end
mutual
theorem fixed_depth : ∀ d : PyData, (fixedD d).depth = d.depth
  | .none => by simp only [fixedD]
  | .bool _ => by simp only [fixedD]
  | .int _ => by simp only [fixedD]
  | .str _ => by simp only [fixedD]
  | .dict _ => by simp only [fixedD]
  | .list ds => by simp only [fixedD, PyData.depth, fixedAll_depth ds]
  | .tuple ds => by simp only [fixedD, PyData.depth, fixedAll_depth ds]
theorem fixedAll_depth : ∀ ds : List PyData, PyData.depthAll (fixedAll ds) = PyData.depthAll ds
  | [] => by simp only [fixedAll]
  | d :: ds => by simp only [fixedAll, PyData.depthAll, fixed_depth d, fixedAll_depth ds]
end
mutual
theorem fixed_idem : ∀ d : PyData, fixedD (fixedD d) = fixedD d
  | .none => by simp only [fixedD]
  | .bool _ => by simp only [fixedD]
  | .int _ => by simp only [fixedD]
  | .str _ => by simp only [fixedD]
  | .dict _ => by simp only [fixedD]
  | .list ds => by simp only [fixedD, fixedAll_idem ds]
  | .tuple ds => by simp only [fixedD, fixedAll_idem ds]
theorem fixedAll_idem : ∀ ds : List PyData, fixedAll (fixedAll ds) = fixedAll ds
  | [] => by simp only [fixedAll]
  | d :: ds => by simp only [fixedAll, fixed_idem d, fixedAll_idem ds]
end
/-! ### repr as a value -/
theorem ev_repr {K : PySem.W.Frag} {σ : L2.St} {H : Hp} {te : TE} {v : V} {d : PyData} {F : Hp} {n : Nat} (h : Evl.Ev te σ H v) (r : Rp K F v d) (ex : Ex F H) (sm : SmOk K) (hd : drD d = true) (hn : d.depth ≤ n) (h60 : n ≤ 8) :
    Evl.Ev (tCB (rReprD K) (tCons te tNil)) σ H (.str d.shown) := fun H1 e Q q =>
  h H1 e _ fun H2 e2 => ⟨v, d, rfl, r.mono (ex.trans (e.trans e2)), sm, drD.showable hd, by omega, by
    have h1 := shown_len d n hd hn
    have h2 := lenD_mono h60
    have h3 : lenD 8 ≤ 16777216 := by decide
    rw [sizeLine_eq]
    omega, q H2 e2⟩
end Cw

set_option Elab.async false
set_option linter.all false
set_option maxRecDepth 100000
set_option maxHeartbeats 4000000
/-! Cl6: readings for the law's body: exceptions made, comprehensions that leave nothing. -/
namespace Cw
open PySem PySem.Spec PyProof.Rows L2
section
variable {K : PySem.W.Frag} {σ : L2.St} {H : Hp} {Q : VK} {C : Addr}
theorem mkv1 {f : Str} {i : Nat} {v : V} (hv : σ[i]? = some (some v)) (k : ∀ a H', Ex H H' → H a = none → ExV H' a C [(f, v)] → Q (.ref a) H') : tMkV C (spX1 C f) (tCons (tVar i) tNil) σ H Q :=
  ⟨v, hv, by show 1 ≤ 1000; decide, spX1_made fun a H' e n x => k a H' e n x⟩
theorem mkv2 {f g : Str} {te1 te2 : TE} {v u : V} (h : ∀ R : List V → Hp → Prop, R [v, u] H → tCons te1 (tCons te2 tNil) σ H R) (k : ∀ a H', Ex H H' → H a = none → ExV H' a C [(g, u), (f, v)] → Q (.ref a) H') : tMkV C (spX2 C f g) (tCons te1 (tCons te2 tNil)) σ H Q :=
  h _ ⟨by show 2 ≤ 1000; decide, spX2_made fun a H' e n x => k a H' e n x⟩
end
section
variable {J : It} {n : Nat} {G : Hp → Prop} {Y : Nat → Hp → V → Hp → Prop} {g : TG} {tt : TT} {te : TE} {vs : List Nat} {σ : L2.St} {H1 : Hp} {D : Addr} {Qd : Hp → Prop}
/-- [e for x in .. if t], t never true: nothing is left -/
theorem lc_none (hD : H1 D = none) (w : Walk J n G Y) (hG : ∀ H, Ex H1 H → G H)
    (turn : ∀ (i : Nat) (x : V) (H H' : Hp), i < n → Ex H1 H → Y i H x H' → g x (wipe σ vs) H' fun σ2 H2 => wipe σ2 vs = wipe σ vs ∧ ∃ H0, Ex H H0 ∧ H2 = H0 ∧ Evl.EvT tt σ2 H2 false)
    (k : ∀ H, H D = some (.lst []) → Ex H1 H → Qd H)
    (gm : ∀ x σ H (A B : L2.St → Hp → Prop), (∀ s h, A s h → B s h) → g x σ H A → g x σ H B) :
    ∃ W : Nat → Nat → Hp → Prop, (∃ m, W 0 m (upd H1 D (.lst []))) ∧ ∀ i m H, W i m H →
      (J.stop i H ∧ Qd H) ∨ (J.go i H ∧ ∃ Nx : Hp → Prop, (∀ H', Nx H' → ∃ m', m' < m ∧ W (i + 1) m' H') ∧ ∀ x H', J.yld i H x H' → g x (wipe σ vs) H' fun σ2 H2 => wipe σ2 vs = wipe σ vs ∧ tt σ2 H2 fun b H3 =>
        if b = true then te σ2 H3 fun y H4 => ∃ acc, H4 D = some (.lst acc) ∧ acc.length < sizeLine ∧ Nx (upd H4 D (.lst (acc ++ [y]))) else Nx H3) := by
  refine lc_it w (fun _ H => H D = some (.lst []) ∧ Ex H1 H) ⟨upd_same, Evl.Ex.new hD⟩ (fun i H _ p => hG H p.2) (fun i x H H' hi p y => ?_) fun H p => k H p.1 p.2
  refine gm _ _ _ _ _ (fun s h q => ?_) (turn i x H H' hi p.2 y)
  obtain ⟨q1, H0, e0, rfl, q2⟩ := q
  refine ⟨q1, q2 h (Evl.Ex.refl _) _ fun H3 e3 => ?_⟩
  exact ⟨e3 _ _ (e0 _ _ p.1), p.2.trans (e0.trans e3)⟩
theorem gName_mono {i : Nat} : ∀ x σ H (A B : L2.St → Hp → Prop), (∀ s h, A s h → B s h) → gName i x σ H A → gName i x σ H B := fun _ _ _ _ _ h q => h _ _ q
end
section
variable {K : PySem.W.Frag} {σ : L2.St} {H : Hp}
theorem ev_ofld {te : TE} {a C : Addr} {fs : List (Str × V)} {f : Str} {v : V} (h : Evl.Ev te σ H (.ref a)) (x : ExV H a C fs) (T : XfC K C) (no : PySem.W.findIn K (.ref C) f = some none) (l : fs.lookup f = some v) : Evl.Ev (tOfld K f te) σ H v := fun H1 e Q q =>
  h H1 e _ fun H2 e2 => ⟨a, C, fs, v, rfl, x.mono (e.trans e2), T, no, l, q H2 e2⟩
theorem ev_isX {te : TE} {a C : Addr} {fs : List (Str × V)} {c : V} {u : Value} {b : Bool} (h : Evl.Ev te σ H (.ref a)) (x : ExV H a C fs) (T : ExcC K C) (k : ClsV c u) (e : PySem.W.kitOne K (.ref C) u = some b) : Evl.Ev (tCB (rIsX K) (tCons te (tCons (tC c) tNil))) σ H (.bl b) := fun H1 e1 Q q =>
  h H1 e1 _ fun H2 e2 => ⟨a, C, fs, c, u, b, rfl, x.mono (e1.trans e2), T, k, e, q H2 e2⟩
end
end Cw

set_option Elab.async false
set_option linter.all false
set_option maxRecDepth 100000
set_option maxHeartbeats 4000000
/-! Cl7: repr of a list of drawn data; a comprehension whose items are new lists. -/
namespace Cw
open PySem PySem.Spec PyProof.Rows L2
theorem shownL_len {ds : List PyData} {n : Nat} (h : drAll ds = true) (hl : ds.length ≤ 14) (hd : PyData.depthAll ds ≤ n) (h6 : n ≤ 7) : (PyData.shown (.list ds)).length ≤ sizeLine := by
  obtain ⟨h1, h2⟩ := shownAll_len ds n h hd
  have h3 := listText_len_le (PyData.shownAll ds)
  have h4 := lenD_mono h6
  have h5 : lenD 7 = 1059495 := by decide
  have h7 : ds.length * lenD n ≤ 14 * lenD n := Nat.mul_le_mul_right _ hl
  simp only [PyData.shown]
  rw [sizeLine_eq]
  omega
section
variable {K : PySem.W.Frag} {σ : L2.St} {H F : Hp} {te : TE}
theorem r_reprL {q : Addr} {xs : List V} {ds : List PyData} {n : Nat} {Q : VK} (h : SqL K H q xs) (r : RpA K H xs ds) (sm : SmOk K) (hd : drAll ds = true) (hl : ds.length ≤ 14) (hn : PyData.depthAll ds ≤ n) (h6 : n ≤ 7) (k : Q (.str (PyData.shown (.list ds))) H) : rReprD K [.ref q] H Q :=
  ⟨_, _, rfl, .lst h r, sm, by simp only [PyData.showable]; exact drAll.showable hd, by simp only [PyData.depth]; omega, shownL_len hd hl hn h6, k⟩
theorem ev_reprL {xs : List V} {ds : List PyData} {n : Nat} (h : Evl.EvL te σ H xs) (r : RpA K F xs ds) (ex : Ex F H) (sm : SmOk K) (hd : drAll ds = true) (hl : ds.length ≤ 14) (hn : PyData.depthAll ds ≤ n) (h6 : n ≤ 7) :
    Evl.Ev (tCB (rReprD K) (tCons te tNil)) σ H (.str (PyData.shown (.list ds))) := fun H1 e Q q =>
  h H1 e _ fun p H2 _ e2 h2 => r_reprL (Evl.sq_of h2) (r.mono (ex.trans (e.trans e2))) sm hd hl hn h6 (q H2 e2)
end
section
variable {K : PySem.W.Frag} {σ : L2.St} {H : Hp} {te tl : TE}
def Rw (H1 : Hp) (row : Nat → List V) (D : Addr) (i : Nat) (H' : Hp) : Prop := H1 D = none ∧ Ex H1 H' ∧ ∃ ps, H' D = some (.lst ps) ∧ ps.length = i ∧ ∀ j, j < i → ∃ b, ps[j]? = some (.ref b) ∧ b ≠ D ∧ H' b = some (.lst (row j))
theorem lc_rows {a : Addr} {xs : List V} {j : Nat} {vs : List Nat} {Q : VK} (row : Nat → List V) (h : Evl.Ev tl σ H (.ref a)) (hx : SqL K H a xs) (hz : xs.length ≤ 40000) (hw : ∀ x, wipe ((wipe σ vs).set j (some x)) vs = wipe σ vs)
    (he : ∀ (i : Nat) (x : V) H1, Ex H H1 → xs[i]? = some x → Evl.EvL te ((wipe σ vs).set j (some x)) H1 (row i))
    (k : ∀ p H2, H p = none → Ex H H2 → (∃ ps, H2 p = some (.lst ps) ∧ ps.length = xs.length ∧ ∀ i, i < xs.length → ∃ b, ps[i]? = some (.ref b) ∧ H2 b = some (.lst (row i))) → Q (.ref p) H2) :
    tLc (iList K tl) (gName j) tYes te vs σ H Q :=
  h H (Evl.Ex.refl _) _ fun H1 e1 => ⟨a, rfl, ⟨xs, Evl.ex_l e1 hx⟩, fun D hD =>
    lc_list (xs := xs) (Rw H1 row D) ⟨hD, Evl.Ex.new hD, [], upd_same, rfl, fun _ h => absurd h (Nat.not_lt_zero _)⟩ (fun i H' _ p => Evl.ex_l (e1.trans p.2.1) hx) (fun i x H' hi p => ⟨hw x, by
      obtain ⟨q1, q2, ps, q3, q4, q5⟩ := p
      have hi' := (List.getElem?_eq_some_iff.mp hi).1
      show te _ H' fun y H4 => ∃ acc, H4 D = some (.lst acc) ∧ acc.length < sizeLine ∧ Rw H1 row D (i + 1) (upd H4 D (.lst (acc ++ [y])))
      refine he i x H1 e1 hi H' q2 _ fun b H4 hb e4 h4 => ?_
      have hbD : b ≠ D := fun z => by rw [z, q3] at hb; cases hb
      refine ⟨ps, e4 _ _ q3, by rw [sizeLine_eq]; omega, q1, Evl.Ex.mut (q2.trans e4) q1, _, upd_same, by rw [List.length_append, q4]; rfl, fun j hj => ?_⟩
      by_cases hji : j < i
      · obtain ⟨c, c1, c2, c3⟩ := q5 j hji
        exact ⟨c, by rw [List.getElem?_append_left (by omega)]; exact c1, c2, by rw [upd_ne c2]; exact e4 _ _ c3⟩
      · obtain rfl : j = i := by omega
        exact ⟨b, by rw [List.getElem?_append_right (by omega), q4, Nat.sub_self]; rfl, hbD, by rw [upd_ne hbD]; exact h4⟩⟩)
    (fun H' p => by
      obtain ⟨q1, q2, ps, q3, q4, q5⟩ := p
      exact k D H' (Evl.fresh_back e1 q1) (e1.trans q2) ⟨ps, q3, q4, fun i hi => let ⟨b, b1, _, b3⟩ := q5 i hi; ⟨b, b1, b3⟩⟩)⟩
end
section
variable {K : PySem.W.Frag} {σ : L2.St} {H : Hp}
theorem kitAny3 {t c1 c2 c3 : Value} (h1 : PySem.W.kitOne K t c1 = some false) (h2 : PySem.W.kitOne K t c2 = some false) (h3 : PySem.W.kitOne K t c3 = some false) : PySem.W.kitAny K t [c1, c2, c3] = some false := by
  simp only [PySem.W.kitAny, h1, h2, h3]
theorem ev_isXT3 {te : TE} {a C C1 C2 C3 : Addr} {fs : List (Str × V)} (h : Evl.Ev te σ H (.ref a)) (x : ExV H a C fs) (T : ExcC K C) (h1 : PySem.W.kitOne K (.ref C) (.ref C1) = some false) (h2 : PySem.W.kitOne K (.ref C) (.ref C2) = some false) (h3 : PySem.W.kitOne K (.ref C) (.ref C3) = some false) :
    Evl.Ev (tCB (rIsXT K) (tCons te (tCons (tTup (tCons (tC (.ref C1)) (tCons (tC (.ref C2)) (tCons (tC (.ref C3)) tNil)))) tNil))) σ H (.bl false) := fun H1 e1 Q q =>
  h H1 e1 _ fun H2 e2 => ⟨by show 3 ≤ sizeLine; decide, fun tp htp => ⟨a, C, tp, fs, [.ref C1, .ref C2, .ref C3], [.ref C1, .ref C2, .ref C3], false, rfl, x.mono (e1.trans (e2.trans (Evl.Ex.new htp))), T, upd_same, .cons (.own _) (.cons (.own _) (.cons (.own _) .nil)), kitAny3 h1 h2 h3, q _ (e2.trans (Evl.Ex.new htp))⟩⟩
/-- [1] * n + [0] -/
theorem el_rc {i j k : Int} {n : Nat} (hk : k = n) (hn : n ≤ 1000) : Evl.EvL (tOp rCat (tOp rRep (tLst (tCons (tC (.int i)) tNil)) (tC (.int k))) (tLst (tCons (tC (.int j)) tNil))) σ H ((List.replicate n [V.int i]).flatten ++ [.int j]) := fun H1 e1 Q q => by
  subst hk
  refine ⟨by show 1 ≤ sizeLine; decide, fun p1 h1 => ⟨p1, n, [.int i], rfl, rfl, upd_same, by omega, by omega, by rw [sizeLine_eq]; simp only [List.length_cons, List.length_nil, Int.toNat_natCast]; omega, fun p2 h2 => ⟨by show 1 ≤ sizeLine; decide, fun p3 h3 => ⟨p2, p3, _, _, rfl, rfl, (Evl.Ex.new h3) _ _ upd_same, upd_same, ?_, fun p4 h4 => ?_⟩⟩⟩⟩
  · rw [sizeLine_eq, Int.toNat_natCast, List.length_flatten]
    simp only [List.map_replicate, List.sum_replicate_nat, List.length_cons, List.length_nil]
    omega
  · rw [Int.toNat_natCast] at h3 h4 ⊢
    have ee := (Evl.Ex.new (o := .lst [V.int i]) h1).trans ((Evl.Ex.new (o := .lst (List.replicate n [V.int i]).flatten) h2).trans ((Evl.Ex.new (o := .lst [V.int j]) h3)))
    exact q p4 _ (Evl.fresh_back ee h4) (ee.trans (Evl.Ex.new h4)) upd_same
theorem ev_cnt {te : TE} {p : Addr} {bs : List Bool} {k : Bool} (h : Evl.Ev te σ H (.ref p)) (hs : SqL K H p (bs.map V.bl)) : Evl.Ev (tBM K "list" (rCntB K) te (tCons (tC (.bl k)) tNil)) σ H (.int (bs.count k : Nat)) := fun H1 e1 Q q =>
  h H1 e1 _ fun H2 e2 => ⟨Or.inl ⟨rfl, _, Evl.ex_l (e1.trans e2) hs⟩, p, bs, k, rfl, rfl, Evl.ex_l (e1.trans e2) hs, q _ e2⟩
end
end Cw

set_option Elab.async false
set_option linter.all false
set_option maxRecDepth 100000
set_option maxHeartbeats 0
/-! The text of the row by places, its defs as data, the facts that the walk leans on, the head's run. Printed by a program of my own. -/
namespace K00
open PySem PySem.Spec PyProof.Rows L2 Cw
def top (i : Nat) : Stmt := PySem.Challenge.pw_leastcrowd_k00_errors_and_papers.main.body.getD i (.Pass ⟨0, 0, 0, 0⟩)
abbrev s_is_listed : Stmt := top 1
abbrev s_fixed : Stmt := top 3
abbrev s_is_like : Stmt := top 4
abbrev s_Paper___init__ : Stmt := inClass (top 5) 0
abbrev s_Paper___bool__ : Stmt := inClass (top 5) 1
abbrev s_Paper___eq__ : Stmt := inClass (top 5) 2
abbrev s_Denial___bool__ : Stmt := inClass (top 6) 0
abbrev s_BadBook___init__ : Stmt := inClass (top 9) 0
abbrev s_BadQuestion___init__ : Stmt := inClass (top 10) 0
abbrev s_BadFile___init__ : Stmt := inClass (top 11) 0
abbrev s_BadValue___init__ : Stmt := inClass (top 12) 0
abbrev s_BadNumber___init__ : Stmt := inClass (top 13) 0
abbrev s_BadPaper___init__ : Stmt := inClass (top 14) 0
abbrev s_Misfit___init__ : Stmt := inClass (top 15) 0
abbrev s_Nothing___init__ : Stmt := inClass (top 16) 0
abbrev s_NoName___init__ : Stmt := inClass (top 17) 0
abbrev s_BadText___init__ : Stmt := inClass (top 18) 0
abbrev s_BadLine___init__ : Stmt := inClass (top 19) 0
abbrev s_TooMany___init__ : Stmt := inClass (top 20) 0
abbrev s_Masks___init__ : Stmt := inClass (top 22) 0
abbrev s_Stairs___init__ : Stmt := inClass (top 24) 0
abbrev s__law_pen : Stmt := top 26
abbrev s__law_draw : Stmt := top 27
abbrev s__law_pick : Stmt := top 28
abbrev s__law_any_value : Stmt := top 29
abbrev s__law_as_told : Stmt := top 30
abbrev s_law : Stmt := top 31
def d_is_listed : He.DefD := ⟨("is_listed", none), "is_listed", "is_listed", defArgs s_is_listed, defBody s_is_listed, defScope s_is_listed, [], []⟩
def d_fixed : He.DefD := ⟨("fixed", none), "fixed", "fixed", defArgs s_fixed, defBody s_fixed, defScope s_fixed, [], []⟩
def d_is_like : He.DefD := ⟨("is_like", none), "is_like", "is_like", defArgs s_is_like, defBody s_is_like, defScope s_is_like, [], []⟩
def d_Paper___init__ : He.DefD := ⟨("Paper", some "__init__"), "__init__", "Paper.__init__", defArgs s_Paper___init__, defBody s_Paper___init__, defScope s_Paper___init__, [], []⟩
def d_Paper___bool__ : He.DefD := ⟨("Paper", some "__bool__"), "__bool__", "Paper.__bool__", defArgs s_Paper___bool__, defBody s_Paper___bool__, defScope s_Paper___bool__, [], []⟩
def d_Paper___eq__ : He.DefD := ⟨("Paper", some "__eq__"), "__eq__", "Paper.__eq__", defArgs s_Paper___eq__, defBody s_Paper___eq__, defScope s_Paper___eq__, [], []⟩
def d_Denial___bool__ : He.DefD := ⟨("Denial", some "__bool__"), "__bool__", "Denial.__bool__", defArgs s_Denial___bool__, defBody s_Denial___bool__, defScope s_Denial___bool__, [], []⟩
def d__law_pen : He.DefD := ⟨("_law_pen", none), "_law_pen", "_law_pen", defArgs s__law_pen, defBody s__law_pen, defScope s__law_pen, [], []⟩
def d__law_draw : He.DefD := ⟨("_law_draw", none), "_law_draw", "_law_draw", defArgs s__law_draw, defBody s__law_draw, defScope s__law_draw, [], []⟩
def d__law_pick : He.DefD := ⟨("_law_pick", none), "_law_pick", "_law_pick", defArgs s__law_pick, defBody s__law_pick, defScope s__law_pick, [], []⟩
def d__law_any_value : He.DefD := ⟨("_law_any_value", none), "_law_any_value", "_law_any_value", defArgs s__law_any_value, defBody s__law_any_value, defScope s__law_any_value, [], []⟩
def d__law_as_told : He.DefD := ⟨("_law_as_told", none), "_law_as_told", "_law_as_told", defArgs s__law_as_told, defBody s__law_as_told, defScope s__law_as_told, [], []⟩
def d_law : He.DefD := ⟨("law", none), "law", "law", defArgs s_law, defBody s_law, defScope s_law, [], []⟩
def ds_BadBook___init__ : SDef := ⟨"BadBook", "__init__", s_BadBook___init__, "/claim/cut.py"⟩
def ds_BadQuestion___init__ : SDef := ⟨"BadQuestion", "__init__", s_BadQuestion___init__, "/claim/cut.py"⟩
def ds_BadFile___init__ : SDef := ⟨"BadFile", "__init__", s_BadFile___init__, "/claim/cut.py"⟩
def ds_BadValue___init__ : SDef := ⟨"BadValue", "__init__", s_BadValue___init__, "/claim/cut.py"⟩
def ds_BadNumber___init__ : SDef := ⟨"BadNumber", "__init__", s_BadNumber___init__, "/claim/cut.py"⟩
def ds_BadPaper___init__ : SDef := ⟨"BadPaper", "__init__", s_BadPaper___init__, "/claim/cut.py"⟩
def ds_Misfit___init__ : SDef := ⟨"Misfit", "__init__", s_Misfit___init__, "/claim/cut.py"⟩
def ds_Nothing___init__ : SDef := ⟨"Nothing", "__init__", s_Nothing___init__, "/claim/cut.py"⟩
def ds_NoName___init__ : SDef := ⟨"NoName", "__init__", s_NoName___init__, "/claim/cut.py"⟩
def ds_BadText___init__ : SDef := ⟨"BadText", "__init__", s_BadText___init__, "/claim/cut.py"⟩
def ds_BadLine___init__ : SDef := ⟨"BadLine", "__init__", s_BadLine___init__, "/claim/cut.py"⟩
def ds_TooMany___init__ : SDef := ⟨"TooMany", "__init__", s_TooMany___init__, "/claim/cut.py"⟩
def ds_Masks___init__ : SDef := ⟨"Masks", "__init__", s_Masks___init__, "/claim/cut.py"⟩
def ds_Stairs___init__ : SDef := ⟨"Stairs", "__init__", s_Stairs___init__, "/claim/cut.py"⟩
def sups : List SDef := [ds_BadBook___init__, ds_BadQuestion___init__, ds_BadFile___init__, ds_BadValue___init__, ds_BadNumber___init__, ds_BadPaper___init__, ds_Misfit___init__, ds_Nothing___init__, ds_NoName___init__, ds_BadText___init__, ds_BadLine___init__, ds_TooMany___init__, ds_Masks___init__, ds_Stairs___init__]
def excs : List Str := ["BadBook", "BadQuestion", "BadFile", "BadValue", "BadNumber", "BadPaper", "Misfit", "Nothing", "NoName", "BadText", "BadLine", "TooMany"]
def kt (x y : Str) (b : Bool) : Str × Str × Bool := (x, y, b)
def kits : List (Str × Str × Bool) := [kt "BadBook" "BadBook" true, kt "BadBook" "BadQuestion" false, kt "BadBook" "BadFile" false, kt "BadBook" "BadValue" false, kt "BadBook" "BadNumber" false, kt "BadBook" "BadPaper" false, kt "BadQuestion" "BadBook" false, kt "BadQuestion" "BadQuestion" true, kt "BadQuestion" "BadFile" false, kt "BadQuestion" "BadValue" false, kt "BadQuestion" "BadNumber" false, kt "BadQuestion" "BadPaper" false, kt "BadFile" "BadBook" false, kt "BadFile" "BadQuestion" false, kt "BadFile" "BadFile" true, kt "BadFile" "BadValue" false, kt "BadFile" "BadNumber" false, kt "BadFile" "BadPaper" false, kt "BadValue" "BadBook" false, kt "BadValue" "BadQuestion" false, kt "BadValue" "BadFile" false, kt "BadValue" "BadValue" true, kt "BadValue" "BadNumber" false, kt "BadValue" "BadPaper" false, kt "BadNumber" "BadBook" false, kt "BadNumber" "BadQuestion" false, kt "BadNumber" "BadFile" false, kt "BadNumber" "BadValue" false, kt "BadNumber" "BadNumber" true, kt "BadNumber" "BadPaper" false, kt "BadPaper" "BadBook" false, kt "BadPaper" "BadQuestion" false, kt "BadPaper" "BadFile" false, kt "BadPaper" "BadValue" false, kt "BadPaper" "BadNumber" false, kt "BadPaper" "BadPaper" true, kt "Misfit" "BadBook" false, kt "Misfit" "BadQuestion" false, kt "Misfit" "BadFile" false, kt "Misfit" "BadValue" false, kt "Misfit" "BadNumber" false, kt "Misfit" "BadPaper" false, kt "BadBook" "CrowdError" true, kt "BadQuestion" "CrowdError" true, kt "BadFile" "CrowdError" true, kt "BadValue" "CrowdError" true, kt "BadNumber" "CrowdError" true, kt "BadPaper" "CrowdError" true, kt "Misfit" "CrowdError" true, kt "Nothing" "CrowdError" true, kt "NoName" "CrowdError" true, kt "BadText" "CrowdError" true, kt "BadLine" "CrowdError" true, kt "TooMany" "CrowdError" true, kt "Nothing" "BadBook" false, kt "Nothing" "BadValue" false, kt "Nothing" "Misfit" false, kt "NoName" "BadBook" false, kt "NoName" "BadValue" false, kt "NoName" "Misfit" false, kt "BadText" "BadBook" false, kt "BadText" "BadValue" false, kt "BadText" "Misfit" false, kt "BadLine" "BadBook" false, kt "BadLine" "BadValue" false, kt "BadLine" "Misfit" false, kt "TooMany" "BadBook" false, kt "TooMany" "BadValue" false, kt "TooMany" "Misfit" false, kt "Paper" "Paper" true, kt "Denial" "Paper" true, kt "Masks" "Paper" true, kt "Stairs" "Paper" true]
def fn : List He.DefD := [d_is_listed, d_fixed, d_is_like, d_Paper___init__, d_Paper___bool__, d_Paper___eq__, d_Denial___bool__, d__law_pen, d__law_draw, d__law_pick, d__law_any_value, d__law_as_told, d_law]
def fa : List He.Fa := [.free "isinstance", .free "list", .free "tuple", .free "bool", .free "dict", .free "all", .free "int", .free "len", .free "zip", .free "ValueError", .free "super", .free "abs", .free "range", .free "repr", .glo "is_listed", .glo "fixed", .glo "is_like", .glo "Paper", .glo "Denial", .glo "CrowdError", .glo "BadBook", .glo "BadQuestion", .glo "BadFile", .glo "BadValue", .glo "BadNumber", .glo "BadPaper", .glo "Misfit", .glo "Nothing", .glo "NoName", .glo "BadText", .glo "BadLine", .glo "TooMany", .glo "Masks", .glo "Stairs", .glo "_law_pen", .glo "_law_draw", .glo "_law_pick", .glo "_law_any_value", .glo "_law_as_told", .glo "law", .cls "Paper", .keep "Paper", .cls "Denial", .keep "Denial", .cls "Masks", .keep "Masks", .cls "Stairs", .keep "Stairs", .mkr "Paper", .mkr "Denial", .mkr "Masks", .mkr "Stairs", .noat "Paper" "word", .noat "Paper" "parts", .noat "Denial" "word", .noat "Denial" "parts", .noat "Masks" "word", .noat "Masks" "parts", .noat "Stairs" "word", .noat "Stairs" "parts", .noat "Masks" "safe", .noat "Masks" "unsafe", .noat "Stairs" "rows", .meth "Paper" "__bool__", .meth "Denial" "__bool__", .meth "Paper" "__eq__", .meth "Denial" "__eq__", .meth "Masks" "__eq__", .noat "BadBook" "part", .noat "BadQuestion" "part", .noat "BadFile" "part", .noat "BadValue" "part", .noat "BadNumber" "part", .noat "BadPaper" "part", .noat "Misfit" "part", .noat "Nothing" "word", .noat "NoName" "name", .noat "BadText" "line", .noat "BadText" "word", .noat "BadLine" "word", .noat "TooMany" "what", .noat "TooMany" "most"]
def paps : List Str := ["Paper", "Denial", "Masks", "Stairs"]
def subsK : List (Str × Str × Bool) := [kt "Paper" "Denial" false, kt "Paper" "Masks" false, kt "Paper" "Stairs" false, kt "Denial" "Paper" true, kt "Denial" "Masks" false, kt "Denial" "Stairs" false, kt "Masks" "Paper" true, kt "Masks" "Denial" false, kt "Masks" "Stairs" false, kt "Stairs" "Paper" true, kt "Stairs" "Denial" false, kt "Stairs" "Masks" false]
def ini2 (x y : Str) : Str × Str := (x, y)
def inits : List (Str × Str) := [ini2 "Denial" "Paper"]
def supis : List Str := ["Masks", "Stairs"]
def more2 (K : PySem.W.Frag) : Bool := paps.all (fun x => papB K (He.ma K (He.ga K "Paper") "__eq__") x) && (subsK.all (fun q => decide (PySem.W.subIn K (.ref (He.ga K q.1)) (.ref (He.ga K q.2.1)) = some q.2.2)) && (paps.all (fun x => decide (PySem.W.kitOne K (.type "tuple") (.ref (He.ga K x)) = some false) && decide (PySem.W.subIn K (.type "tuple") (.ref (He.ga K x)) = some false)) && (supis.all (fun x => supiB K (He.ma K (He.ga K "Paper") "__init__") x) && inits.all (fun q => decide (PySem.W.findIn K (.ref (He.ga K q.1)) "__init__" = some (some (.ref (He.ma K (He.ga K q.2) "__init__"))))))))
/-- more that is looked at (Bool checks of my own) -/
def more (K : PySem.W.Frag) : Bool := (match K.lookup sysModules with
  | some o => o.cls == Value.type "dict"
  | none => false) && (decide (PySem.W.nsIn K cStatics "thirdparty.any" = some none) && (excs.all (fun x => excB K x) && (kits.all (fun q => decide (PySem.W.kitOne K (.ref (He.ga K q.1)) (.ref (He.ga K q.2.1)) = some q.2.2)) && (excs.all (fun x => decide (PySem.W.kitOne K (.ref (He.ga K x)) (.type "ValueError") = some true)) && more2 K))))
abbrev AlX : Type := Bool × List He.FnW × List FnS
def obsX (K : PySem.W.Frag) : AlX := (more K && ((fa.all fun f => f.ok K) && ((fn.all fun d => d.ok K) && sups.all fun d => d.ok K)), fn.map (fun d => He.fnW K d.at_), sups.map fun d => fnS K d.at_)
def valX : AlX := (true, fn.map He.DefD.val, sups.map SDef.val)
def SaysX (K : PySem.W.Frag) : Prop := obsX K = valX
def obsXG (g : Addr → Option Obj) : AlX := obsX (He.frG g (sysModules :: cStatics :: He.asD g 5))
def hookX : PySem.W.Hook where
  α := AlX
  obs := fun s => obsXG s.heap.get?
  val := fun _ => valX
  says := fun _ h => ∃ K : PySem.W.Frag, K.In h ∧ SaysX K
  of := fun _ _ e => ⟨_, He.frG_in, e⟩
  keeps := fun _ _ _ ⟨K, hK, c⟩ k => ⟨K, PySem.W.Frag.In.keeps hK k, c⟩
theorem obsXG_eq {g : Addr → Option Obj} {s : Shared} (h : ∀ a, g a = s.heap.get? a) : obsXG g = hookX.obs s := by
  have e : g = s.heap.get? := funext h
  rw [e] <;> rfl
section
variable {K : PySem.W.Frag}
theorem SaysX.parts (c : SaysX K) : more K = true ∧ (∀ f ∈ fa, f.ok K = true) ∧ (∀ d ∈ fn, d.ok K = true) ∧ ∀ d ∈ sups, d.ok K = true := by
  have e : (more K && ((fa.all fun f => f.ok K) && ((fn.all fun d => d.ok K) && sups.all fun d => d.ok K))) = true := congrArg (fun z : AlX => z.1) c
  obtain ⟨c0, c1⟩ := He.ba e
  obtain ⟨c1, c2⟩ := He.ba c1
  obtain ⟨c2, c3⟩ := He.ba c2
  exact ⟨c0, fun f hf => List.all_eq_true.mp c1 f hf, fun d hd => List.all_eq_true.mp c2 d hd, fun d hd => List.all_eq_true.mp c3 d hd⟩
theorem SaysX.fact (c : SaysX K) (i : Nat) {f : He.Fa} (h : fa[i]? = some f := by rfl) : f.ok K = true := c.parts.2.1 f (List.mem_of_getElem? h)
theorem SaysX.more5 (c : SaysX K) : ∃ m1 m2 : Bool, (m1 && (decide (PySem.W.nsIn K cStatics "thirdparty.any" = some none) && (excs.all (fun x => excB K x) && (kits.all (fun q => decide (PySem.W.kitOne K (.ref (He.ga K q.1)) (.ref (He.ga K q.2.1)) = some q.2.2)) && (excs.all (fun x => decide (PySem.W.kitOne K (.ref (He.ga K x)) (.type "ValueError") = some true)) && m2))))) = true := ⟨_, _, c.parts.1⟩
theorem SaysX.m2 (c : SaysX K) : more2 K = true := (He.ba (He.ba (He.ba (He.ba (He.ba (show (_ && (_ && (_ && (_ && (_ && more2 K))))) = true from c.parts.1)).2).2).2).2).2
theorem SaysX.pap (c : SaysX K) (i : Nat) {x : Str} (h : paps[i]? = some x := by rfl) : PapF K (He.ga K x) (He.ma K (He.ga K "Paper") "__eq__") x := papB_ok (List.all_eq_true.mp (He.ba c.m2).1 x (List.mem_of_getElem? h))
theorem SaysX.subK (c : SaysX K) (i : Nat) {q : Str × Str × Bool} (h : subsK[i]? = some q := by rfl) : PySem.W.subIn K (.ref (He.ga K q.1)) (.ref (He.ga K q.2.1)) = some q.2.2 := of_decide_eq_true (List.all_eq_true.mp (He.ba (He.ba c.m2).2).1 q (List.mem_of_getElem? h))
theorem SaysX.tupK (c : SaysX K) (i : Nat) {x : Str} (h : paps[i]? = some x := by rfl) : PySem.W.kitOne K (.type "tuple") (.ref (He.ga K x)) = some false ∧ PySem.W.subIn K (.type "tuple") (.ref (He.ga K x)) = some false := by
  obtain ⟨h1, h2⟩ := He.ba (List.all_eq_true.mp (He.ba (He.ba (He.ba c.m2).2).2).1 x (List.mem_of_getElem? h))
  exact ⟨of_decide_eq_true h1, of_decide_eq_true h2⟩
theorem SaysX.supI (c : SaysX K) (i : Nat) {x : Str} (h : supis[i]? = some x := by rfl) : SupI K (He.ga K x) (He.ga K x) (He.ma K (He.ga K "Paper") "__init__") := supiB_ok (List.all_eq_true.mp (He.ba (He.ba (He.ba (He.ba c.m2).2).2).2).1 x (List.mem_of_getElem? h))
theorem SaysX.ini (c : SaysX K) (i : Nat) {q : Str × Str} (h : inits[i]? = some q := by rfl) : PySem.W.findIn K (.ref (He.ga K q.1)) "__init__" = some (some (.ref (He.ma K (He.ga K q.2) "__init__"))) := of_decide_eq_true (List.all_eq_true.mp (He.ba (He.ba (He.ba (He.ba c.m2).2).2).2).2 q (List.mem_of_getElem? h))
theorem SaysX.opq (c : SaysX K) : PySem.W.nsIn K cStatics "thirdparty.any" = some none := by
  obtain ⟨m1, m2, h⟩ := c.more5
  exact of_decide_eq_true (He.ba (He.ba h).2).1
theorem SaysX.exc (c : SaysX K) (i : Nat) {x : Str} (h : excs[i]? = some x := by rfl) : ExcF K (He.ga K x) (He.ma K (He.ga K x) "__init__") := by
  obtain ⟨m1, m2, h1⟩ := c.more5
  exact excB_ok (List.all_eq_true.mp (He.ba (He.ba (He.ba h1).2).2).1 x (List.mem_of_getElem? h))
theorem SaysX.kit (c : SaysX K) (i : Nat) {q : Str × Str × Bool} (h : kits[i]? = some q := by rfl) : PySem.W.kitOne K (.ref (He.ga K q.1)) (.ref (He.ga K q.2.1)) = some q.2.2 := by
  obtain ⟨m1, m2, h1⟩ := c.more5
  exact of_decide_eq_true (List.all_eq_true.mp (He.ba (He.ba (He.ba (He.ba h1).2).2).2).1 q (List.mem_of_getElem? h))
theorem SaysX.kitV (c : SaysX K) (i : Nat) {x : Str} (h : excs[i]? = some x := by rfl) : PySem.W.kitOne K (.ref (He.ga K x)) (.type "ValueError") = some true := by
  obtain ⟨m1, m2, h1⟩ := c.more5
  exact of_decide_eq_true (List.all_eq_true.mp (He.ba (He.ba (He.ba (He.ba (He.ba h1).2).2).2).2).1 x (List.mem_of_getElem? h))
/-- the function object at an address -/
def fdAt (K : PySem.W.Frag) (f : Addr) : FuncData := match K.lookup f with
  | some ⟨_, _, .func fd, _⟩ => fd
  | _ => default
theorem funD_at {x qual : Str} {params : Arguments} {body : List Stmt} {scope : Scope} {dvs : List V} {kws : List (Str × V)} {f : Addr} {fd : FuncData} (F : FunD K x qual params body scope dvs kws f fd) : fdAt K f = fd := by
  obtain ⟨⟨oc, od, dV, kV, doc, pm, an, cdv, ct, osl, e, q, _⟩, _⟩ := F
  unfold fdAt
  rw [q]
theorem SaysX.fun_ (c : SaysX K) (i : Nat) {d : He.DefD} (h : fn[i]? = some d := by rfl) : FunD K d.name d.qual d.params d.body d.scope (d.dvs K) (d.kws K) (He.fAd K d.at_) (fdAt K (He.fAd K d.at_)) := by
  have e : fn.map (fun d => He.fnW K d.at_) = fn.map He.DefD.val := congrArg (fun z : AlX => z.2.1) c
  have e2 : (fn.map fun d => He.fnW K d.at_)[i]? = (fn.map He.DefD.val)[i]? := by rw [e]
  rw [List.getElem?_map, List.getElem?_map, h] at e2
  obtain ⟨fd, F⟩ := He.DefD.funD (Option.some.inj e2) (c.parts.2.2.1 d (List.mem_of_getElem? h))
  have e3 := funD_at F
  rw [e3]
  exact F
theorem supD_at {D f : Addr} {name qual file : Str} {params : Arguments} {body : List Stmt} {scope : Scope} {fd : FuncData} (F : SupD K D f name qual params body scope file fd) : fdAt K f = fd := by
  obtain ⟨⟨oc, od, kV, doc, pm, an, c, ct, cc, osl, e, q, _⟩, _⟩ := F
  unfold fdAt
  rw [q]
theorem SaysX.sup_ (c : SaysX K) (i : Nat) {d : SDef} (h : sups[i]? = some d := by rfl) : SupD K (He.ga K d.cls) (He.fAd K d.at_) d.name (d.cls ++ ("." ++ d.name)) (C8.fnArgs d.st) (C8.fnBody d.st) (C8.fnScope d.st) d.file (fdAt K (He.fAd K d.at_)) := by
  have e : sups.map (fun d => fnS K d.at_) = sups.map SDef.val := congrArg (fun z : AlX => z.2.2) c
  have e2 : (sups.map fun d => fnS K d.at_)[i]? = (sups.map SDef.val)[i]? := by rw [e]
  rw [List.getElem?_map, List.getElem?_map, h] at e2
  obtain ⟨fd, F⟩ := SDef.supD (Option.some.inj e2) (c.parts.2.2.2 d (List.mem_of_getElem? h))
  have e3 := supD_at F
  rw [e3]
  exact F
end
/-- what every walk of this text leans on -/
structure Tx (K : PySem.W.Frag) (mg : Str → Option Value) (base : Heap) : Prop where
  kin : K.In base
  glob : base.Ns mainGlobals mg
  says : SaysX K
section
variable {K : PySem.W.Frag} {mg : Str → Option Value} {base : Heap}
theorem Tx.f_isinstance (T : Tx K mg base) : mg "isinstance" = none := He.free_ok T.kin T.glob (T.says.fact 0)
theorem Tx.f_list (T : Tx K mg base) : mg "list" = none := He.free_ok T.kin T.glob (T.says.fact 1)
theorem Tx.f_tuple (T : Tx K mg base) : mg "tuple" = none := He.free_ok T.kin T.glob (T.says.fact 2)
theorem Tx.f_bool (T : Tx K mg base) : mg "bool" = none := He.free_ok T.kin T.glob (T.says.fact 3)
theorem Tx.f_dict (T : Tx K mg base) : mg "dict" = none := He.free_ok T.kin T.glob (T.says.fact 4)
theorem Tx.f_all (T : Tx K mg base) : mg "all" = none := He.free_ok T.kin T.glob (T.says.fact 5)
theorem Tx.f_int (T : Tx K mg base) : mg "int" = none := He.free_ok T.kin T.glob (T.says.fact 6)
theorem Tx.f_len (T : Tx K mg base) : mg "len" = none := He.free_ok T.kin T.glob (T.says.fact 7)
theorem Tx.f_zip (T : Tx K mg base) : mg "zip" = none := He.free_ok T.kin T.glob (T.says.fact 8)
theorem Tx.f_ValueError (T : Tx K mg base) : mg "ValueError" = none := He.free_ok T.kin T.glob (T.says.fact 9)
theorem Tx.f_super (T : Tx K mg base) : mg "super" = none := He.free_ok T.kin T.glob (T.says.fact 10)
theorem Tx.f_abs (T : Tx K mg base) : mg "abs" = none := He.free_ok T.kin T.glob (T.says.fact 11)
theorem Tx.f_range (T : Tx K mg base) : mg "range" = none := He.free_ok T.kin T.glob (T.says.fact 12)
theorem Tx.f_repr (T : Tx K mg base) : mg "repr" = none := He.free_ok T.kin T.glob (T.says.fact 13)
theorem Tx.m_is_listed (T : Tx K mg base) : mg "is_listed" = some (.ref (He.ga K "is_listed")) := He.glo_ok T.kin T.glob (T.says.fact 14)
theorem Tx.m_fixed (T : Tx K mg base) : mg "fixed" = some (.ref (He.ga K "fixed")) := He.glo_ok T.kin T.glob (T.says.fact 15)
theorem Tx.m_is_like (T : Tx K mg base) : mg "is_like" = some (.ref (He.ga K "is_like")) := He.glo_ok T.kin T.glob (T.says.fact 16)
theorem Tx.m_Paper (T : Tx K mg base) : mg "Paper" = some (.ref (He.ga K "Paper")) := He.glo_ok T.kin T.glob (T.says.fact 17)
theorem Tx.m_Denial (T : Tx K mg base) : mg "Denial" = some (.ref (He.ga K "Denial")) := He.glo_ok T.kin T.glob (T.says.fact 18)
theorem Tx.m_CrowdError (T : Tx K mg base) : mg "CrowdError" = some (.ref (He.ga K "CrowdError")) := He.glo_ok T.kin T.glob (T.says.fact 19)
theorem Tx.m_BadBook (T : Tx K mg base) : mg "BadBook" = some (.ref (He.ga K "BadBook")) := He.glo_ok T.kin T.glob (T.says.fact 20)
theorem Tx.m_BadQuestion (T : Tx K mg base) : mg "BadQuestion" = some (.ref (He.ga K "BadQuestion")) := He.glo_ok T.kin T.glob (T.says.fact 21)
theorem Tx.m_BadFile (T : Tx K mg base) : mg "BadFile" = some (.ref (He.ga K "BadFile")) := He.glo_ok T.kin T.glob (T.says.fact 22)
theorem Tx.m_BadValue (T : Tx K mg base) : mg "BadValue" = some (.ref (He.ga K "BadValue")) := He.glo_ok T.kin T.glob (T.says.fact 23)
theorem Tx.m_BadNumber (T : Tx K mg base) : mg "BadNumber" = some (.ref (He.ga K "BadNumber")) := He.glo_ok T.kin T.glob (T.says.fact 24)
theorem Tx.m_BadPaper (T : Tx K mg base) : mg "BadPaper" = some (.ref (He.ga K "BadPaper")) := He.glo_ok T.kin T.glob (T.says.fact 25)
theorem Tx.m_Misfit (T : Tx K mg base) : mg "Misfit" = some (.ref (He.ga K "Misfit")) := He.glo_ok T.kin T.glob (T.says.fact 26)
theorem Tx.m_Nothing (T : Tx K mg base) : mg "Nothing" = some (.ref (He.ga K "Nothing")) := He.glo_ok T.kin T.glob (T.says.fact 27)
theorem Tx.m_NoName (T : Tx K mg base) : mg "NoName" = some (.ref (He.ga K "NoName")) := He.glo_ok T.kin T.glob (T.says.fact 28)
theorem Tx.m_BadText (T : Tx K mg base) : mg "BadText" = some (.ref (He.ga K "BadText")) := He.glo_ok T.kin T.glob (T.says.fact 29)
theorem Tx.m_BadLine (T : Tx K mg base) : mg "BadLine" = some (.ref (He.ga K "BadLine")) := He.glo_ok T.kin T.glob (T.says.fact 30)
theorem Tx.m_TooMany (T : Tx K mg base) : mg "TooMany" = some (.ref (He.ga K "TooMany")) := He.glo_ok T.kin T.glob (T.says.fact 31)
theorem Tx.m_Masks (T : Tx K mg base) : mg "Masks" = some (.ref (He.ga K "Masks")) := He.glo_ok T.kin T.glob (T.says.fact 32)
theorem Tx.m_Stairs (T : Tx K mg base) : mg "Stairs" = some (.ref (He.ga K "Stairs")) := He.glo_ok T.kin T.glob (T.says.fact 33)
theorem Tx.m__law_pen (T : Tx K mg base) : mg "_law_pen" = some (.ref (He.ga K "_law_pen")) := He.glo_ok T.kin T.glob (T.says.fact 34)
theorem Tx.m__law_draw (T : Tx K mg base) : mg "_law_draw" = some (.ref (He.ga K "_law_draw")) := He.glo_ok T.kin T.glob (T.says.fact 35)
theorem Tx.m__law_pick (T : Tx K mg base) : mg "_law_pick" = some (.ref (He.ga K "_law_pick")) := He.glo_ok T.kin T.glob (T.says.fact 36)
theorem Tx.m__law_any_value (T : Tx K mg base) : mg "_law_any_value" = some (.ref (He.ga K "_law_any_value")) := He.glo_ok T.kin T.glob (T.says.fact 37)
theorem Tx.m__law_as_told (T : Tx K mg base) : mg "_law_as_told" = some (.ref (He.ga K "_law_as_told")) := He.glo_ok T.kin T.glob (T.says.fact 38)
theorem Tx.m_law (T : Tx K mg base) : mg "law" = some (.ref (He.ga K "law")) := He.glo_ok T.kin T.glob (T.says.fact 39)
theorem Tx.c_Paper (T : Tx K mg base) : Cls K (He.ga K "Paper") := He.cls_ok (T.says.fact 40)
theorem Tx.kc_Paper (T : Tx K mg base) : PySem.W.keepIn K (.ref (He.ga K "Paper")) = true := He.keep_ok (T.says.fact 41)
theorem Tx.c_Denial (T : Tx K mg base) : Cls K (He.ga K "Denial") := He.cls_ok (T.says.fact 42)
theorem Tx.kc_Denial (T : Tx K mg base) : PySem.W.keepIn K (.ref (He.ga K "Denial")) = true := He.keep_ok (T.says.fact 43)
theorem Tx.c_Masks (T : Tx K mg base) : Cls K (He.ga K "Masks") := He.cls_ok (T.says.fact 44)
theorem Tx.kc_Masks (T : Tx K mg base) : PySem.W.keepIn K (.ref (He.ga K "Masks")) = true := He.keep_ok (T.says.fact 45)
theorem Tx.c_Stairs (T : Tx K mg base) : Cls K (He.ga K "Stairs") := He.cls_ok (T.says.fact 46)
theorem Tx.kc_Stairs (T : Tx K mg base) : PySem.W.keepIn K (.ref (He.ga K "Stairs")) = true := He.keep_ok (T.says.fact 47)
theorem Tx.mk_Paper (T : Tx K mg base) : Mk K (He.ga K "Paper") (He.ma K (He.ga K "Paper") "__init__") := He.mkr_ok (T.says.fact 48)
theorem Tx.mk_Denial (T : Tx K mg base) : Mk K (He.ga K "Denial") (He.ma K (He.ga K "Denial") "__init__") := He.mkr_ok (T.says.fact 49)
theorem Tx.mk_Masks (T : Tx K mg base) : Mk K (He.ga K "Masks") (He.ma K (He.ga K "Masks") "__init__") := He.mkr_ok (T.says.fact 50)
theorem Tx.mk_Stairs (T : Tx K mg base) : Mk K (He.ga K "Stairs") (He.ma K (He.ga K "Stairs") "__init__") := He.mkr_ok (T.says.fact 51)
theorem Tx.n_Paper_word (T : Tx K mg base) : NoAttr K (He.ga K "Paper") "word" := He.noat_ok (T.says.fact 52)
theorem Tx.n_Paper_parts (T : Tx K mg base) : NoAttr K (He.ga K "Paper") "parts" := He.noat_ok (T.says.fact 53)
theorem Tx.n_Denial_word (T : Tx K mg base) : NoAttr K (He.ga K "Denial") "word" := He.noat_ok (T.says.fact 54)
theorem Tx.n_Denial_parts (T : Tx K mg base) : NoAttr K (He.ga K "Denial") "parts" := He.noat_ok (T.says.fact 55)
theorem Tx.n_Masks_word (T : Tx K mg base) : NoAttr K (He.ga K "Masks") "word" := He.noat_ok (T.says.fact 56)
theorem Tx.n_Masks_parts (T : Tx K mg base) : NoAttr K (He.ga K "Masks") "parts" := He.noat_ok (T.says.fact 57)
theorem Tx.n_Stairs_word (T : Tx K mg base) : NoAttr K (He.ga K "Stairs") "word" := He.noat_ok (T.says.fact 58)
theorem Tx.n_Stairs_parts (T : Tx K mg base) : NoAttr K (He.ga K "Stairs") "parts" := He.noat_ok (T.says.fact 59)
theorem Tx.n_Masks_safe (T : Tx K mg base) : NoAttr K (He.ga K "Masks") "safe" := He.noat_ok (T.says.fact 60)
theorem Tx.n_Masks_unsafe (T : Tx K mg base) : NoAttr K (He.ga K "Masks") "unsafe" := He.noat_ok (T.says.fact 61)
theorem Tx.n_Stairs_rows (T : Tx K mg base) : NoAttr K (He.ga K "Stairs") "rows" := He.noat_ok (T.says.fact 62)
theorem Tx.me_Paper___bool__ (T : Tx K mg base) : Meth K (He.ga K "Paper") "__bool__" (He.ma K (He.ga K "Paper") "__bool__") := He.meth_ok (T.says.fact 63)
theorem Tx.me_Denial___bool__ (T : Tx K mg base) : Meth K (He.ga K "Denial") "__bool__" (He.ma K (He.ga K "Denial") "__bool__") := He.meth_ok (T.says.fact 64)
theorem Tx.me_Paper___eq__ (T : Tx K mg base) : Meth K (He.ga K "Paper") "__eq__" (He.ma K (He.ga K "Paper") "__eq__") := He.meth_ok (T.says.fact 65)
theorem Tx.me_Denial___eq__ (T : Tx K mg base) : Meth K (He.ga K "Denial") "__eq__" (He.ma K (He.ga K "Denial") "__eq__") := He.meth_ok (T.says.fact 66)
theorem Tx.me_Masks___eq__ (T : Tx K mg base) : Meth K (He.ga K "Masks") "__eq__" (He.ma K (He.ga K "Masks") "__eq__") := He.meth_ok (T.says.fact 67)
theorem Tx.n_BadBook_part (T : Tx K mg base) : NoAttr K (He.ga K "BadBook") "part" := He.noat_ok (T.says.fact 68)
theorem Tx.n_BadQuestion_part (T : Tx K mg base) : NoAttr K (He.ga K "BadQuestion") "part" := He.noat_ok (T.says.fact 69)
theorem Tx.n_BadFile_part (T : Tx K mg base) : NoAttr K (He.ga K "BadFile") "part" := He.noat_ok (T.says.fact 70)
theorem Tx.n_BadValue_part (T : Tx K mg base) : NoAttr K (He.ga K "BadValue") "part" := He.noat_ok (T.says.fact 71)
theorem Tx.n_BadNumber_part (T : Tx K mg base) : NoAttr K (He.ga K "BadNumber") "part" := He.noat_ok (T.says.fact 72)
theorem Tx.n_BadPaper_part (T : Tx K mg base) : NoAttr K (He.ga K "BadPaper") "part" := He.noat_ok (T.says.fact 73)
theorem Tx.n_Misfit_part (T : Tx K mg base) : NoAttr K (He.ga K "Misfit") "part" := He.noat_ok (T.says.fact 74)
theorem Tx.n_Nothing_word (T : Tx K mg base) : NoAttr K (He.ga K "Nothing") "word" := He.noat_ok (T.says.fact 75)
theorem Tx.n_NoName_name (T : Tx K mg base) : NoAttr K (He.ga K "NoName") "name" := He.noat_ok (T.says.fact 76)
theorem Tx.n_BadText_line (T : Tx K mg base) : NoAttr K (He.ga K "BadText") "line" := He.noat_ok (T.says.fact 77)
theorem Tx.n_BadText_word (T : Tx K mg base) : NoAttr K (He.ga K "BadText") "word" := He.noat_ok (T.says.fact 78)
theorem Tx.n_BadLine_word (T : Tx K mg base) : NoAttr K (He.ga K "BadLine") "word" := He.noat_ok (T.says.fact 79)
theorem Tx.n_TooMany_what (T : Tx K mg base) : NoAttr K (He.ga K "TooMany") "what" := He.noat_ok (T.says.fact 80)
theorem Tx.n_TooMany_most (T : Tx K mg base) : NoAttr K (He.ga K "TooMany") "most" := He.noat_ok (T.says.fact 81)
abbrev a_is_listed (K : PySem.W.Frag) : Addr := He.ga K "is_listed"
theorem Tx.F_is_listed (T : Tx K mg base) : FunD K "is_listed" "is_listed" (defArgs s_is_listed) (defBody s_is_listed) (defScope s_is_listed) [] [] (a_is_listed K) (fdAt K (a_is_listed K)) := T.says.fun_ 0
theorem Tx.k_is_listed (T : Tx K mg base) : PySem.W.keepIn K (.ref (a_is_listed K)) = true := T.F_is_listed.kp
theorem Tx.b_is_listed (T : Tx K mg base) : Binds K (fdAt K (a_is_listed K)) ["value"] [] := T.F_is_listed.bindsN fun _ _ _ _ _ _ us hl => match us, hl with | [_], _ => rfl
abbrev a_fixed (K : PySem.W.Frag) : Addr := He.ga K "fixed"
theorem Tx.F_fixed (T : Tx K mg base) : FunD K "fixed" "fixed" (defArgs s_fixed) (defBody s_fixed) (defScope s_fixed) [] [] (a_fixed K) (fdAt K (a_fixed K)) := T.says.fun_ 1
theorem Tx.k_fixed (T : Tx K mg base) : PySem.W.keepIn K (.ref (a_fixed K)) = true := T.F_fixed.kp
theorem Tx.b_fixed (T : Tx K mg base) : Binds K (fdAt K (a_fixed K)) ["value"] [] := T.F_fixed.bindsN fun _ _ _ _ _ _ us hl => match us, hl with | [_], _ => rfl
abbrev a_is_like (K : PySem.W.Frag) : Addr := He.ga K "is_like"
theorem Tx.F_is_like (T : Tx K mg base) : FunD K "is_like" "is_like" (defArgs s_is_like) (defBody s_is_like) (defScope s_is_like) [] [] (a_is_like K) (fdAt K (a_is_like K)) := T.says.fun_ 2
theorem Tx.k_is_like (T : Tx K mg base) : PySem.W.keepIn K (.ref (a_is_like K)) = true := T.F_is_like.kp
theorem Tx.b_is_like (T : Tx K mg base) : Binds K (fdAt K (a_is_like K)) ["one", "other"] [] := T.F_is_like.bindsN fun _ _ _ _ _ _ us hl => match us, hl with | [_, _], _ => rfl
abbrev a_Paper___init__ (K : PySem.W.Frag) : Addr := He.ma K (He.ga K "Paper") "__init__"
theorem Tx.F_Paper___init__ (T : Tx K mg base) : FunD K "__init__" "Paper.__init__" (defArgs s_Paper___init__) (defBody s_Paper___init__) (defScope s_Paper___init__) [] [] (a_Paper___init__ K) (fdAt K (a_Paper___init__ K)) := T.says.fun_ 3
theorem Tx.k_Paper___init__ (T : Tx K mg base) : PySem.W.keepIn K (.ref (a_Paper___init__ K)) = true := T.F_Paper___init__.kp
abbrev a_Paper___bool__ (K : PySem.W.Frag) : Addr := He.ma K (He.ga K "Paper") "__bool__"
theorem Tx.F_Paper___bool__ (T : Tx K mg base) : FunD K "__bool__" "Paper.__bool__" (defArgs s_Paper___bool__) (defBody s_Paper___bool__) (defScope s_Paper___bool__) [] [] (a_Paper___bool__ K) (fdAt K (a_Paper___bool__ K)) := T.says.fun_ 4
theorem Tx.k_Paper___bool__ (T : Tx K mg base) : PySem.W.keepIn K (.ref (a_Paper___bool__ K)) = true := T.F_Paper___bool__.kp
theorem Tx.b_Paper___bool__ (T : Tx K mg base) : Binds K (fdAt K (a_Paper___bool__ K)) ["self"] [] := T.F_Paper___bool__.bindsN fun _ _ _ _ _ _ us hl => match us, hl with | [_], _ => rfl
abbrev a_Paper___eq__ (K : PySem.W.Frag) : Addr := He.ma K (He.ga K "Paper") "__eq__"
theorem Tx.F_Paper___eq__ (T : Tx K mg base) : FunD K "__eq__" "Paper.__eq__" (defArgs s_Paper___eq__) (defBody s_Paper___eq__) (defScope s_Paper___eq__) [] [] (a_Paper___eq__ K) (fdAt K (a_Paper___eq__ K)) := T.says.fun_ 5
theorem Tx.k_Paper___eq__ (T : Tx K mg base) : PySem.W.keepIn K (.ref (a_Paper___eq__ K)) = true := T.F_Paper___eq__.kp
theorem Tx.b_Paper___eq__ (T : Tx K mg base) : Binds K (fdAt K (a_Paper___eq__ K)) ["self", "other"] [] := T.F_Paper___eq__.bindsN fun _ _ _ _ _ _ us hl => match us, hl with | [_, _], _ => rfl
abbrev a_Denial___bool__ (K : PySem.W.Frag) : Addr := He.ma K (He.ga K "Denial") "__bool__"
theorem Tx.F_Denial___bool__ (T : Tx K mg base) : FunD K "__bool__" "Denial.__bool__" (defArgs s_Denial___bool__) (defBody s_Denial___bool__) (defScope s_Denial___bool__) [] [] (a_Denial___bool__ K) (fdAt K (a_Denial___bool__ K)) := T.says.fun_ 6
theorem Tx.k_Denial___bool__ (T : Tx K mg base) : PySem.W.keepIn K (.ref (a_Denial___bool__ K)) = true := T.F_Denial___bool__.kp
theorem Tx.b_Denial___bool__ (T : Tx K mg base) : Binds K (fdAt K (a_Denial___bool__ K)) ["self"] [] := T.F_Denial___bool__.bindsN fun _ _ _ _ _ _ us hl => match us, hl with | [_], _ => rfl
abbrev a__law_pen (K : PySem.W.Frag) : Addr := He.ga K "_law_pen"
theorem Tx.F__law_pen (T : Tx K mg base) : FunD K "_law_pen" "_law_pen" (defArgs s__law_pen) (defBody s__law_pen) (defScope s__law_pen) [] [] (a__law_pen K) (fdAt K (a__law_pen K)) := T.says.fun_ 7
theorem Tx.k__law_pen (T : Tx K mg base) : PySem.W.keepIn K (.ref (a__law_pen K)) = true := T.F__law_pen.kp
theorem Tx.b__law_pen (T : Tx K mg base) : Binds K (fdAt K (a__law_pen K)) ["script"] [] := T.F__law_pen.bindsN fun _ _ _ _ _ _ us hl => match us, hl with | [_], _ => rfl
abbrev a__law_draw (K : PySem.W.Frag) : Addr := He.ga K "_law_draw"
theorem Tx.F__law_draw (T : Tx K mg base) : FunD K "_law_draw" "_law_draw" (defArgs s__law_draw) (defBody s__law_draw) (defScope s__law_draw) [] [] (a__law_draw K) (fdAt K (a__law_draw K)) := T.says.fun_ 8
theorem Tx.k__law_draw (T : Tx K mg base) : PySem.W.keepIn K (.ref (a__law_draw K)) = true := T.F__law_draw.kp
theorem Tx.b__law_draw (T : Tx K mg base) : Binds K (fdAt K (a__law_draw K)) ["pen", "many"] [] := T.F__law_draw.bindsN fun _ _ _ _ _ _ us hl => match us, hl with | [_, _], _ => rfl
abbrev a__law_pick (K : PySem.W.Frag) : Addr := He.ga K "_law_pick"
theorem Tx.F__law_pick (T : Tx K mg base) : FunD K "_law_pick" "_law_pick" (defArgs s__law_pick) (defBody s__law_pick) (defScope s__law_pick) [] [] (a__law_pick K) (fdAt K (a__law_pick K)) := T.says.fun_ 9
theorem Tx.k__law_pick (T : Tx K mg base) : PySem.W.keepIn K (.ref (a__law_pick K)) = true := T.F__law_pick.kp
theorem Tx.b__law_pick (T : Tx K mg base) : Binds K (fdAt K (a__law_pick K)) ["pen", "some"] [] := T.F__law_pick.bindsN fun _ _ _ _ _ _ us hl => match us, hl with | [_, _], _ => rfl
abbrev a__law_any_value (K : PySem.W.Frag) : Addr := He.ga K "_law_any_value"
theorem Tx.F__law_any_value (T : Tx K mg base) : FunD K "_law_any_value" "_law_any_value" (defArgs s__law_any_value) (defBody s__law_any_value) (defScope s__law_any_value) [] [] (a__law_any_value K) (fdAt K (a__law_any_value K)) := T.says.fun_ 10
theorem Tx.k__law_any_value (T : Tx K mg base) : PySem.W.keepIn K (.ref (a__law_any_value K)) = true := T.F__law_any_value.kp
theorem Tx.b__law_any_value (T : Tx K mg base) : Binds K (fdAt K (a__law_any_value K)) ["pen", "deep"] [] := T.F__law_any_value.bindsN fun _ _ _ _ _ _ us hl => match us, hl with | [_, _], _ => rfl
abbrev a__law_as_told (K : PySem.W.Frag) : Addr := He.ga K "_law_as_told"
theorem Tx.F__law_as_told (T : Tx K mg base) : FunD K "_law_as_told" "_law_as_told" (defArgs s__law_as_told) (defBody s__law_as_told) (defScope s__law_as_told) [] [] (a__law_as_told K) (fdAt K (a__law_as_told K)) := T.says.fun_ 11
theorem Tx.k__law_as_told (T : Tx K mg base) : PySem.W.keepIn K (.ref (a__law_as_told K)) = true := T.F__law_as_told.kp
theorem Tx.b__law_as_told (T : Tx K mg base) : Binds K (fdAt K (a__law_as_told K)) ["value"] [] := T.F__law_as_told.bindsN fun _ _ _ _ _ _ us hl => match us, hl with | [_], _ => rfl
abbrev a_law (K : PySem.W.Frag) : Addr := He.ga K "law"
theorem Tx.F_law (T : Tx K mg base) : FunD K "law" "law" (defArgs s_law) (defBody s_law) (defScope s_law) [] [] (a_law K) (fdAt K (a_law K)) := T.says.fun_ 12
theorem Tx.k_law (T : Tx K mg base) : PySem.W.keepIn K (.ref (a_law K)) = true := T.F_law.kp
theorem Tx.b_law (T : Tx K mg base) : Binds K (fdAt K (a_law K)) ["script"] [] := T.F_law.bindsN fun _ _ _ _ _ _ us hl => match us, hl with | [_], _ => rfl
theorem Tx.bA_law (T : Tx K mg base) : ∀ (s : Shared) (us : List Value), us.length = 1 → BindsTo s (fdAt K (a_law K)) ⟨us, []⟩ ((["script"] : List Str).zip us) := FunD.bindsA (ps := ["script"]) T.F_law fun _ _ _ _ _ _ us hl => match us, hl with | [_], _ => rfl
abbrev a_BadBook___init__ (K : PySem.W.Frag) : Addr := He.ma K (He.ga K "BadBook") "__init__"
theorem Tx.S_BadBook___init__ (T : Tx K mg base) : SupD K (He.ga K "BadBook") (a_BadBook___init__ K) "__init__" ("BadBook" ++ ("." ++ "__init__")) (C8.fnArgs s_BadBook___init__) (C8.fnBody s_BadBook___init__) (C8.fnScope s_BadBook___init__) "/claim/cut.py" (fdAt K (a_BadBook___init__ K)) := T.says.sup_ 0
abbrev a_BadQuestion___init__ (K : PySem.W.Frag) : Addr := He.ma K (He.ga K "BadQuestion") "__init__"
theorem Tx.S_BadQuestion___init__ (T : Tx K mg base) : SupD K (He.ga K "BadQuestion") (a_BadQuestion___init__ K) "__init__" ("BadQuestion" ++ ("." ++ "__init__")) (C8.fnArgs s_BadQuestion___init__) (C8.fnBody s_BadQuestion___init__) (C8.fnScope s_BadQuestion___init__) "/claim/cut.py" (fdAt K (a_BadQuestion___init__ K)) := T.says.sup_ 1
abbrev a_BadFile___init__ (K : PySem.W.Frag) : Addr := He.ma K (He.ga K "BadFile") "__init__"
theorem Tx.S_BadFile___init__ (T : Tx K mg base) : SupD K (He.ga K "BadFile") (a_BadFile___init__ K) "__init__" ("BadFile" ++ ("." ++ "__init__")) (C8.fnArgs s_BadFile___init__) (C8.fnBody s_BadFile___init__) (C8.fnScope s_BadFile___init__) "/claim/cut.py" (fdAt K (a_BadFile___init__ K)) := T.says.sup_ 2
abbrev a_BadValue___init__ (K : PySem.W.Frag) : Addr := He.ma K (He.ga K "BadValue") "__init__"
theorem Tx.S_BadValue___init__ (T : Tx K mg base) : SupD K (He.ga K "BadValue") (a_BadValue___init__ K) "__init__" ("BadValue" ++ ("." ++ "__init__")) (C8.fnArgs s_BadValue___init__) (C8.fnBody s_BadValue___init__) (C8.fnScope s_BadValue___init__) "/claim/cut.py" (fdAt K (a_BadValue___init__ K)) := T.says.sup_ 3
abbrev a_BadNumber___init__ (K : PySem.W.Frag) : Addr := He.ma K (He.ga K "BadNumber") "__init__"
theorem Tx.S_BadNumber___init__ (T : Tx K mg base) : SupD K (He.ga K "BadNumber") (a_BadNumber___init__ K) "__init__" ("BadNumber" ++ ("." ++ "__init__")) (C8.fnArgs s_BadNumber___init__) (C8.fnBody s_BadNumber___init__) (C8.fnScope s_BadNumber___init__) "/claim/cut.py" (fdAt K (a_BadNumber___init__ K)) := T.says.sup_ 4
abbrev a_BadPaper___init__ (K : PySem.W.Frag) : Addr := He.ma K (He.ga K "BadPaper") "__init__"
theorem Tx.S_BadPaper___init__ (T : Tx K mg base) : SupD K (He.ga K "BadPaper") (a_BadPaper___init__ K) "__init__" ("BadPaper" ++ ("." ++ "__init__")) (C8.fnArgs s_BadPaper___init__) (C8.fnBody s_BadPaper___init__) (C8.fnScope s_BadPaper___init__) "/claim/cut.py" (fdAt K (a_BadPaper___init__ K)) := T.says.sup_ 5
abbrev a_Misfit___init__ (K : PySem.W.Frag) : Addr := He.ma K (He.ga K "Misfit") "__init__"
theorem Tx.S_Misfit___init__ (T : Tx K mg base) : SupD K (He.ga K "Misfit") (a_Misfit___init__ K) "__init__" ("Misfit" ++ ("." ++ "__init__")) (C8.fnArgs s_Misfit___init__) (C8.fnBody s_Misfit___init__) (C8.fnScope s_Misfit___init__) "/claim/cut.py" (fdAt K (a_Misfit___init__ K)) := T.says.sup_ 6
abbrev a_Nothing___init__ (K : PySem.W.Frag) : Addr := He.ma K (He.ga K "Nothing") "__init__"
theorem Tx.S_Nothing___init__ (T : Tx K mg base) : SupD K (He.ga K "Nothing") (a_Nothing___init__ K) "__init__" ("Nothing" ++ ("." ++ "__init__")) (C8.fnArgs s_Nothing___init__) (C8.fnBody s_Nothing___init__) (C8.fnScope s_Nothing___init__) "/claim/cut.py" (fdAt K (a_Nothing___init__ K)) := T.says.sup_ 7
abbrev a_NoName___init__ (K : PySem.W.Frag) : Addr := He.ma K (He.ga K "NoName") "__init__"
theorem Tx.S_NoName___init__ (T : Tx K mg base) : SupD K (He.ga K "NoName") (a_NoName___init__ K) "__init__" ("NoName" ++ ("." ++ "__init__")) (C8.fnArgs s_NoName___init__) (C8.fnBody s_NoName___init__) (C8.fnScope s_NoName___init__) "/claim/cut.py" (fdAt K (a_NoName___init__ K)) := T.says.sup_ 8
abbrev a_BadText___init__ (K : PySem.W.Frag) : Addr := He.ma K (He.ga K "BadText") "__init__"
theorem Tx.S_BadText___init__ (T : Tx K mg base) : SupD K (He.ga K "BadText") (a_BadText___init__ K) "__init__" ("BadText" ++ ("." ++ "__init__")) (C8.fnArgs s_BadText___init__) (C8.fnBody s_BadText___init__) (C8.fnScope s_BadText___init__) "/claim/cut.py" (fdAt K (a_BadText___init__ K)) := T.says.sup_ 9
abbrev a_BadLine___init__ (K : PySem.W.Frag) : Addr := He.ma K (He.ga K "BadLine") "__init__"
theorem Tx.S_BadLine___init__ (T : Tx K mg base) : SupD K (He.ga K "BadLine") (a_BadLine___init__ K) "__init__" ("BadLine" ++ ("." ++ "__init__")) (C8.fnArgs s_BadLine___init__) (C8.fnBody s_BadLine___init__) (C8.fnScope s_BadLine___init__) "/claim/cut.py" (fdAt K (a_BadLine___init__ K)) := T.says.sup_ 10
abbrev a_TooMany___init__ (K : PySem.W.Frag) : Addr := He.ma K (He.ga K "TooMany") "__init__"
theorem Tx.S_TooMany___init__ (T : Tx K mg base) : SupD K (He.ga K "TooMany") (a_TooMany___init__ K) "__init__" ("TooMany" ++ ("." ++ "__init__")) (C8.fnArgs s_TooMany___init__) (C8.fnBody s_TooMany___init__) (C8.fnScope s_TooMany___init__) "/claim/cut.py" (fdAt K (a_TooMany___init__ K)) := T.says.sup_ 11
abbrev a_Masks___init__ (K : PySem.W.Frag) : Addr := He.ma K (He.ga K "Masks") "__init__"
theorem Tx.S_Masks___init__ (T : Tx K mg base) : SupD K (He.ga K "Masks") (a_Masks___init__ K) "__init__" ("Masks" ++ ("." ++ "__init__")) (C8.fnArgs s_Masks___init__) (C8.fnBody s_Masks___init__) (C8.fnScope s_Masks___init__) "/claim/cut.py" (fdAt K (a_Masks___init__ K)) := T.says.sup_ 12
abbrev a_Stairs___init__ (K : PySem.W.Frag) : Addr := He.ma K (He.ga K "Stairs") "__init__"
theorem Tx.S_Stairs___init__ (T : Tx K mg base) : SupD K (He.ga K "Stairs") (a_Stairs___init__ K) "__init__" ("Stairs" ++ ("." ++ "__init__")) (C8.fnArgs s_Stairs___init__) (C8.fnBody s_Stairs___init__) (C8.fnScope s_Stairs___init__) "/claim/cut.py" (fdAt K (a_Stairs___init__ K)) := T.says.sup_ 13
theorem Tx.b_BadBook___init__ (T : Tx K mg base) : Binds K (fdAt K (a_BadBook___init__ K)) ["self", "part"] [] := T.S_BadBook___init__.binds fun _ _ _ _ _ _ _ us hl => match us, hl with | [_, _], _ => rfl
theorem Tx.b_BadQuestion___init__ (T : Tx K mg base) : Binds K (fdAt K (a_BadQuestion___init__ K)) ["self", "part"] [] := T.S_BadQuestion___init__.binds fun _ _ _ _ _ _ _ us hl => match us, hl with | [_, _], _ => rfl
theorem Tx.b_BadFile___init__ (T : Tx K mg base) : Binds K (fdAt K (a_BadFile___init__ K)) ["self", "part"] [] := T.S_BadFile___init__.binds fun _ _ _ _ _ _ _ us hl => match us, hl with | [_, _], _ => rfl
theorem Tx.b_BadValue___init__ (T : Tx K mg base) : Binds K (fdAt K (a_BadValue___init__ K)) ["self", "part"] [] := T.S_BadValue___init__.binds fun _ _ _ _ _ _ _ us hl => match us, hl with | [_, _], _ => rfl
theorem Tx.b_BadNumber___init__ (T : Tx K mg base) : Binds K (fdAt K (a_BadNumber___init__ K)) ["self", "part"] [] := T.S_BadNumber___init__.binds fun _ _ _ _ _ _ _ us hl => match us, hl with | [_, _], _ => rfl
theorem Tx.b_BadPaper___init__ (T : Tx K mg base) : Binds K (fdAt K (a_BadPaper___init__ K)) ["self", "part"] [] := T.S_BadPaper___init__.binds fun _ _ _ _ _ _ _ us hl => match us, hl with | [_, _], _ => rfl
theorem Tx.b_Misfit___init__ (T : Tx K mg base) : Binds K (fdAt K (a_Misfit___init__ K)) ["self", "part"] [] := T.S_Misfit___init__.binds fun _ _ _ _ _ _ _ us hl => match us, hl with | [_, _], _ => rfl
theorem Tx.b_Nothing___init__ (T : Tx K mg base) : Binds K (fdAt K (a_Nothing___init__ K)) ["self", "word"] [] := T.S_Nothing___init__.binds fun _ _ _ _ _ _ _ us hl => match us, hl with | [_, _], _ => rfl
theorem Tx.b_NoName___init__ (T : Tx K mg base) : Binds K (fdAt K (a_NoName___init__ K)) ["self", "name"] [] := T.S_NoName___init__.binds fun _ _ _ _ _ _ _ us hl => match us, hl with | [_, _], _ => rfl
theorem Tx.b_BadText___init__ (T : Tx K mg base) : Binds K (fdAt K (a_BadText___init__ K)) ["self", "line", "word"] [] := T.S_BadText___init__.binds fun _ _ _ _ _ _ _ us hl => match us, hl with | [_, _, _], _ => rfl
theorem Tx.b_BadLine___init__ (T : Tx K mg base) : Binds K (fdAt K (a_BadLine___init__ K)) ["self", "word"] [] := T.S_BadLine___init__.binds fun _ _ _ _ _ _ _ us hl => match us, hl with | [_, _], _ => rfl
theorem Tx.b_TooMany___init__ (T : Tx K mg base) : Binds K (fdAt K (a_TooMany___init__ K)) ["self", "what", "most"] [] := T.S_TooMany___init__.binds fun _ _ _ _ _ _ _ us hl => match us, hl with | [_, _, _], _ => rfl
theorem Tx.b_Masks___init__ (T : Tx K mg base) : Binds K (fdAt K (a_Masks___init__ K)) ["self", "safe", "unsafe"] [] := T.S_Masks___init__.binds fun _ _ _ _ _ _ _ us hl => match us, hl with | [_, _, _], _ => rfl
theorem Tx.b_Stairs___init__ (T : Tx K mg base) : Binds K (fdAt K (a_Stairs___init__ K)) ["self", "rows"] [] := T.S_Stairs___init__.binds fun _ _ _ _ _ _ _ us hl => match us, hl with | [_, _], _ => rfl
theorem Tx.kb_Masks___init__ (T : Tx K mg base) : KBn K (fdAt K (a_Masks___init__ K)) ["self", "safe", "unsafe"] 1 ["safe", "unsafe"] (fun us ws => us ++ ws) (fun us ws => us ++ ws) := T.S_Masks___init__.kbinds fun _ _ _ _ _ _ _ us ws hl hl2 => match us, ws, hl, hl2 with | [_], [_, _], _, _ => rfl
theorem Tx.kb_Stairs___init__ (T : Tx K mg base) : KBn K (fdAt K (a_Stairs___init__ K)) ["self", "rows"] 1 ["rows"] (fun us ws => us ++ ws) (fun us ws => us ++ ws) := T.S_Stairs___init__.kbinds fun _ _ _ _ _ _ _ us ws hl hl2 => match us, ws, hl, hl2 with | [_], [_], _, _ => rfl
theorem Tx.x_BadBook (T : Tx K mg base) : ExcF K (He.ga K "BadBook") (He.ma K (He.ga K "BadBook") "__init__") := T.says.exc 0
theorem Tx.xv_BadBook (T : Tx K mg base) : PySem.W.kitOne K (.ref (He.ga K "BadBook")) (.type "ValueError") = some true := T.says.kitV 0
theorem Tx.x_BadQuestion (T : Tx K mg base) : ExcF K (He.ga K "BadQuestion") (He.ma K (He.ga K "BadQuestion") "__init__") := T.says.exc 1
theorem Tx.xv_BadQuestion (T : Tx K mg base) : PySem.W.kitOne K (.ref (He.ga K "BadQuestion")) (.type "ValueError") = some true := T.says.kitV 1
theorem Tx.x_BadFile (T : Tx K mg base) : ExcF K (He.ga K "BadFile") (He.ma K (He.ga K "BadFile") "__init__") := T.says.exc 2
theorem Tx.xv_BadFile (T : Tx K mg base) : PySem.W.kitOne K (.ref (He.ga K "BadFile")) (.type "ValueError") = some true := T.says.kitV 2
theorem Tx.x_BadValue (T : Tx K mg base) : ExcF K (He.ga K "BadValue") (He.ma K (He.ga K "BadValue") "__init__") := T.says.exc 3
theorem Tx.xv_BadValue (T : Tx K mg base) : PySem.W.kitOne K (.ref (He.ga K "BadValue")) (.type "ValueError") = some true := T.says.kitV 3
theorem Tx.x_BadNumber (T : Tx K mg base) : ExcF K (He.ga K "BadNumber") (He.ma K (He.ga K "BadNumber") "__init__") := T.says.exc 4
theorem Tx.xv_BadNumber (T : Tx K mg base) : PySem.W.kitOne K (.ref (He.ga K "BadNumber")) (.type "ValueError") = some true := T.says.kitV 4
theorem Tx.x_BadPaper (T : Tx K mg base) : ExcF K (He.ga K "BadPaper") (He.ma K (He.ga K "BadPaper") "__init__") := T.says.exc 5
theorem Tx.xv_BadPaper (T : Tx K mg base) : PySem.W.kitOne K (.ref (He.ga K "BadPaper")) (.type "ValueError") = some true := T.says.kitV 5
theorem Tx.x_Misfit (T : Tx K mg base) : ExcF K (He.ga K "Misfit") (He.ma K (He.ga K "Misfit") "__init__") := T.says.exc 6
theorem Tx.xv_Misfit (T : Tx K mg base) : PySem.W.kitOne K (.ref (He.ga K "Misfit")) (.type "ValueError") = some true := T.says.kitV 6
theorem Tx.x_Nothing (T : Tx K mg base) : ExcF K (He.ga K "Nothing") (He.ma K (He.ga K "Nothing") "__init__") := T.says.exc 7
theorem Tx.xv_Nothing (T : Tx K mg base) : PySem.W.kitOne K (.ref (He.ga K "Nothing")) (.type "ValueError") = some true := T.says.kitV 7
theorem Tx.x_NoName (T : Tx K mg base) : ExcF K (He.ga K "NoName") (He.ma K (He.ga K "NoName") "__init__") := T.says.exc 8
theorem Tx.xv_NoName (T : Tx K mg base) : PySem.W.kitOne K (.ref (He.ga K "NoName")) (.type "ValueError") = some true := T.says.kitV 8
theorem Tx.x_BadText (T : Tx K mg base) : ExcF K (He.ga K "BadText") (He.ma K (He.ga K "BadText") "__init__") := T.says.exc 9
theorem Tx.xv_BadText (T : Tx K mg base) : PySem.W.kitOne K (.ref (He.ga K "BadText")) (.type "ValueError") = some true := T.says.kitV 9
theorem Tx.x_BadLine (T : Tx K mg base) : ExcF K (He.ga K "BadLine") (He.ma K (He.ga K "BadLine") "__init__") := T.says.exc 10
theorem Tx.xv_BadLine (T : Tx K mg base) : PySem.W.kitOne K (.ref (He.ga K "BadLine")) (.type "ValueError") = some true := T.says.kitV 10
theorem Tx.x_TooMany (T : Tx K mg base) : ExcF K (He.ga K "TooMany") (He.ma K (He.ga K "TooMany") "__init__") := T.says.exc 11
theorem Tx.xv_TooMany (T : Tx K mg base) : PySem.W.kitOne K (.ref (He.ga K "TooMany")) (.type "ValueError") = some true := T.says.kitV 11
theorem Tx.kit_BadBook_BadBook (T : Tx K mg base) : PySem.W.kitOne K (.ref (He.ga K "BadBook")) (.ref (He.ga K "BadBook")) = some true := T.says.kit 0
theorem Tx.kit_BadBook_BadQuestion (T : Tx K mg base) : PySem.W.kitOne K (.ref (He.ga K "BadBook")) (.ref (He.ga K "BadQuestion")) = some false := T.says.kit 1
theorem Tx.kit_BadBook_BadFile (T : Tx K mg base) : PySem.W.kitOne K (.ref (He.ga K "BadBook")) (.ref (He.ga K "BadFile")) = some false := T.says.kit 2
theorem Tx.kit_BadBook_BadValue (T : Tx K mg base) : PySem.W.kitOne K (.ref (He.ga K "BadBook")) (.ref (He.ga K "BadValue")) = some false := T.says.kit 3
theorem Tx.kit_BadBook_BadNumber (T : Tx K mg base) : PySem.W.kitOne K (.ref (He.ga K "BadBook")) (.ref (He.ga K "BadNumber")) = some false := T.says.kit 4
theorem Tx.kit_BadBook_BadPaper (T : Tx K mg base) : PySem.W.kitOne K (.ref (He.ga K "BadBook")) (.ref (He.ga K "BadPaper")) = some false := T.says.kit 5
theorem Tx.kit_BadQuestion_BadBook (T : Tx K mg base) : PySem.W.kitOne K (.ref (He.ga K "BadQuestion")) (.ref (He.ga K "BadBook")) = some false := T.says.kit 6
theorem Tx.kit_BadQuestion_BadQuestion (T : Tx K mg base) : PySem.W.kitOne K (.ref (He.ga K "BadQuestion")) (.ref (He.ga K "BadQuestion")) = some true := T.says.kit 7
theorem Tx.kit_BadQuestion_BadFile (T : Tx K mg base) : PySem.W.kitOne K (.ref (He.ga K "BadQuestion")) (.ref (He.ga K "BadFile")) = some false := T.says.kit 8
theorem Tx.kit_BadQuestion_BadValue (T : Tx K mg base) : PySem.W.kitOne K (.ref (He.ga K "BadQuestion")) (.ref (He.ga K "BadValue")) = some false := T.says.kit 9
theorem Tx.kit_BadQuestion_BadNumber (T : Tx K mg base) : PySem.W.kitOne K (.ref (He.ga K "BadQuestion")) (.ref (He.ga K "BadNumber")) = some false := T.says.kit 10
theorem Tx.kit_BadQuestion_BadPaper (T : Tx K mg base) : PySem.W.kitOne K (.ref (He.ga K "BadQuestion")) (.ref (He.ga K "BadPaper")) = some false := T.says.kit 11
theorem Tx.kit_BadFile_BadBook (T : Tx K mg base) : PySem.W.kitOne K (.ref (He.ga K "BadFile")) (.ref (He.ga K "BadBook")) = some false := T.says.kit 12
theorem Tx.kit_BadFile_BadQuestion (T : Tx K mg base) : PySem.W.kitOne K (.ref (He.ga K "BadFile")) (.ref (He.ga K "BadQuestion")) = some false := T.says.kit 13
theorem Tx.kit_BadFile_BadFile (T : Tx K mg base) : PySem.W.kitOne K (.ref (He.ga K "BadFile")) (.ref (He.ga K "BadFile")) = some true := T.says.kit 14
theorem Tx.kit_BadFile_BadValue (T : Tx K mg base) : PySem.W.kitOne K (.ref (He.ga K "BadFile")) (.ref (He.ga K "BadValue")) = some false := T.says.kit 15
theorem Tx.kit_BadFile_BadNumber (T : Tx K mg base) : PySem.W.kitOne K (.ref (He.ga K "BadFile")) (.ref (He.ga K "BadNumber")) = some false := T.says.kit 16
theorem Tx.kit_BadFile_BadPaper (T : Tx K mg base) : PySem.W.kitOne K (.ref (He.ga K "BadFile")) (.ref (He.ga K "BadPaper")) = some false := T.says.kit 17
theorem Tx.kit_BadValue_BadBook (T : Tx K mg base) : PySem.W.kitOne K (.ref (He.ga K "BadValue")) (.ref (He.ga K "BadBook")) = some false := T.says.kit 18
theorem Tx.kit_BadValue_BadQuestion (T : Tx K mg base) : PySem.W.kitOne K (.ref (He.ga K "BadValue")) (.ref (He.ga K "BadQuestion")) = some false := T.says.kit 19
theorem Tx.kit_BadValue_BadFile (T : Tx K mg base) : PySem.W.kitOne K (.ref (He.ga K "BadValue")) (.ref (He.ga K "BadFile")) = some false := T.says.kit 20
theorem Tx.kit_BadValue_BadValue (T : Tx K mg base) : PySem.W.kitOne K (.ref (He.ga K "BadValue")) (.ref (He.ga K "BadValue")) = some true := T.says.kit 21
theorem Tx.kit_BadValue_BadNumber (T : Tx K mg base) : PySem.W.kitOne K (.ref (He.ga K "BadValue")) (.ref (He.ga K "BadNumber")) = some false := T.says.kit 22
theorem Tx.kit_BadValue_BadPaper (T : Tx K mg base) : PySem.W.kitOne K (.ref (He.ga K "BadValue")) (.ref (He.ga K "BadPaper")) = some false := T.says.kit 23
theorem Tx.kit_BadNumber_BadBook (T : Tx K mg base) : PySem.W.kitOne K (.ref (He.ga K "BadNumber")) (.ref (He.ga K "BadBook")) = some false := T.says.kit 24
theorem Tx.kit_BadNumber_BadQuestion (T : Tx K mg base) : PySem.W.kitOne K (.ref (He.ga K "BadNumber")) (.ref (He.ga K "BadQuestion")) = some false := T.says.kit 25
theorem Tx.kit_BadNumber_BadFile (T : Tx K mg base) : PySem.W.kitOne K (.ref (He.ga K "BadNumber")) (.ref (He.ga K "BadFile")) = some false := T.says.kit 26
theorem Tx.kit_BadNumber_BadValue (T : Tx K mg base) : PySem.W.kitOne K (.ref (He.ga K "BadNumber")) (.ref (He.ga K "BadValue")) = some false := T.says.kit 27
theorem Tx.kit_BadNumber_BadNumber (T : Tx K mg base) : PySem.W.kitOne K (.ref (He.ga K "BadNumber")) (.ref (He.ga K "BadNumber")) = some true := T.says.kit 28
theorem Tx.kit_BadNumber_BadPaper (T : Tx K mg base) : PySem.W.kitOne K (.ref (He.ga K "BadNumber")) (.ref (He.ga K "BadPaper")) = some false := T.says.kit 29
theorem Tx.kit_BadPaper_BadBook (T : Tx K mg base) : PySem.W.kitOne K (.ref (He.ga K "BadPaper")) (.ref (He.ga K "BadBook")) = some false := T.says.kit 30
theorem Tx.kit_BadPaper_BadQuestion (T : Tx K mg base) : PySem.W.kitOne K (.ref (He.ga K "BadPaper")) (.ref (He.ga K "BadQuestion")) = some false := T.says.kit 31
theorem Tx.kit_BadPaper_BadFile (T : Tx K mg base) : PySem.W.kitOne K (.ref (He.ga K "BadPaper")) (.ref (He.ga K "BadFile")) = some false := T.says.kit 32
theorem Tx.kit_BadPaper_BadValue (T : Tx K mg base) : PySem.W.kitOne K (.ref (He.ga K "BadPaper")) (.ref (He.ga K "BadValue")) = some false := T.says.kit 33
theorem Tx.kit_BadPaper_BadNumber (T : Tx K mg base) : PySem.W.kitOne K (.ref (He.ga K "BadPaper")) (.ref (He.ga K "BadNumber")) = some false := T.says.kit 34
theorem Tx.kit_BadPaper_BadPaper (T : Tx K mg base) : PySem.W.kitOne K (.ref (He.ga K "BadPaper")) (.ref (He.ga K "BadPaper")) = some true := T.says.kit 35
theorem Tx.kit_Misfit_BadBook (T : Tx K mg base) : PySem.W.kitOne K (.ref (He.ga K "Misfit")) (.ref (He.ga K "BadBook")) = some false := T.says.kit 36
theorem Tx.kit_Misfit_BadQuestion (T : Tx K mg base) : PySem.W.kitOne K (.ref (He.ga K "Misfit")) (.ref (He.ga K "BadQuestion")) = some false := T.says.kit 37
theorem Tx.kit_Misfit_BadFile (T : Tx K mg base) : PySem.W.kitOne K (.ref (He.ga K "Misfit")) (.ref (He.ga K "BadFile")) = some false := T.says.kit 38
theorem Tx.kit_Misfit_BadValue (T : Tx K mg base) : PySem.W.kitOne K (.ref (He.ga K "Misfit")) (.ref (He.ga K "BadValue")) = some false := T.says.kit 39
theorem Tx.kit_Misfit_BadNumber (T : Tx K mg base) : PySem.W.kitOne K (.ref (He.ga K "Misfit")) (.ref (He.ga K "BadNumber")) = some false := T.says.kit 40
theorem Tx.kit_Misfit_BadPaper (T : Tx K mg base) : PySem.W.kitOne K (.ref (He.ga K "Misfit")) (.ref (He.ga K "BadPaper")) = some false := T.says.kit 41
theorem Tx.kit_BadBook_CrowdError (T : Tx K mg base) : PySem.W.kitOne K (.ref (He.ga K "BadBook")) (.ref (He.ga K "CrowdError")) = some true := T.says.kit 42
theorem Tx.kit_BadQuestion_CrowdError (T : Tx K mg base) : PySem.W.kitOne K (.ref (He.ga K "BadQuestion")) (.ref (He.ga K "CrowdError")) = some true := T.says.kit 43
theorem Tx.kit_BadFile_CrowdError (T : Tx K mg base) : PySem.W.kitOne K (.ref (He.ga K "BadFile")) (.ref (He.ga K "CrowdError")) = some true := T.says.kit 44
theorem Tx.kit_BadValue_CrowdError (T : Tx K mg base) : PySem.W.kitOne K (.ref (He.ga K "BadValue")) (.ref (He.ga K "CrowdError")) = some true := T.says.kit 45
theorem Tx.kit_BadNumber_CrowdError (T : Tx K mg base) : PySem.W.kitOne K (.ref (He.ga K "BadNumber")) (.ref (He.ga K "CrowdError")) = some true := T.says.kit 46
theorem Tx.kit_BadPaper_CrowdError (T : Tx K mg base) : PySem.W.kitOne K (.ref (He.ga K "BadPaper")) (.ref (He.ga K "CrowdError")) = some true := T.says.kit 47
theorem Tx.kit_Misfit_CrowdError (T : Tx K mg base) : PySem.W.kitOne K (.ref (He.ga K "Misfit")) (.ref (He.ga K "CrowdError")) = some true := T.says.kit 48
theorem Tx.kit_Nothing_CrowdError (T : Tx K mg base) : PySem.W.kitOne K (.ref (He.ga K "Nothing")) (.ref (He.ga K "CrowdError")) = some true := T.says.kit 49
theorem Tx.kit_NoName_CrowdError (T : Tx K mg base) : PySem.W.kitOne K (.ref (He.ga K "NoName")) (.ref (He.ga K "CrowdError")) = some true := T.says.kit 50
theorem Tx.kit_BadText_CrowdError (T : Tx K mg base) : PySem.W.kitOne K (.ref (He.ga K "BadText")) (.ref (He.ga K "CrowdError")) = some true := T.says.kit 51
theorem Tx.kit_BadLine_CrowdError (T : Tx K mg base) : PySem.W.kitOne K (.ref (He.ga K "BadLine")) (.ref (He.ga K "CrowdError")) = some true := T.says.kit 52
theorem Tx.kit_TooMany_CrowdError (T : Tx K mg base) : PySem.W.kitOne K (.ref (He.ga K "TooMany")) (.ref (He.ga K "CrowdError")) = some true := T.says.kit 53
theorem Tx.kit_Nothing_BadBook (T : Tx K mg base) : PySem.W.kitOne K (.ref (He.ga K "Nothing")) (.ref (He.ga K "BadBook")) = some false := T.says.kit 54
theorem Tx.kit_Nothing_BadValue (T : Tx K mg base) : PySem.W.kitOne K (.ref (He.ga K "Nothing")) (.ref (He.ga K "BadValue")) = some false := T.says.kit 55
theorem Tx.kit_Nothing_Misfit (T : Tx K mg base) : PySem.W.kitOne K (.ref (He.ga K "Nothing")) (.ref (He.ga K "Misfit")) = some false := T.says.kit 56
theorem Tx.kit_NoName_BadBook (T : Tx K mg base) : PySem.W.kitOne K (.ref (He.ga K "NoName")) (.ref (He.ga K "BadBook")) = some false := T.says.kit 57
theorem Tx.kit_NoName_BadValue (T : Tx K mg base) : PySem.W.kitOne K (.ref (He.ga K "NoName")) (.ref (He.ga K "BadValue")) = some false := T.says.kit 58
theorem Tx.kit_NoName_Misfit (T : Tx K mg base) : PySem.W.kitOne K (.ref (He.ga K "NoName")) (.ref (He.ga K "Misfit")) = some false := T.says.kit 59
theorem Tx.kit_BadText_BadBook (T : Tx K mg base) : PySem.W.kitOne K (.ref (He.ga K "BadText")) (.ref (He.ga K "BadBook")) = some false := T.says.kit 60
theorem Tx.kit_BadText_BadValue (T : Tx K mg base) : PySem.W.kitOne K (.ref (He.ga K "BadText")) (.ref (He.ga K "BadValue")) = some false := T.says.kit 61
theorem Tx.kit_BadText_Misfit (T : Tx K mg base) : PySem.W.kitOne K (.ref (He.ga K "BadText")) (.ref (He.ga K "Misfit")) = some false := T.says.kit 62
theorem Tx.kit_BadLine_BadBook (T : Tx K mg base) : PySem.W.kitOne K (.ref (He.ga K "BadLine")) (.ref (He.ga K "BadBook")) = some false := T.says.kit 63
theorem Tx.kit_BadLine_BadValue (T : Tx K mg base) : PySem.W.kitOne K (.ref (He.ga K "BadLine")) (.ref (He.ga K "BadValue")) = some false := T.says.kit 64
theorem Tx.kit_BadLine_Misfit (T : Tx K mg base) : PySem.W.kitOne K (.ref (He.ga K "BadLine")) (.ref (He.ga K "Misfit")) = some false := T.says.kit 65
theorem Tx.kit_TooMany_BadBook (T : Tx K mg base) : PySem.W.kitOne K (.ref (He.ga K "TooMany")) (.ref (He.ga K "BadBook")) = some false := T.says.kit 66
theorem Tx.kit_TooMany_BadValue (T : Tx K mg base) : PySem.W.kitOne K (.ref (He.ga K "TooMany")) (.ref (He.ga K "BadValue")) = some false := T.says.kit 67
theorem Tx.kit_TooMany_Misfit (T : Tx K mg base) : PySem.W.kitOne K (.ref (He.ga K "TooMany")) (.ref (He.ga K "Misfit")) = some false := T.says.kit 68
theorem Tx.kit_Paper_Paper (T : Tx K mg base) : PySem.W.kitOne K (.ref (He.ga K "Paper")) (.ref (He.ga K "Paper")) = some true := T.says.kit 69
theorem Tx.kit_Denial_Paper (T : Tx K mg base) : PySem.W.kitOne K (.ref (He.ga K "Denial")) (.ref (He.ga K "Paper")) = some true := T.says.kit 70
theorem Tx.kit_Masks_Paper (T : Tx K mg base) : PySem.W.kitOne K (.ref (He.ga K "Masks")) (.ref (He.ga K "Paper")) = some true := T.says.kit 71
theorem Tx.kit_Stairs_Paper (T : Tx K mg base) : PySem.W.kitOne K (.ref (He.ga K "Stairs")) (.ref (He.ga K "Paper")) = some true := T.says.kit 72
theorem Tx.p_Paper (T : Tx K mg base) : PapF K (He.ga K "Paper") (He.ma K (He.ga K "Paper") "__eq__") "Paper" := T.says.pap 0
theorem Tx.pt_Paper (T : Tx K mg base) : PySem.W.kitOne K (.type "tuple") (.ref (He.ga K "Paper")) = some false ∧ PySem.W.subIn K (.type "tuple") (.ref (He.ga K "Paper")) = some false := T.says.tupK 0
theorem Tx.p_Denial (T : Tx K mg base) : PapF K (He.ga K "Denial") (He.ma K (He.ga K "Paper") "__eq__") "Denial" := T.says.pap 1
theorem Tx.pt_Denial (T : Tx K mg base) : PySem.W.kitOne K (.type "tuple") (.ref (He.ga K "Denial")) = some false ∧ PySem.W.subIn K (.type "tuple") (.ref (He.ga K "Denial")) = some false := T.says.tupK 1
theorem Tx.p_Masks (T : Tx K mg base) : PapF K (He.ga K "Masks") (He.ma K (He.ga K "Paper") "__eq__") "Masks" := T.says.pap 2
theorem Tx.pt_Masks (T : Tx K mg base) : PySem.W.kitOne K (.type "tuple") (.ref (He.ga K "Masks")) = some false ∧ PySem.W.subIn K (.type "tuple") (.ref (He.ga K "Masks")) = some false := T.says.tupK 2
theorem Tx.p_Stairs (T : Tx K mg base) : PapF K (He.ga K "Stairs") (He.ma K (He.ga K "Paper") "__eq__") "Stairs" := T.says.pap 3
theorem Tx.pt_Stairs (T : Tx K mg base) : PySem.W.kitOne K (.type "tuple") (.ref (He.ga K "Stairs")) = some false ∧ PySem.W.subIn K (.type "tuple") (.ref (He.ga K "Stairs")) = some false := T.says.tupK 3
theorem Tx.mki_Denial (T : Tx K mg base) : Mk K (He.ga K "Denial") (He.ma K (He.ga K "Paper") "__init__") := by
  have e := T.says.ini 0
  have m := T.mk_Denial
  have z : He.ma K (He.ga K "Denial") "__init__" = He.ma K (He.ga K "Paper") "__init__" := by
    have q := m.init.symm.trans e
    exact Value.ref.inj (Option.some.inj (Option.some.inj q))
  rw [← z]
  exact m
theorem Tx.si_Masks (T : Tx K mg base) : SupI K (He.ga K "Masks") (He.ga K "Masks") (He.ma K (He.ga K "Paper") "__init__") := T.says.supI 0
theorem Tx.si_Stairs (T : Tx K mg base) : SupI K (He.ga K "Stairs") (He.ga K "Stairs") (He.ma K (He.ga K "Paper") "__init__") := T.says.supI 1
theorem Tx.sub_Paper_Denial (T : Tx K mg base) : PySem.W.subIn K (.ref (He.ga K "Paper")) (.ref (He.ga K "Denial")) = some false := T.says.subK 0
theorem Tx.sub_Paper_Masks (T : Tx K mg base) : PySem.W.subIn K (.ref (He.ga K "Paper")) (.ref (He.ga K "Masks")) = some false := T.says.subK 1
theorem Tx.sub_Paper_Stairs (T : Tx K mg base) : PySem.W.subIn K (.ref (He.ga K "Paper")) (.ref (He.ga K "Stairs")) = some false := T.says.subK 2
theorem Tx.sub_Denial_Paper (T : Tx K mg base) : PySem.W.subIn K (.ref (He.ga K "Denial")) (.ref (He.ga K "Paper")) = some true := T.says.subK 3
theorem Tx.sub_Denial_Masks (T : Tx K mg base) : PySem.W.subIn K (.ref (He.ga K "Denial")) (.ref (He.ga K "Masks")) = some false := T.says.subK 4
theorem Tx.sub_Denial_Stairs (T : Tx K mg base) : PySem.W.subIn K (.ref (He.ga K "Denial")) (.ref (He.ga K "Stairs")) = some false := T.says.subK 5
theorem Tx.sub_Masks_Paper (T : Tx K mg base) : PySem.W.subIn K (.ref (He.ga K "Masks")) (.ref (He.ga K "Paper")) = some true := T.says.subK 6
theorem Tx.sub_Masks_Denial (T : Tx K mg base) : PySem.W.subIn K (.ref (He.ga K "Masks")) (.ref (He.ga K "Denial")) = some false := T.says.subK 7
theorem Tx.sub_Masks_Stairs (T : Tx K mg base) : PySem.W.subIn K (.ref (He.ga K "Masks")) (.ref (He.ga K "Stairs")) = some false := T.says.subK 8
theorem Tx.sub_Stairs_Paper (T : Tx K mg base) : PySem.W.subIn K (.ref (He.ga K "Stairs")) (.ref (He.ga K "Paper")) = some true := T.says.subK 9
theorem Tx.sub_Stairs_Denial (T : Tx K mg base) : PySem.W.subIn K (.ref (He.ga K "Stairs")) (.ref (He.ga K "Denial")) = some false := T.says.subK 10
theorem Tx.sub_Stairs_Masks (T : Tx K mg base) : PySem.W.subIn K (.ref (He.ga K "Stairs")) (.ref (He.ga K "Masks")) = some false := T.says.subK 11
end
end K00

set_option Elab.async false
set_option linter.all false
set_option maxRecDepth 100000
set_option maxHeartbeats 0
namespace K00
open PySem PySem.Spec PyProof.Rows L2 Cw
abbrev R : PySem.W.OpenRow := PySem.W.OpenLaw.row PySem.Challenge.rw_leastcrowd_k00_errors_and_papers
def ob (s : PySem.W.SharedT) : AlX := obsXG (HandSHeadRun.getT s)
theorem ob_eq (s : PySem.W.SharedT) : ob s = hookX.obs s.abs := obsXG_eq (HandSHeadRun.getT_eq s)
def loose0 : List Str := ["is_listed", "fixed", "is_like", "Paper", "Denial", "CrowdError", "BadBook", "BadQuestion", "BadFile", "BadValue", "BadNumber", "BadPaper", "Misfit", "Nothing", "NoName", "BadText", "BadLine", "TooMany", "Masks", "Stairs", "_law_pen", "_law_draw", "_law_pick", "_law_any_value", "_law_as_told"]
def looseN : List Str := loose0
theorem run (w : World) : HandSHeadRun.RunEq R (PySem.W.view R.prog [31]) hookX ob 6000 looseN w := by
  intro os
  kernel_rfl
end K00

set_option Elab.async false
set_option linter.all false
set_option maxRecDepth 100000
set_option maxHeartbeats 4000000
namespace K00
open PySem PySem.Spec PyProof.Rows L2 Cw
section
variable {P : Program} {w : World} {K : PySem.W.Frag} {mg : Str → Option Value} {base : Heap}
/-! ### _law_draw -/
abbrev N_draw : List Str := ["pen", "many", "digit", "lap", "cell", "great", "mixed"]
theorem sc_draw : FnScope N_draw ["pen", "many"] (defScope s__law_draw) := ⟨rfl, rfl, rfl, by decide +kernel, rfl, by decide +kernel, by decide +kernel⟩
theorem ok_draw (T : Tx K mg base) : FnOk P w K mg base CX0 1 (a__law_draw K) (fdAt K (a__law_draw K)) ["pen", "many"] spDraw := by
  refine T.F__law_draw.ok sc_draw (fun vs H Q E h => ?_) (fun cdv A outer s H vs Q E hr h => ?_)
  · obtain ⟨p, c, m, n, rfl, _⟩ := h
    rfl
  · obtain ⟨p, c, m, n, rfl, hP, hm, hm2, hn, k⟩ := h
    have sc := sc_draw
    refine ⟨_, PSs.nox ((pss_cons (ps_if (pt_cmpR op_gt (pe_ix ix_list (pv 0) pe_int (fun _ _ => rfl)) pe_int (nomark _))
  (pss_cons (ps_set (i := 2) sc.nd rfl (Or.inl rfl) (pe_op op_modN (pe_callTy call_int1 (by rfl) T.f_int (by decide +kernel) (pa_cons (pe_ix ix_list (pv 0) pe_int (fun _ _ => rfl)) pa_nil)) (pv 1)))
  (pss_cons (ps_asg (pe_op op_fdivN (pe_callTy call_int1 (by rfl) T.f_int (by decide +kernel) (pa_cons (pe_ix ix_list (pv 0) pe_int (fun _ _ => rfl)) pa_nil)) (pv 1)) (pg_sub (pv 0) pe_int set_list))
  (pss_one (ps_ret (pv 2)))))
  pss_nil)
  (pss_cons (ps_set (i := 3) sc.nd rfl (Or.inl rfl) (pe_ix ix_list (pv 0) pe_int (fun _ _ => rfl)))
  (pss_cons (ps_asg (pe_op op_add (pv 3) pe_int) (pg_sub (pv 0) pe_int set_list))
  (pss_cons (ps_set (i := 4) sc.nd rfl (Or.inl rfl) (pe_op op_add (pe_op op_mul pe_int (pv 3)) pe_int))
  (Evl.pss_cut (ps_if (pt_cmpR (op_neD hr.units) (pe_ix ix_list (pv 0) pe_int (fun _ _ => rfl)) (pe_lst pa_nil) (nomark _))
  (pss_one (ps_set (i := 4) sc.nd rfl (Or.inl rfl) (pe_ix ix_list (pe_ix ix_list (pv 0) pe_int (fun _ _ => rfl)) (pe_op op_modN (pe_callTy call_int1 (by rfl) T.f_int (by decide +kernel) (pa_cons (pv 3) pa_nil)) (pe_callB call_len_seq (by rfl) T.f_len (by decide +kernel) (pa_cons (pe_ix ix_list (pv 0) pe_int (fun _ _ => rfl)) pa_nil))) (fun _ _ => rfl))))
  pss_nil)
  (Evl.pss_cut (ps_if (PW.pt (pw_and (pt_cmpR op_lt (pv 3) (pe_callB call_len_seq (by rfl) T.f_len (by decide +kernel) (pa_cons (pe_ix ix_list (pv 0) pe_int (fun _ _ => rfl)) pa_nil)) (nomark _)) (pw_and1 (pt_cmpR op_ge (pe_callB call_abs (by rfl) T.f_abs (by decide +kernel) (pa_cons (pv 4) pa_nil)) (pe_op op_pow pe_int pe_int) (nomark _)))))
  (pss_cons (ps_set (i := 5) sc.nd rfl (Or.inl rfl) (pe_op op_add (pe_op op_mul pe_int (pe_op op_sub (pe_callB call_abs (by rfl) T.f_abs (by decide +kernel) (pa_cons (pv 4) pa_nil)) (pe_op op_pow pe_int pe_int))) (pe_callTy call_int1 (by rfl) T.f_int (by decide +kernel) (pa_cons (pe_cmpR op_lt (pv 4) pe_int (nomark _)) pa_nil))))
  (pss_cons (ps_asg (pe_op op_fdivN (pe_callTy call_int1 (by rfl) T.f_int (by decide +kernel) (pa_cons (pv 5) pa_nil)) (pv 1)) (pg_sub (pv 0) pe_int set_list))
  (pss_one (ps_ret (pe_op op_modN (pe_callTy call_int1 (by rfl) T.f_int (by decide +kernel) (pa_cons (pv 5) pa_nil)) (pv 1))))))
  pss_nil)
  (pss_cons (ps_set (i := 6) sc.nd rfl (Or.inl rfl) (pe_op op_modN (pe_callTy call_int1 (by rfl) T.f_int (by decide +kernel) (pa_cons (pe_op op_pow (pe_op op_add (pe_op op_add (pe_op op_modN (pe_callTy call_int1 (by rfl) T.f_int (by decide +kernel) (pa_cons (pv 4) pa_nil)) pe_int) (pe_op op_mul pe_int (pv 3))) pe_int) pe_int) pa_nil)) pe_int))
  (pss_cons (ps_set (i := 6) sc.nd rfl (Or.inl rfl) (pe_op op_modN (pe_callTy call_int1 (by rfl) T.f_int (by decide +kernel) (pa_cons (pe_op op_pow (pe_op op_add (pe_op op_add (pe_op op_mul (pv 6) (pe_op op_add (pe_op op_mul pe_int (pv 3)) pe_int)) (pe_op op_mul (pe_op op_mul pe_int (pv 3)) (pv 3))) pe_int) pe_int) pa_nil)) pe_int))
  (pss_one (ps_ret (pe_op op_modN (pe_callTy call_int1 (by rfl) T.f_int (by decide +kernel) (pa_cons (pe_op op_fdivN (pv 6) pe_int) pa_nil)) (pv 1))))))))))))), ?_⟩
    obtain ⟨cells, lap, left, hp, hc, ne, hl, h0, h1, h2⟩ := hP
    -- pen[2] > 0
    refine ⟨_, rfl, p, _, _, _, rfl, rfl, SqL.of hp, rfl, _, _, rfl, rfl, _, rfl, ite2 (fun hpos => ?_) fun hpos => ?_⟩
    · -- a digit of what is left
      refine ⟨_, rfl, p, _, _, _, rfl, rfl, SqL.of hp, rfl, .inl ⟨_, rfl, _, rfl, _, _, rfl, rfl, Int.ne_of_gt hm, ?_⟩⟩
      refine ⟨_, rfl, p, _, _, _, rfl, rfl, SqL.of hp, rfl, .inl ⟨_, rfl, _, rfl, _, _, rfl, rfl, ⟨Int.ne_of_gt hm, by omega⟩, ?_⟩⟩
      refine ⟨_, rfl, p, _, _, 2, rfl, rfl, hp, rfl, _, rfl, ?_⟩
      refine k _ _ (fmod_rng hm).1 (fmod_rng hm).2 ?_ (Kp.at _)
      refine ⟨cells, lap, _, upd_same, ?_, ne, hl, h0, by push_cast; omega, fdiv_nn h2 hm⟩
      rw [upd_ne ne]
      exact hc
    · -- the next cell
      refine ⟨_, rfl, p, _, _, _, rfl, rfl, SqL.of hp, rfl, ?_⟩
      refine ⟨_, rfl, _, _, rfl, rfl, _, rfl, p, _, _, 1, rfl, rfl, hp, rfl, ?_⟩
      refine ⟨_, rfl, _, _, rfl, rfl, .inl (by omega), _, _, rfl, rfl, ?_⟩
      -- if pen[0] != []: cell = ..
      have n1 : upd H p (.lst [.ref c, .int (lap + 1), .int left]) c = some (.lst (cells.map V.int)) := by rw [upd_ne ne]; exact hc
      refine ⟨fun σ' H' => ∃ z : Int, σ' = [some (.ref p), some (.int m), none, some (.int lap), some (.int z), none, none] ∧ Ex (upd H p (.lst [.ref c, .int (lap + 1), .int left])) H', ?_, ?_⟩
      · refine ⟨_, rfl, p, _, _, _, rfl, rfl, SqL.of upd_same, rfl, by show 0 ≤ sizeLine; decide, fun q hq => ?_⟩
        have e1 := Evl.Ex.new (o := .lst []) hq
        refine ne_nil (SqL.of (e1 _ _ n1)) upd_same ⟨_, rfl, ?_⟩
        cases hcl : cells with
        | nil => exact iteF ⟨_, rfl, e1⟩
        | cons z zs =>
          refine iteT ?_
          rw [hcl] at n1
          have hpos : (0 : Int) < ((z :: zs).length : Int) := by rw [List.length_cons]; omega
          have hlen : ((((z :: zs).map V.int).length : Nat) : Int) = ((z :: zs).length : Int) := by rw [List.length_map]
          have hr := fmod_rng (i := lap) hpos
          obtain ⟨j, hj⟩ : ∃ j : Nat, lap.fmod ((z :: zs).length : Int) = (j : Int) := ⟨(lap.fmod ((z :: zs).length : Int)).toNat, by omega⟩
          have hjl : j < (z :: zs).length := by omega
          have hat : ((z :: zs).map V.int)[j]? = some (V.int (z :: zs)[j]) := by rw [List.getElem?_map, List.getElem?_eq_getElem hjl]; rfl
          refine ⟨_, rfl, p, _, _, _, rfl, rfl, SqL.of (e1 _ _ upd_same), rfl, _, rfl, .inl ⟨_, rfl, _, rfl, p, _, _, _, rfl, rfl, SqL.of (e1 _ _ upd_same), rfl, c, _, rfl, .inl (SqL.of (e1 _ _ n1)), ?_⟩⟩
          refine ⟨_, _, rfl, rfl, by rw [hlen]; omega, c, _, _, _, rfl, rfl, SqL.of (e1 _ _ n1), by rw [hlen, hj]; exact atI_nat hat, ?_⟩
          exact ⟨_, rfl, e1⟩
      rintro σ' H' ⟨z, rfl, e2⟩
      have hp2 := e2 p _ upd_same
      have hc2 := e2 c _ n1
      have kp2 : Kp p H H' := (Kp.at _).trans (Kp.of e2)
      have big : (10 : Int) ^ (18 : Int).toNat = 1000000000000000000 := by decide
      -- a great cell
      have pen2 : ∀ {g : Int}, 0 ≤ g → ∀ H2, H2 = upd H' p (.lst [.ref c, .int (lap + 1), .int (g.fdiv m)]) → PenAt H2 p c (n + 1) ∧ Kp p H H2 := fun {g} hg H2 e => by
        subst e
        refine ⟨⟨cells, _, _, upd_same, ?_, ne, hl, by omega, by push_cast; omega, fdiv_nn hg hm⟩, kp2.trans (Kp.at _)⟩
        rw [upd_ne ne]
        exact hc2
      refine ⟨fun σ' H'' => σ' = [some (.ref p), some (.int m), none, some (.int lap), some (.int z), none, none] ∧ H'' = H', ?_, ?_⟩
      refine ⟨_, rfl, _, rfl, p, _, _, _, rfl, rfl, SqL.of hp2, rfl, c, _, rfl, .inl (SqL.of hc2), _, _, rfl, rfl, _, rfl, ite2 (fun hlt => ?_) fun hlt => ?_⟩
      · refine ⟨_, rfl, _, rfl, _, _, rfl, rfl, ⟨by decide, by decide, by decide⟩, _, _, rfl, rfl, _, rfl, ite2 (fun hge => ?_) fun hge => ?_⟩
        · have hge := of_decide_eq_true hge
          rw [big] at hge
          refine ⟨_, rfl, _, rfl, _, _, rfl, rfl, ⟨by decide, by decide, by decide⟩, _, _, rfl, rfl, _, _, rfl, rfl, .inl (by omega), ?_⟩
          refine ⟨_, rfl, _, _, rfl, rfl, .inr ⟨_, rfl, _, _, rfl, rfl, ?_⟩⟩
          rw [big]
          have hg : 0 ≤ 2 * ((if z < 0 then -z else z) - 1000000000000000000) + (if decide (z < 0) = true then 1 else 0) := by
            split <;> split at hge <;> simp_all <;> omega
          refine ⟨_, rfl, .inl ⟨_, rfl, _, rfl, _, _, rfl, rfl, ⟨Int.ne_of_gt hm, by omega⟩, ?_⟩⟩
          refine ⟨_, rfl, p, _, _, 2, rfl, rfl, hp2, rfl, ?_⟩
          refine ⟨_, rfl, .inl ⟨_, rfl, _, rfl, _, _, rfl, rfl, Int.ne_of_gt hm, ?_⟩⟩
          obtain ⟨g1, g2⟩ := pen2 hg _ rfl
          exact k _ _ (fmod_rng hm).1 (fmod_rng hm).2 g1 g2
        · exact ⟨rfl, rfl⟩
      · exact ⟨rfl, rfl⟩
      -- mixed
      rintro σ' H'' ⟨rfl, rfl⟩
      have r1 := fmod_rng (i := z) (j := 2147483549) (by decide)
      refine ⟨_, rfl, .inl ⟨_, rfl, _, _, rfl, rfl, (by decide : (2147483549 : Int) ≠ 0), _, rfl, _, _, rfl, rfl, .inl (by decide), _, _, rfl, rfl, _, _, rfl, rfl, _, _, rfl, rfl, ⟨by decide, by decide, mix_small r1.1 r1.2 h0 (by omega)⟩, ?_⟩⟩
      refine .inl ⟨_, rfl, _, _, rfl, rfl, (by decide : (2147483629 : Int) ≠ 0), ?_⟩
      have r2 := fmod_rng (i := (z.fmod 2147483549 + 7919 * lap + 41143) ^ (5 : Int).toNat) (j := 2147483629) (by decide)
      refine ⟨_, rfl, _, rfl, _, _, rfl, rfl, .inl (by decide), _, _, rfl, rfl, _, _, rfl, rfl, .inl (by omega), ?_⟩
      refine ⟨_, rfl, _, _, rfl, rfl, .inl (by decide), _, rfl, _, _, rfl, rfl, .inl (by omega), _, _, rfl, rfl, _, _, rfl, rfl, _, _, rfl, rfl, ⟨by decide, by decide, mix_small2 r2.1 r2.2 h0 (by omega)⟩, ?_⟩
      refine .inl ⟨_, rfl, _, _, rfl, rfl, (by decide : (2147483587 : Int) ≠ 0), ?_⟩
      have r3 := fmod_rng (i := (((z.fmod 2147483549 + 7919 * lap + 41143) ^ (5 : Int).toNat).fmod 2147483629 * (2 * lap + 25237) + 7919 * lap * lap + 41143) ^ (3 : Int).toNat) (j := 2147483587) (by decide)
      refine ⟨_, rfl, _, _, rfl, rfl, ⟨by decide, by decide⟩, .inl ⟨_, rfl, _, rfl, _, _, rfl, rfl, Int.ne_of_gt hm, ?_⟩⟩
      refine k _ _ (fmod_rng hm).1 (fmod_rng hm).2 ⟨cells, _, _, hp2, hc2, ne, hl, by omega, by push_cast; omega, h2⟩ kp2
end
end K00

set_option Elab.async false
set_option linter.all false
set_option maxRecDepth 100000
set_option maxHeartbeats 4000000
namespace K00
open PySem PySem.Spec PyProof.Rows L2 Cw
section
variable {P : Program} {w : World} {K : PySem.W.Frag} {mg : Str → Option Value} {base : Heap}
/-! ### is_listed, fixed -/
theorem sc_listed : FnScope ["value"] ["value"] (defScope s_is_listed) := ⟨rfl, rfl, rfl, by decide +kernel, rfl, by decide +kernel, by decide +kernel⟩
theorem ok_listed (T : Tx K mg base) : FnOk P w K mg base CX0 1 (a_is_listed K) (fdAt K (a_is_listed K)) ["value"] (spListed K) := by
  refine T.F_is_listed.ok sc_listed (fun vs H Q E h => ?_) (fun cdv A outer s H vs Q E hr h => ?_)
  · obtain ⟨v, F, d, rfl, _⟩ := h
    rfl
  · obtain ⟨v, F, d, rfl, r, e, k⟩ := h
    have sc := sc_listed
    refine ⟨_, PSs.nox ((pss_one (ps_ret (pe_callB call_isiT (by rfl) T.f_isinstance (by decide +kernel) (pa_cons (pv 0) (pa_cons (pe_tup (pa_cons (pe_bltn (v := .ty "list") (by rfl) T.f_list (by decide +kernel) rfl) (pa_cons (pe_bltn (v := .ty "tuple") (by rfl) T.f_tuple (by decide +kernel) rfl) pa_nil))) pa_nil)))))), ?_⟩
    refine ⟨_, rfl, by show 2 ≤ sizeLine; decide, fun p hp => ?_⟩
    refine isi2 r (e.trans (Evl.Ex.new hp)) upd_same (kitB_D d (by simp)) (kitB_D d (by simp)) ?_
    have q := k _ (Evl.Ex.new (o := .tup [.ty "list", .ty "tuple"]) hp)
    have e2 : (kitD d "list" || kitD d "tuple") = isSeq d := by cases d <;> rfl
    rw [e2]
    exact q
abbrev N_fixed : List Str := ["value", "one"]
theorem sc_fixed : FnScope ["value", "one"] ["value"] (defScope s_fixed) := ⟨rfl, rfl, rfl, by decide +kernel, rfl, by decide +kernel, by decide +kernel⟩
theorem ok_fixed (T : Tx K mg base) : ∀ n : Nat, FnOk P w K mg base CX0 (n + 2) (a_fixed K) (fdAt K (a_fixed K)) ["value"] (spData K fixedD n) := by
  intro n
  have GL : FnOk P w K mg base CX0 1 (a_is_listed K) (fdAt K (a_is_listed K)) ["value"] (spListed K) := ok_listed T
  induction n with
  | zero =>
    refine T.F_fixed.ok sc_fixed (fun vs H Q E h => ?_) (fun cdv A outer s H vs Q E hr h => ?_)
    · obtain ⟨v, F, d, rfl, _⟩ := h
      rfl
    · obtain ⟨v, F, d, rfl, r, e, hn, ho, k⟩ := h
      have sc := sc_fixed
      refine ⟨_, PSs.nox ((pss_cons (ps_if (pt_val (pe_call GL (hr.mono (by decide)) (by rfl) T.m_is_listed T.k_is_listed T.b_is_listed .nil pass0 (pa_cons (pv 0) pa_nil)))
  (pss_one (ps_never))
  pss_nil)
  (pss_one (ps_ret (pv 0))))), ?_⟩
      refine ⟨_, rfl, v, F, d, rfl, r, e, fun H1 e1 => ⟨_, rfl, ?_⟩⟩
      cases hs : isSeq d with
      | true => rw [depth_seq hs] at hn; omega
      | false =>
        refine iteF ⟨_, rfl, ?_⟩
        refine k _ _ F e1 (Evl.Ex.refl F) (e.trans e1) (New.refl _ _) ?_
        rw [fixedD_no hs]
        exact r
  | succ n ih =>
    refine T.F_fixed.ok sc_fixed (fun vs H Q E h => ?_) (fun cdv A outer s H vs Q E hr h => ?_)
    · obtain ⟨v, F, d, rfl, _⟩ := h
      rfl
    · obtain ⟨v, F, d, rfl, r, e, hn, ho, k⟩ := h
      have sc := sc_fixed
      refine ⟨_, PSs.nox ((pss_cons (ps_if (pt_val (pe_call GL (hr.mono (by omega)) (by rfl) T.m_is_listed T.k_is_listed T.b_is_listed .nil pass0 (pa_cons (pv 0) pa_nil)))
  (pss_one (ps_ret (pe_callTy call_tuple_of (by rfl) T.f_tuple (by decide +kernel) (pa_cons (pe_lc (own := [("one", 1)]) rfl sc.nd (pi_seq (pv 0)) (blkOk_by (N := ["value", "one"]) (sc := defScope s_fixed) (by decide +kernel)) (fun _ _ _ _ _ => (pg_name (i := 1) sc.nd rfl (Or.inl rfl) (Or.inr rfl))) (fun _ _ _ _ _ => pts_nil) (fun _ _ _ _ _ => (pe_call ih hr (by rfl) T.m_fixed T.k_fixed T.b_fixed .nil pass0 (pa_cons (pv 1) pa_nil)))) pa_nil))))
  pss_nil)
  (pss_one (ps_ret (pv 0))))), ?_⟩
      refine ⟨_, rfl, v, F, d, rfl, r, e, fun H1 e1 => ⟨_, rfl, ?_⟩⟩
      cases hs : isSeq d with
      | false =>
        refine iteF ⟨_, rfl, ?_⟩
        refine k _ _ F e1 (Evl.Ex.refl F) (e.trans e1) (New.refl _ _) ?_
        rw [fixedD_no hs]
        exact r
      | true =>
        refine iteT ?_
        obtain ⟨a, xs, rfl, hx, rx⟩ := r.seq hs
        obtain ⟨hl, hok⟩ := okD_seq ho hs
        have hlx := rx.length
        refine go_ret (go_cb1 (lc_data (F1 := F) (H1 := H1) (m := fun i => fixedD ((itemsD d).getD i .none)) ?hl hx (e.trans e1) (by omega) ?hw ?turn ?k))
        case hl => exact fun R q => ⟨_, rfl, q⟩
        case hw => exact fun x => rfl
        case turn =>
          intro i x F2 H2 Qy hi f1 f2 f3 kk
          obtain ⟨dx, hdx, rdx⟩ := rx.get hi
          have hdepth := depthAll_get hdx
          refine ⟨_, rfl, _, F2, dx, rfl, rdx.mono f1, f2, by rw [depth_seq hs] at hn; omega, okAll_get hok hdx, fun y H4 F4 g1 g2 g3 g4 g5 => kk y H4 F4 g1 g2 g3 g4 ?_⟩
          rw [List.getD_eq_getElem?_getD, hdx]
          exact g5
        case k =>
          intro D ys F2 H2 hD hD1 hly ry f1 f2 f3 f4 f5
          refine ⟨D, ys, rfl, .inl ⟨SqL.of hD, fun l hl2 => ?_⟩⟩
          have e2 := Evl.Ex.new (o := .tup ys) hl2
          refine k _ _ (upd F2 l (.tup ys)) ((e1.trans f3).trans e2) (f1.trans (ex_updF (fresh_in f2 hl2))) (ex_upd2 f2) ?_ ?_
          · refine New.trans (f4.trans' e1) (fun b hb => ex_back (e1.trans f3) b hb) (New.upd (H := H2) hl2)
          · rw [fixedD_seq hs]
            refine .tup (SqT.of upd_same) ((?_ : RpA K F2 ys _).mono (ex_updF (fresh_in f2 hl2)))
            rw [hlx, range_map_get] at ry
            exact ry
end
end K00

set_option Elab.async false
set_option linter.all false
set_option maxRecDepth 100000
set_option maxHeartbeats 4000000
namespace K00
open PySem PySem.Spec PyProof.Rows L2 Cw
section
variable {P : Program} {w : World} {K : PySem.W.Frag} {mg : Str → Option Value} {base : Heap}
def spLike (K : PySem.W.Frag) (n : Nat) : Sp := fun vs H Q _ => ∃ v u d e, vs = [v, u] ∧ Rp K H v d ∧ Rp K H u e ∧ d.depth ≤ n ∧ okD d = true ∧ okD e = true ∧ ∀ H', Ex H H' → Q (.bl (likeD d e)) H'
abbrev N_like : List Str := ["one", "other", "mine", "its", "name"]
theorem sc_like : FnScope N_like ["one", "other"] (defScope s_is_like) := ⟨rfl, rfl, rfl, by decide +kernel, rfl, by decide +kernel, by decide +kernel⟩
theorem ok_like (T : Tx K mg base) (n : Nat) (G : ∀ m, m < n → FnOk P w K mg base CX0 (m + 1) (a_is_like K) (fdAt K (a_is_like K)) ["one", "other"] (spLike K m)) :
    FnOk P w K mg base CX0 (n + 1) (a_is_like K) (fdAt K (a_is_like K)) ["one", "other"] (spLike K n) := by
  refine T.F_is_like.ok sc_like (fun vs H Q E h => ?_) (fun cdv A outer s H vs Q E hr h => ?_)
  · obtain ⟨v, u, d, e, rfl, _⟩ := h
    rfl
  · obtain ⟨v, u, d, e, rfl, r1, r2, hn, o1, o2, k⟩ := h
    have sc := sc_like
    -- the calls below, at the level of the parts
    have G' : FnOk P w K mg base CX0 n (a_is_like K) (fdAt K (a_is_like K)) ["one", "other"] (fun vs H Q E => 0 < n ∧ spLike K (n - 1) vs H Q E) := by
      cases n with
      | zero => exact ⟨fun vs H Q E h => absurd h.1 (Nat.lt_irrefl 0), fun A outer s H args us vs Q E _ _ _ _ h => absurd h.1 (Nat.lt_irrefl 0)⟩
      | succ n => exact (G n (Nat.lt_succ_self n)).imp fun vs H Q E h => h.2
    refine ⟨_, PSs.nox ((pss_cons (ps_if (PW.pt (pw_or (PW.pt (pw_and (pt_val (pe_callB call_isi (by rfl) T.f_isinstance (by decide +kernel) (pa_cons (pv 0) (pa_cons (pe_bltn (v := .ty "tuple") (by rfl) T.f_tuple (by decide +kernel) rfl) pa_nil)))) (pw_and1 (pt_val (pe_callB call_isi (by rfl) T.f_isinstance (by decide +kernel) (pa_cons (pv 1) (pa_cons (pe_bltn (v := .ty "tuple") (by rfl) T.f_tuple (by decide +kernel) rfl) pa_nil))))))) (pw_or1 (PW.pt (pw_and (pt_val (pe_callB call_isi (by rfl) T.f_isinstance (by decide +kernel) (pa_cons (pv 0) (pa_cons (pe_bltn (v := .ty "list") (by rfl) T.f_list (by decide +kernel) rfl) pa_nil)))) (pw_and1 (pt_val (pe_callB call_isi (by rfl) T.f_isinstance (by decide +kernel) (pa_cons (pv 1) (pa_cons (pe_bltn (v := .ty "list") (by rfl) T.f_list (by decide +kernel) rfl) pa_nil))))))))))
  (pss_one (ps_ret (pe_and (pe_cmpR op_eq (pe_callB call_len_seq (by rfl) T.f_len (by decide +kernel) (pa_cons (pv 0) pa_nil)) (pe_callB call_len_seq (by rfl) T.f_len (by decide +kernel) (pa_cons (pv 1) pa_nil)) (nomark _)) (pe_one (pe_callB (cr_all rfl) (by rfl) T.f_all (by decide +kernel) (pa_cons (pe_lc (own := [("mine", 2), ("its", 3)]) rfl sc.nd (RZ.pi_zipA (by rfl) T.f_zip (pa_cons (pv 0) (pa_cons (pv 1) pa_nil))) (blkOk_by (N := ["one", "other", "mine", "its", "name"]) (sc := defScope s_is_like) (by decide +kernel)) (fun _ _ _ _ _ => (pgTup K (n := 2) rfl (pgs_cons (pg_name (i := 2) sc.nd rfl (Or.inl rfl) (Or.inr rfl)) (pgs_cons (pg_name (i := 3) sc.nd rfl (Or.inl rfl) (Or.inr rfl)) pgs_nil)))) (fun _ _ _ _ _ => pts_nil) (fun _ _ _ _ _ => (pe_call G' hr (by rfl) T.m_is_like T.k_is_like T.b_is_like .nil pass0 (pa_cons (pv 2) (pa_cons (pv 3) pa_nil))))) pa_nil))))))
  pss_nil)
  (pss_cons (ps_if (PW.pt (pw_and (pt_val (pe_callB call_isi (by rfl) T.f_isinstance (by decide +kernel) (pa_cons (pv 0) (pa_cons (pe_bltn (v := .ty "dict") (by rfl) T.f_dict (by decide +kernel) rfl) pa_nil)))) (pw_and1 (pt_val (pe_callB call_isi (by rfl) T.f_isinstance (by decide +kernel) (pa_cons (pv 1) (pa_cons (pe_bltn (v := .ty "dict") (by rfl) T.f_dict (by decide +kernel) rfl) pa_nil)))))))
  (pss_one (ps_ret (pe_and (pe_cmpR (op_eqD hr.units) (pe_callTy (call_keysL rfl) (by rfl) T.f_list (by decide +kernel) (pa_cons (pv 0) pa_nil)) (pe_callTy (call_keysL rfl) (by rfl) T.f_list (by decide +kernel) (pa_cons (pv 1) pa_nil)) (nomark _)) (pe_one (pe_callB (cr_all rfl) (by rfl) T.f_all (by decide +kernel) (pa_cons (pe_lockIf (pe_lc (own := [("name", 4)]) rfl sc.nd (pi_keys (pv 0)) (blkOk_by (N := ["one", "other", "mine", "its", "name"]) (sc := defScope s_is_like) (by decide +kernel)) (fun _ _ _ _ _ => (pg_name (i := 4) sc.nd rfl (Or.inl rfl))) (fun _ _ _ _ _ => pts_nil) (fun _ _ _ _ _ => pe_call G' hr (by rfl) T.m_is_like T.k_is_like T.b_is_like .nil pass0 (pa_cons (pe_dget (hu_of hr) (pv 0) (pv 4) (fun _ _ => rfl)) (pa_cons (pe_dget (hu_of hr) (pv 1) (pv 4) (fun _ _ => rfl)) pa_nil))))) pa_nil))))))
  pss_nil)
  (pss_cons (ps_if (PW.pt (pw_or (pt_cmpR op_ne (pe_callB call_isi (by rfl) T.f_isinstance (by decide +kernel) (pa_cons (pv 0) (pa_cons (pe_bltn (v := .ty "bool") (by rfl) T.f_bool (by decide +kernel) rfl) pa_nil))) (pe_callB call_isi (by rfl) T.f_isinstance (by decide +kernel) (pa_cons (pv 1) (pa_cons (pe_bltn (v := .ty "bool") (by rfl) T.f_bool (by decide +kernel) rfl) pa_nil))) (nomark _)) (pw_or1 (pt_cmpR op_ne (pe_callB call_isi (by rfl) T.f_isinstance (by decide +kernel) (pa_cons (pv 0) (pa_cons (pe_bltn (v := .ty "int") (by rfl) T.f_int (by decide +kernel) rfl) pa_nil))) (pe_callB call_isi (by rfl) T.f_isinstance (by decide +kernel) (pa_cons (pv 1) (pa_cons (pe_bltn (v := .ty "int") (by rfl) T.f_int (by decide +kernel) rfl) pa_nil))) (nomark _)))))
  (pss_one (ps_ret pe_bl))
  pss_nil)
  (pss_one (ps_ret (pe_callTy call_bool1 (by rfl) T.f_bool (by decide +kernel) (pa_cons (pe_cmpR (op_eqLeaf hr.units0) (pv 0) (pv 1) (nomark _)) pa_nil)))))))), ?_⟩
    -- both rows of a kind
    have hT : ∀ T : String, (T = "list" ∨ T = "tuple" ∨ T = "dict" ∨ T = "bool" ∨ T = "int" ∨ T = "str") → Evl.Ev (tCB (rIsi K) (tCons (tVar 0) (tCons (tC (.ty T)) tNil))) (start N_like [v, u]) H (.bl (kitD d T)) := fun T h => ev_isi r1 rfl h
    have hU : ∀ T : String, (T = "list" ∨ T = "tuple" ∨ T = "dict" ∨ T = "bool" ∨ T = "int" ∨ T = "str") → Evl.Ev (tCB (rIsi K) (tCons (tVar 1) (tCons (tC (.ty T)) tNil))) (start N_like [v, u]) H (.bl (kitD e T)) := fun T h => ev_isi r2 rfl h
    refine Evl.q_when (b := (kitD d "tuple" && kitD e "tuple") || (kitD d "list" && kitD e "list")) (Evl.et_or (Evl.et_and (Evl.et_B (hT _ (by simp))) fun _ => Evl.et_B (hU _ (by simp))) fun _ => Evl.et_and (Evl.et_B (hT _ (by simp))) fun _ => Evl.et_B (hU _ (by simp))) (fun hb H1 e1 => ?_) fun hb H1 e1 => ?_
    · have both : ∃ (ds es : List PyData) (a b : Addr) (xs ys : List V), v = .ref a ∧ u = .ref b ∧ RpA K H xs ds ∧ RpA K H ys es ∧ d.depth = PyData.depthAll ds + 1 ∧ okAll ds = true ∧ ds.length ≤ 1000 ∧ okAll es = true ∧ es.length ≤ 1000 ∧
          likeD d e = (decide (ds.length = es.length) && likeAll ds es) ∧ ((SqL K H a xs ∧ SqL K H b ys) ∨ (SqT K H a xs ∧ SqT K H b ys)) := by
        rcases kit_seq hb with ⟨ds, es, rfl, rfl⟩ | ⟨ds, es, rfl, rfl⟩
        · cases r1 with
          | tup h1 t1 => cases r2 with
            | tup h2 t2 =>
              obtain ⟨p1, p2⟩ := okD_seq o1 rfl
              obtain ⟨q1, q2⟩ := okD_seq o2 rfl
              exact ⟨ds, es, _, _, _, _, rfl, rfl, t1, t2, depth_seq rfl, p2, p1, q2, q1, by simp only [likeD], .inr ⟨h1, h2⟩⟩
        · cases r1 with
          | lst h1 t1 => cases r2 with
            | lst h2 t2 =>
              obtain ⟨p1, p2⟩ := okD_seq o1 rfl
              obtain ⟨q1, q2⟩ := okD_seq o2 rfl
              exact ⟨ds, es, _, _, _, _, rfl, rfl, t1, t2, depth_seq rfl, p2, p1, q2, q1, by simp only [likeD], .inl ⟨h1, h2⟩⟩
      obtain ⟨ds, es, a, b, xs, ys, rfl, rfl, rx, ry, hdep, okd, lend, oke, lene, hlike, hsq⟩ := both
      have hlx := rx.length
      have hly := ry.length
      have e2 : decide (V.int (xs.length : Int) = V.int (ys.length : Int)) = decide (ds.length = es.length) := by
        rw [dec_int, hlx, hly]
        rw [Bool.eq_iff_iff]
        simp only [beq_iff_eq, decide_eq_true_eq]
        omega
      have hlen1 : ∀ H2, Ex H1 H2 → ∀ (Q2 : VK), (∀ H3, Ex H2 H3 → Q2 (.int (xs.length : Int)) H3) → ∃ p zs, ([.ref a] : List V) = [.ref p] ∧ (SqL K H2 p zs ∨ SqT K H2 p zs) ∧ Q2 (.int (zs.length : Int)) H2 := fun H2 f Q2 q => ⟨a, xs, rfl, hsq.elim (fun h => .inl (Evl.ex_l (e1.trans f) h.1)) (fun h => .inr (Evl.ex_t (e1.trans f) h.1)), q H2 (Evl.Ex.refl _)⟩
      have hlen2 : ∀ H2, Ex H1 H2 → ∀ (Q2 : VK), (∀ H3, Ex H2 H3 → Q2 (.int (ys.length : Int)) H3) → ∃ p zs, ([.ref b] : List V) = [.ref p] ∧ (SqL K H2 p zs ∨ SqT K H2 p zs) ∧ Q2 (.int (zs.length : Int)) H2 := fun H2 f Q2 q => ⟨b, ys, rfl, hsq.elim (fun h => .inl (Evl.ex_l (e1.trans f) h.2)) (fun h => .inr (Evl.ex_t (e1.trans f) h.2)), q H2 (Evl.Ex.refl _)⟩
      refine Evl.s_ret (v := .bl (decide (ds.length = es.length) && likeAll ds es)) (Evl.ev_andV (Evl.ev_is (Evl.ev_op (Evl.ev_cb (Evl.ea_cons (Evl.ev_var rfl) Evl.ea_nil) hlen1) (Evl.ev_cb (Evl.ea_cons (Evl.ev_var rfl) Evl.ea_nil) hlen2) (Evl.rv_eq rfl)) (by rw [e2])) fun hle => ?_) fun H2 e3 => ?_
      · have hle : ds.length = es.length := by simpa using hle
        intro H2 e3 Q2 q2
        have hmin : ds.length = min xs.length ys.length := by omega
        have turn : ∀ (H3 : Hp), Ex H2 H3 → ∀ (i : Nat) (x : V) (H4 H5 : Hp) (Qy : VK), i < ds.length → Ex H3 H4 → YPair (fun i => xs[i]?) (fun i => ys[i]?) i H4 x H5 → (∀ H6, Ex H4 H6 → Qy (.bl (likeD (ds.getD i .none) (es.getD i .none))) H6) →
            gTup K 2 (gCons (gName 2) (gCons (gName 3) gNil)) x (wipe (start N_like [.ref a, .ref b]) [2, 3]) H5 fun σ2 H6 => wipe σ2 [2, 3] = wipe (start N_like [.ref a, .ref b]) [2, 3] ∧ tCall (fun vs H Q E => 0 < n ∧ spLike K (n - 1) vs H Q E) [] E0 (tCons (tVar 2) (tCons (tVar 3) tNil)) σ2 H6 Qy := by
          intro H3 e4 i x H4 H5 Qy hi e5 y kk
          obtain ⟨T0, x1, y1, rfl, hT0, rfl, hx1, hy1⟩ := y
          obtain ⟨d1, hd1, rd1⟩ := rx.get hx1
          obtain ⟨d2, hd2, rd2⟩ := ry.get hy1
          have em : Ex H (upd H4 T0 (.tup [x1, y1])) := (((e1.trans e3).trans e4).trans e5).trans (Evl.Ex.new hT0)
          refine ⟨T0, [x1, y1], rfl, SqT.of upd_same, rfl, x1, _, rfl, y1, _, rfl, rfl, rfl, x1, rfl, y1, rfl, by omega, x1, y1, d1, d2, rfl, rd1.mono em, rd2.mono em, by have := depthAll_get hd1; omega, okAll_get okd hd1, okAll_get oke hd2, fun H7 e7 => ?_⟩
          have := kk H7 ((Evl.Ex.new hT0).trans e7)
          rwa [List.getD_eq_getElem?_getD, List.getD_eq_getElem?_getD, hd1, hd2] at this
        have fin : ∀ (H3 : Hp), Ex H2 H3 → ∀ D H4, H3 D = none → H4 D = some (.lst ((List.range ds.length).map fun i => V.bl (likeD (ds.getD i .none) (es.getD i .none)))) → Ex H3 H4 → rAll K [.ref D] H4 Q2 := by
          intro H3 e4 D H4 hD hD1 e5
          refine ⟨D, (List.range ds.length).map fun i => likeD (ds.getD i .none) (es.getD i .none), rfl, ?_, ?_⟩
          · rw [List.map_map]
            exact SqL.of hD1
          · rw [← likeAll_range ds es hle]
            exact q2 H4 (e4.trans e5)
        refine go_cb1 ⟨.ref a, rfl, .ref b, rfl, a, b, xs, ys, rfl, ?_⟩
        rcases hsq with ⟨h1, h2⟩ | ⟨h1, h2⟩
        · exact .inl ⟨Evl.ex_l (e1.trans e3) h1, Evl.ex_l (e1.trans e3) h2, lc_vals (Q := fun x H3 => rAll K [x] H3 Q2) (walk_zip hmin) (fun i => .bl (likeD (ds.getD i .none) (es.getD i .none))) (by omega) (fun H4 e4 => ⟨Evl.ex_l ((e1.trans e3).trans e4) h1, Evl.ex_l ((e1.trans e3).trans e4) h2⟩) (turn H2 (Evl.Ex.refl _)) (fin H2 (Evl.Ex.refl _))⟩
        · exact .inr ⟨Evl.ex_t (e1.trans e3) h1, Evl.ex_t (e1.trans e3) h2, lc_vals (Q := fun x H3 => rAll K [x] H3 Q2) (walk_zipT hmin) (fun i => .bl (likeD (ds.getD i .none) (es.getD i .none))) (by omega) (fun H4 e4 => ⟨Evl.ex_t ((e1.trans e3).trans e4) h1, Evl.ex_t ((e1.trans e3).trans e4) h2⟩) (turn H2 (Evl.Ex.refl _)) (fin H2 (Evl.Ex.refl _))⟩
      · have := k H2 (e1.trans e3)
        rwa [hlike] at this
    · refine Evl.q_when (b := (kitD d "dict" && kitD e "dict")) (Evl.et_and (Evl.et_B ((hT _ (by simp)).mono e1)) fun _ => Evl.et_B ((hU _ (by simp)).mono e1)) (fun hb2 H2 e2 => ?_) fun hb2 H2 e2 => ?_
      · obtain ⟨ds, es, rfl, rfl⟩ := kit_dict hb2
        simp only [okD, Bool.and_eq_true] at o1 o2
        obtain ⟨a, vx, vy, d1, d2, rfl, hra, r11, r12, rfl⟩ := r1.dict2 o1.1
        obtain ⟨b, ux, uy, f1, f2, rfl, hrb, r21, r22, rfl⟩ := r2.dict2 o2.1
        have ok1 := okKv_two o1.2
        have ok2 := okKv_two o2.2
        rw [depthKv_two] at hn
        have hlike : likeD (.dict [(.str "a", d1), (.int 1, d2)]) (.dict [(.str "a", f1), (.int 1, f2)]) = ([likeD d1 f1, likeD d2 f2].all id) := by
          simp only [likeD, likeKv, List.all_cons, List.all_nil, id, Bool.and_true]
        have e12 := e1.trans e2
        have hcomp : ∀ (H3 : Hp) (o : Obj) (Q3 : VK), Le H H3 → H3 a = some (.frz o (.dK [(kA, vx), (k1, vy)])) → (∀ D H4, H3 D = none → H4 D = some (.lst ([likeD d1 f1, likeD d2 f2].map V.bl)) → Ex H3 H4 → Q3 (.ref D) H4) →
            tLc (iKeys (tVar 0)) (gName 4) tYes (tCall (fun vs H Q E => 0 < n ∧ spLike K (n - 1) vs H Q E) [] E0 (tCons (tDGet (tVar 0) (tVar 4)) (tCons (tDGet (tVar 1) (tVar 4)) tNil))) [4] (start N_like [.ref a, .ref b]) H3 Q3 := by
          intro H3 o Q3 le h3 k3
          refine ⟨.ref a, rfl, a, o, rfl, .inl ⟨_, h3, lc_vals (Q := Q3) walk_keysR (fun i => .bl ([likeD d1 f1, likeD d2 f2].getD i true)) (by show 2 ≤ 100000; decide) (fun H4 e4 => e4 _ _ h3) ?_ fun D H4 h4 h5 e4 => k3 D H4 h4 h5 e4⟩⟩
          intro i x H4 H5 Qy hi e5 y kk
          obtain ⟨rfl, k', v', hk, rfl⟩ := y
          have le5 : Le H H5 := le.trans (.ex e5)
          match i, hi with
          | 0, _ =>
            obtain ⟨rfl, rfl⟩ : kA = k' ∧ vx = v' := by simpa using hk
            exact ⟨rfl, .ref a, rfl, kV kA, rfl, a, vx, rfl, .inl ⟨_, kA, le5 _ _ hra, rfl, rfl⟩, .ref b, rfl, kV kA, rfl, b, ux, rfl, .inl ⟨_, kA, le5 _ _ hrb, rfl, rfl⟩, by omega, vx, ux, d1, f1, rfl, r11.le le5, r21.le le5, by omega, ok1.1, ok2.1, fun H7 e7 => kk H7 e7⟩
          | 1, _ =>
            obtain ⟨rfl, rfl⟩ : k1 = k' ∧ vy = v' := by simpa using hk
            exact ⟨rfl, .ref a, rfl, kV k1, rfl, a, vy, rfl, .inl ⟨_, k1, le5 _ _ hra, rfl, rfl⟩, .ref b, rfl, kV k1, rfl, b, uy, rfl, .inl ⟨_, k1, le5 _ _ hrb, rfl, rfl⟩, by omega, vy, uy, d2, f2, rfl, r12.le le5, r22.le le5, by omega, ok1.2, ok2.2, fun H7 e7 => kk H7 e7⟩
        refine Evl.s_ret (v := .bl (true && [likeD d1 f1, likeD d2 f2].all id)) (Evl.ev_andV (fun H3 e3 Q3 q3 => ?_) fun _ H3 e3 Q3 q3 => ?_) fun H3 e3 => ?_
        · refine go_op ⟨.ref a, rfl, a, _, rfl, Evl.ex_rd (e12.trans e3) hra, fun p hp => ⟨.ref b, rfl, b, _, rfl, Evl.ex_rd ((e12.trans e3).trans (Evl.Ex.new hp)) hrb, fun q hq => ?_⟩⟩
          refine ⟨.list [.str "a", .int 1], .list [.str "a", .int 1], .lst (SqL.of (xs := [V.str "a", .int 1]) (by rw [upd_ne (fun e => by subst e; rw [upd_same] at hq; cases hq)]; exact upd_same)) (.cons (.str _) (.cons (.int _) .nil)), .lst (SqL.of (xs := [V.str "a", .int 1]) upd_same) (.cons (.str _) (.cons (.int _) .nil)), shaped_keys, shaped_keys, ?_⟩
          exact q3 _ ((Evl.Ex.new hp).trans (Evl.Ex.new hq))
        · refine go_cb1 ?_
          have e13 := e12.trans e3
          rcases Evl.ex_rd e13 hra with ha | ⟨o, ha⟩
          · refine .inr ⟨a, _, ha, trivial, fun od => hcomp _ od _ ((Le.ex e13).trans (Le.lock ha trivial)) upd_same fun D H4 h4 h5 e4 => ⟨e4 _ _ upd_same, ?_⟩⟩
            have hne : D ≠ a := fun e => by subst e; rw [upd_same] at h4; cases h4
            refine ⟨D, _, rfl, SqL.of (by rw [upd_ne hne]; exact h5), q3 _ fun c w hc => ?_⟩
            by_cases ec : c = a
            · subst ec
              rw [ha] at hc
              cases hc
              exact upd_same
            · rw [upd_ne ec]
              exact e4 _ _ (by rw [upd_ne ec]; exact hc)
          · exact .inl (hcomp _ o _ (Le.ex e13) ha fun D H4 h4 h5 e4 => ⟨D, _, rfl, SqL.of h5, q3 _ e4⟩)
        · have := k H3 (e12.trans e3)
          rwa [hlike] at this
      · rw [kit_t, kit_t, kit_l, kit_l] at hb
        rw [kit_d, kit_d] at hb2
        have e12 := e1.trans e2
        have w1 := hT "bool" (by simp)
        have w2 := hU "bool" (by simp)
        have w3 := hT "int" (by simp)
        have w4 := hU "int" (by simp)
        rw [kit_b] at w1 w2
        rw [kit_i] at w3 w4
        refine Evl.q_when (b := (!decide (V.bl (isB d) = V.bl (isB e))) || (!decide (V.bl (isI d) = V.bl (isI e)))) (Evl.et_or (Evl.et_test (Evl.ev_op (w1.mono e12) (w2.mono e12) (Evl.rv_ne rfl))) fun _ => Evl.et_test (Evl.ev_op (w3.mono e12) (w4.mono e12) (Evl.rv_ne rfl))) (fun hb3 H3 e3 => ?_) fun hb3 H3 e3 => ?_
        · refine Evl.s_ret Evl.ev_c fun H4 e4 => ?_
          have := k H4 ((e12.trans e3).trans e4)
          rwa [like_kinds d e hb3] at this
        · obtain ⟨lf, le⟩ := like_leaf d e hb hb2 hb3
          refine Evl.s_ret (v := .bl (likeD d e)) (fun H4 e4 Q4 q4 => ?_) fun H4 e4 => k H4 ((e12.trans e3).trans e4)
          refine go_cb1 (go_op ⟨v, rfl, u, rfl, H, d, e, r1, r2, (e12.trans e3).trans e4, lf, .inr ⟨_, rfl, ?_⟩⟩)
          rw [le]
          exact q4 H4 (Evl.Ex.refl _)
end
end K00

set_option Elab.async false
set_option linter.all false
set_option maxRecDepth 100000
set_option maxHeartbeats 4000000
namespace K00
open PySem PySem.Spec PyProof.Rows L2 Cw NdefX
section
variable {P : Program} {w : World} {K : PySem.W.Frag} {mg : Str → Option Value} {base : Heap}
theorem ns_BadBook : NScope ["self", "part", "__class__"] ["self", "part"] ["__class__"] (C8.fnScope s_BadBook___init__) := nscope_by (by decide +kernel)
theorem ok_BadBook (T : Tx K mg base) (hP : ProgOk P "/claim/cut.py") : FnOk P w K mg base CX0 1 (a_BadBook___init__ K) (fdAt K (a_BadBook___init__ K)) ["self", "part"] (spX1 (He.ga K "BadBook") "part") := by
  refine T.S_BadBook___init__.rule hP ns_BadBook _ rfl rfl (by decide +kernel) (by decide +kernel) (by decide +kernel) T.f_super T.says.opq (fun vs H Q E h => ?_) (fun c cc A outer s H vs Q E hr h S => ?_)
  · obtain ⟨_, _, rfl, _⟩ := h
    rfl
  · obtain ⟨a, v, rfl, ha, k⟩ := h
    have sc := ns_BadBook
    have x := T.x_BadBook
    refine ⟨_, _, psa_exc S (pa_cons (pv 1) pa_nil), (pss_one (ps_ost (pv 0) (pv 1))), ?_⟩
    exact ⟨a, He.ga K "BadBook", rfl, x.oex, x.sup, ha, v, rfl, by simp, ha, v, rfl, .ref a, rfl, a, He.ga K "BadBook", rfl, x.oex, T.n_BadBook_part, .inl ⟨ha, fun dx h1 h2 => k dx h1 h2⟩⟩
theorem ns_BadQuestion : NScope ["self", "part", "__class__"] ["self", "part"] ["__class__"] (C8.fnScope s_BadQuestion___init__) := nscope_by (by decide +kernel)
theorem ok_BadQuestion (T : Tx K mg base) (hP : ProgOk P "/claim/cut.py") : FnOk P w K mg base CX0 1 (a_BadQuestion___init__ K) (fdAt K (a_BadQuestion___init__ K)) ["self", "part"] (spX1 (He.ga K "BadQuestion") "part") := by
  refine T.S_BadQuestion___init__.rule hP ns_BadQuestion _ rfl rfl (by decide +kernel) (by decide +kernel) (by decide +kernel) T.f_super T.says.opq (fun vs H Q E h => ?_) (fun c cc A outer s H vs Q E hr h S => ?_)
  · obtain ⟨_, _, rfl, _⟩ := h
    rfl
  · obtain ⟨a, v, rfl, ha, k⟩ := h
    have sc := ns_BadQuestion
    have x := T.x_BadQuestion
    refine ⟨_, _, psa_exc S (pa_cons (pv 1) pa_nil), (pss_one (ps_ost (pv 0) (pv 1))), ?_⟩
    exact ⟨a, He.ga K "BadQuestion", rfl, x.oex, x.sup, ha, v, rfl, by simp, ha, v, rfl, .ref a, rfl, a, He.ga K "BadQuestion", rfl, x.oex, T.n_BadQuestion_part, .inl ⟨ha, fun dx h1 h2 => k dx h1 h2⟩⟩
theorem ns_BadFile : NScope ["self", "part", "__class__"] ["self", "part"] ["__class__"] (C8.fnScope s_BadFile___init__) := nscope_by (by decide +kernel)
theorem ok_BadFile (T : Tx K mg base) (hP : ProgOk P "/claim/cut.py") : FnOk P w K mg base CX0 1 (a_BadFile___init__ K) (fdAt K (a_BadFile___init__ K)) ["self", "part"] (spX1 (He.ga K "BadFile") "part") := by
  refine T.S_BadFile___init__.rule hP ns_BadFile _ rfl rfl (by decide +kernel) (by decide +kernel) (by decide +kernel) T.f_super T.says.opq (fun vs H Q E h => ?_) (fun c cc A outer s H vs Q E hr h S => ?_)
  · obtain ⟨_, _, rfl, _⟩ := h
    rfl
  · obtain ⟨a, v, rfl, ha, k⟩ := h
    have sc := ns_BadFile
    have x := T.x_BadFile
    refine ⟨_, _, psa_exc S (pa_cons (pv 1) pa_nil), (pss_one (ps_ost (pv 0) (pv 1))), ?_⟩
    exact ⟨a, He.ga K "BadFile", rfl, x.oex, x.sup, ha, v, rfl, by simp, ha, v, rfl, .ref a, rfl, a, He.ga K "BadFile", rfl, x.oex, T.n_BadFile_part, .inl ⟨ha, fun dx h1 h2 => k dx h1 h2⟩⟩
theorem ns_BadValue : NScope ["self", "part", "__class__"] ["self", "part"] ["__class__"] (C8.fnScope s_BadValue___init__) := nscope_by (by decide +kernel)
theorem ok_BadValue (T : Tx K mg base) (hP : ProgOk P "/claim/cut.py") : FnOk P w K mg base CX0 1 (a_BadValue___init__ K) (fdAt K (a_BadValue___init__ K)) ["self", "part"] (spX1 (He.ga K "BadValue") "part") := by
  refine T.S_BadValue___init__.rule hP ns_BadValue _ rfl rfl (by decide +kernel) (by decide +kernel) (by decide +kernel) T.f_super T.says.opq (fun vs H Q E h => ?_) (fun c cc A outer s H vs Q E hr h S => ?_)
  · obtain ⟨_, _, rfl, _⟩ := h
    rfl
  · obtain ⟨a, v, rfl, ha, k⟩ := h
    have sc := ns_BadValue
    have x := T.x_BadValue
    refine ⟨_, _, psa_exc S (pa_cons (pv 1) pa_nil), (pss_one (ps_ost (pv 0) (pv 1))), ?_⟩
    exact ⟨a, He.ga K "BadValue", rfl, x.oex, x.sup, ha, v, rfl, by simp, ha, v, rfl, .ref a, rfl, a, He.ga K "BadValue", rfl, x.oex, T.n_BadValue_part, .inl ⟨ha, fun dx h1 h2 => k dx h1 h2⟩⟩
theorem ns_BadNumber : NScope ["self", "part", "__class__"] ["self", "part"] ["__class__"] (C8.fnScope s_BadNumber___init__) := nscope_by (by decide +kernel)
theorem ok_BadNumber (T : Tx K mg base) (hP : ProgOk P "/claim/cut.py") : FnOk P w K mg base CX0 1 (a_BadNumber___init__ K) (fdAt K (a_BadNumber___init__ K)) ["self", "part"] (spX1 (He.ga K "BadNumber") "part") := by
  refine T.S_BadNumber___init__.rule hP ns_BadNumber _ rfl rfl (by decide +kernel) (by decide +kernel) (by decide +kernel) T.f_super T.says.opq (fun vs H Q E h => ?_) (fun c cc A outer s H vs Q E hr h S => ?_)
  · obtain ⟨_, _, rfl, _⟩ := h
    rfl
  · obtain ⟨a, v, rfl, ha, k⟩ := h
    have sc := ns_BadNumber
    have x := T.x_BadNumber
    refine ⟨_, _, psa_exc S (pa_cons (pv 1) pa_nil), (pss_one (ps_ost (pv 0) (pv 1))), ?_⟩
    exact ⟨a, He.ga K "BadNumber", rfl, x.oex, x.sup, ha, v, rfl, by simp, ha, v, rfl, .ref a, rfl, a, He.ga K "BadNumber", rfl, x.oex, T.n_BadNumber_part, .inl ⟨ha, fun dx h1 h2 => k dx h1 h2⟩⟩
theorem ns_BadPaper : NScope ["self", "part", "__class__"] ["self", "part"] ["__class__"] (C8.fnScope s_BadPaper___init__) := nscope_by (by decide +kernel)
theorem ok_BadPaper (T : Tx K mg base) (hP : ProgOk P "/claim/cut.py") : FnOk P w K mg base CX0 1 (a_BadPaper___init__ K) (fdAt K (a_BadPaper___init__ K)) ["self", "part"] (spX1 (He.ga K "BadPaper") "part") := by
  refine T.S_BadPaper___init__.rule hP ns_BadPaper _ rfl rfl (by decide +kernel) (by decide +kernel) (by decide +kernel) T.f_super T.says.opq (fun vs H Q E h => ?_) (fun c cc A outer s H vs Q E hr h S => ?_)
  · obtain ⟨_, _, rfl, _⟩ := h
    rfl
  · obtain ⟨a, v, rfl, ha, k⟩ := h
    have sc := ns_BadPaper
    have x := T.x_BadPaper
    refine ⟨_, _, psa_exc S (pa_cons (pv 1) pa_nil), (pss_one (ps_ost (pv 0) (pv 1))), ?_⟩
    exact ⟨a, He.ga K "BadPaper", rfl, x.oex, x.sup, ha, v, rfl, by simp, ha, v, rfl, .ref a, rfl, a, He.ga K "BadPaper", rfl, x.oex, T.n_BadPaper_part, .inl ⟨ha, fun dx h1 h2 => k dx h1 h2⟩⟩
theorem ns_Misfit : NScope ["self", "part", "__class__"] ["self", "part"] ["__class__"] (C8.fnScope s_Misfit___init__) := nscope_by (by decide +kernel)
theorem ok_Misfit (T : Tx K mg base) (hP : ProgOk P "/claim/cut.py") : FnOk P w K mg base CX0 1 (a_Misfit___init__ K) (fdAt K (a_Misfit___init__ K)) ["self", "part"] (spX1 (He.ga K "Misfit") "part") := by
  refine T.S_Misfit___init__.rule hP ns_Misfit _ rfl rfl (by decide +kernel) (by decide +kernel) (by decide +kernel) T.f_super T.says.opq (fun vs H Q E h => ?_) (fun c cc A outer s H vs Q E hr h S => ?_)
  · obtain ⟨_, _, rfl, _⟩ := h
    rfl
  · obtain ⟨a, v, rfl, ha, k⟩ := h
    have sc := ns_Misfit
    have x := T.x_Misfit
    refine ⟨_, _, psa_exc S (pa_cons (pv 1) pa_nil), (pss_one (ps_ost (pv 0) (pv 1))), ?_⟩
    exact ⟨a, He.ga K "Misfit", rfl, x.oex, x.sup, ha, v, rfl, by simp, ha, v, rfl, .ref a, rfl, a, He.ga K "Misfit", rfl, x.oex, T.n_Misfit_part, .inl ⟨ha, fun dx h1 h2 => k dx h1 h2⟩⟩
theorem ns_Nothing : NScope ["self", "word", "__class__"] ["self", "word"] ["__class__"] (C8.fnScope s_Nothing___init__) := nscope_by (by decide +kernel)
theorem ok_Nothing (T : Tx K mg base) (hP : ProgOk P "/claim/cut.py") : FnOk P w K mg base CX0 1 (a_Nothing___init__ K) (fdAt K (a_Nothing___init__ K)) ["self", "word"] (spX1 (He.ga K "Nothing") "word") := by
  refine T.S_Nothing___init__.rule hP ns_Nothing _ rfl rfl (by decide +kernel) (by decide +kernel) (by decide +kernel) T.f_super T.says.opq (fun vs H Q E h => ?_) (fun c cc A outer s H vs Q E hr h S => ?_)
  · obtain ⟨_, _, rfl, _⟩ := h
    rfl
  · obtain ⟨a, v, rfl, ha, k⟩ := h
    have sc := ns_Nothing
    have x := T.x_Nothing
    refine ⟨_, _, psa_exc S (pa_cons (pv 1) pa_nil), (pss_one (ps_ost (pv 0) (pv 1))), ?_⟩
    exact ⟨a, He.ga K "Nothing", rfl, x.oex, x.sup, ha, v, rfl, by simp, ha, v, rfl, .ref a, rfl, a, He.ga K "Nothing", rfl, x.oex, T.n_Nothing_word, .inl ⟨ha, fun dx h1 h2 => k dx h1 h2⟩⟩
theorem ns_NoName : NScope ["self", "name", "__class__"] ["self", "name"] ["__class__"] (C8.fnScope s_NoName___init__) := nscope_by (by decide +kernel)
theorem ok_NoName (T : Tx K mg base) (hP : ProgOk P "/claim/cut.py") : FnOk P w K mg base CX0 1 (a_NoName___init__ K) (fdAt K (a_NoName___init__ K)) ["self", "name"] (spX1 (He.ga K "NoName") "name") := by
  refine T.S_NoName___init__.rule hP ns_NoName _ rfl rfl (by decide +kernel) (by decide +kernel) (by decide +kernel) T.f_super T.says.opq (fun vs H Q E h => ?_) (fun c cc A outer s H vs Q E hr h S => ?_)
  · obtain ⟨_, _, rfl, _⟩ := h
    rfl
  · obtain ⟨a, v, rfl, ha, k⟩ := h
    have sc := ns_NoName
    have x := T.x_NoName
    refine ⟨_, _, psa_exc S (pa_cons (pv 1) pa_nil), (pss_one (ps_ost (pv 0) (pv 1))), ?_⟩
    exact ⟨a, He.ga K "NoName", rfl, x.oex, x.sup, ha, v, rfl, by simp, ha, v, rfl, .ref a, rfl, a, He.ga K "NoName", rfl, x.oex, T.n_NoName_name, .inl ⟨ha, fun dx h1 h2 => k dx h1 h2⟩⟩
theorem ns_BadText : NScope ["self", "line", "word", "__class__"] ["self", "line", "word"] ["__class__"] (C8.fnScope s_BadText___init__) := nscope_by (by decide +kernel)
theorem ok_BadText (T : Tx K mg base) (hP : ProgOk P "/claim/cut.py") : FnOk P w K mg base CX0 1 (a_BadText___init__ K) (fdAt K (a_BadText___init__ K)) ["self", "line", "word"] (spX2 (He.ga K "BadText") "line" "word") := by
  refine T.S_BadText___init__.rule hP ns_BadText _ rfl rfl (by decide +kernel) (by decide +kernel) (by decide +kernel) T.f_super T.says.opq (fun vs H Q E h => ?_) (fun c cc A outer s H vs Q E hr h S => ?_)
  · obtain ⟨_, _, _, rfl, _⟩ := h
    rfl
  · obtain ⟨a, v, u, rfl, ha, k⟩ := h
    have sc := ns_BadText
    have x := T.x_BadText
    refine ⟨_, _, psa_exc S (pa_cons (pv 1) (pa_cons (pv 2) pa_nil)), (pss_cons (ps_ost (pv 0) (pv 1)) (pss_one (ps_ost (pv 0) (pv 2)))), ?_⟩
    refine ⟨a, He.ga K "BadText", rfl, x.oex, x.sup, ha, v, rfl, u, rfl, by simp, ha, v, rfl, .ref a, rfl, a, He.ga K "BadText", rfl, x.oex, T.n_BadText_line, .inl ⟨ha, fun dx h1 h2 => ?_⟩⟩
    refine ⟨u, rfl, .ref a, rfl, a, He.ga K "BadText", rfl, x.oex, T.n_BadText_word, .inr ⟨dx, _, upd_same, by rw [upd_ne h2]; exact upd_same, by simp, ?_⟩⟩
    exact k _ dx h1 h2 (by rw [upd_ne h2.symm]; exact upd_same) upd_same fun b e1 e2 => by rw [upd_ne e2, upd_ne e1, upd_ne e2]
theorem ns_BadLine : NScope ["self", "word", "__class__"] ["self", "word"] ["__class__"] (C8.fnScope s_BadLine___init__) := nscope_by (by decide +kernel)
theorem ok_BadLine (T : Tx K mg base) (hP : ProgOk P "/claim/cut.py") : FnOk P w K mg base CX0 1 (a_BadLine___init__ K) (fdAt K (a_BadLine___init__ K)) ["self", "word"] (spX1 (He.ga K "BadLine") "word") := by
  refine T.S_BadLine___init__.rule hP ns_BadLine _ rfl rfl (by decide +kernel) (by decide +kernel) (by decide +kernel) T.f_super T.says.opq (fun vs H Q E h => ?_) (fun c cc A outer s H vs Q E hr h S => ?_)
  · obtain ⟨_, _, rfl, _⟩ := h
    rfl
  · obtain ⟨a, v, rfl, ha, k⟩ := h
    have sc := ns_BadLine
    have x := T.x_BadLine
    refine ⟨_, _, psa_exc S (pa_cons (pv 1) pa_nil), (pss_one (ps_ost (pv 0) (pv 1))), ?_⟩
    exact ⟨a, He.ga K "BadLine", rfl, x.oex, x.sup, ha, v, rfl, by simp, ha, v, rfl, .ref a, rfl, a, He.ga K "BadLine", rfl, x.oex, T.n_BadLine_word, .inl ⟨ha, fun dx h1 h2 => k dx h1 h2⟩⟩
theorem ns_TooMany : NScope ["self", "what", "most", "__class__"] ["self", "what", "most"] ["__class__"] (C8.fnScope s_TooMany___init__) := nscope_by (by decide +kernel)
theorem ok_TooMany (T : Tx K mg base) (hP : ProgOk P "/claim/cut.py") : FnOk P w K mg base CX0 1 (a_TooMany___init__ K) (fdAt K (a_TooMany___init__ K)) ["self", "what", "most"] (spX2 (He.ga K "TooMany") "what" "most") := by
  refine T.S_TooMany___init__.rule hP ns_TooMany _ rfl rfl (by decide +kernel) (by decide +kernel) (by decide +kernel) T.f_super T.says.opq (fun vs H Q E h => ?_) (fun c cc A outer s H vs Q E hr h S => ?_)
  · obtain ⟨_, _, _, rfl, _⟩ := h
    rfl
  · obtain ⟨a, v, u, rfl, ha, k⟩ := h
    have sc := ns_TooMany
    have x := T.x_TooMany
    refine ⟨_, _, psa_exc S (pa_cons (pv 1) (pa_cons (pv 2) pa_nil)), (pss_cons (ps_ost (pv 0) (pv 1)) (pss_one (ps_ost (pv 0) (pv 2)))), ?_⟩
    refine ⟨a, He.ga K "TooMany", rfl, x.oex, x.sup, ha, v, rfl, u, rfl, by simp, ha, v, rfl, .ref a, rfl, a, He.ga K "TooMany", rfl, x.oex, T.n_TooMany_what, .inl ⟨ha, fun dx h1 h2 => ?_⟩⟩
    refine ⟨u, rfl, .ref a, rfl, a, He.ga K "TooMany", rfl, x.oex, T.n_TooMany_most, .inr ⟨dx, _, upd_same, by rw [upd_ne h2]; exact upd_same, by simp, ?_⟩⟩
    exact k _ dx h1 h2 (by rw [upd_ne h2.symm]; exact upd_same) upd_same fun b e1 e2 => by rw [upd_ne e2, upd_ne e1, upd_ne e2]
end
end K00

set_option Elab.async false
set_option linter.all false
set_option maxRecDepth 100000
set_option maxHeartbeats 4000000
namespace K00
open PySem PySem.Spec PyProof.Rows L2 Cw NdefX
section
variable {P : Program} {w : World} {K : PySem.W.Frag} {mg : Str → Option Value} {base : Heap}
/-- what a paper class must say -/
structure PapC (K : PySem.W.Frag) (C : Addr) : Prop where
  cl : Cls K C
  w : NoAttr K C "word"
  p : NoAttr K C "parts"
/-- __init__(self, word, *parts): the word, the parts as told -/
def spInit (K : PySem.W.Frag) (n : Nat) : Sp := fun vs H Q _ => ∃ a C dx w rest F ds, vs = .ref a :: w :: rest ∧ H a = some (.ins C dx []) ∧ PapC K C ∧ RpA K F rest ds ∧ F a = none ∧ Ex F H ∧ rest.length ≤ 1000 ∧ PyData.depthAll ds + 1 ≤ n ∧ okAll ds = true ∧
  ∀ pv H' F', H' a = some (.ins C dx [("word", w), ("parts", pv)]) → Kp a H H' → Ex F F' → Ex F' H' → F' a = none → New H F F' → Rp K F' pv (fixedD (.tuple ds)) → Q .non H'
theorem sc_init : FnScope ["self", "word", "parts"] ((["self", "word"] : List Str) ++ (["parts"] : List Str)) (defScope s_Paper___init__) := ⟨rfl, rfl, rfl, by decide +kernel, rfl, by decide +kernel, by decide +kernel⟩
theorem ok_init (T : Tx K mg base) (n : Nat) : FnR P w K mg base CX0 (n + 3) (a_Paper___init__ K) (spInit K n) := by
  obtain ⟨oc, od, dV, kV, doc, pm, an, cdv, ct, osl, e, lk, hcd, hd0, _⟩ := T.F_Paper___init__.ex
  rw [e] at lk
  have dn : dV = .none := hd0.elim (fun h => by first | exact h.1 | exact h.2) fun h => absurd rfl h.1
  subst dn
  have GF := ok_fixed (P := P) (w := w) T n
  have star := StX.fn_star (CX := CX0) (P := P) (w := w) (mg := mg) (base := base) (k := n + 2) (N := ["self", "word", "parts"]) (ps := ["self", "word"]) (pv := "parts") (sp := fun vs H Q E => ∃ a C dx w p rest F ds, vs = [.ref a, w, .ref p] ∧ H a = some (.ins C dx []) ∧ H p = some (.tup rest) ∧ PapC K C ∧ RpA K F rest ds ∧ F a = none ∧ F p = none ∧ p ≠ a ∧ Ex F H ∧
      rest.length ≤ 1000 ∧ PyData.depthAll ds + 1 ≤ n ∧ okAll ds = true ∧ ∀ pv H' F', H' a = some (.ins C dx [("word", w), ("parts", pv)]) → Kp a H H' → Ex F F' → Ex F' H' → F' a = none → New H (upd F p (.tup rest)) F' → Rp K F' pv (fixedD (.tuple ds)) → Q .non H') lk hcd sc_init StX.cxUp_none
    (StX.bind_star2 (B := fun us => bindArgs _ ⟨us, []⟩) (fun a b => rfl) (fun a b r rs => rfl)) (fun A outer s H vs Q E hr h => ?_)
  · refine star.imp fun vs H Q E h => ?_
    obtain ⟨a, C, dx, w', rest, F, ds, rfl, ha, pc, rr, fa, ex, hl, hd, ok, k⟩ := h
    refine ⟨[.ref a, w'], rest, rfl, rfl, Evl.sz_of (by omega), fun p hp => ?_⟩
    have hpa : p ≠ a := fun e => by rw [e, ha] at hp; cases hp
    have fp : F p = none := ex_back ex p hp
    refine ⟨a, C, dx, w', p, rest, F, ds, rfl, by rw [upd_ne (Ne.symm hpa)]; exact ha, upd_same, pc, rr, fa, fp, hpa, ex.mut fp, hl, hd, ok, fun pv H' F' h1 h2 h3 h4 h5 h6 h7 => k pv H' F' h1 ?_ h3 h4 h5 ?_ h7⟩
    · exact (Kp.new hp).trans h2
    · intro b o h
      by_cases hb : b = p
      · subst hb
        exact .inr hp
      · rcases h6 b o h with z | z
        · exact .inl (by rwa [upd_ne hb] at z)
        · exact .inr (by rwa [upd_ne hb] at z)
  · obtain ⟨a, C, dx, w', p, rest, F, ds, rfl, ha, hp, pc, rr, fa, fp, hpa, ex, hl, hd, ok, k⟩ := h
    have sc := sc_init
    refine ⟨_, PSs.nox ((pss_cons (ps_fld (pv 0) (pv 1) rfl)
  (pss_one (ps_fld (pv 0) (pe_call GF hr (by rfl) T.m_fixed T.k_fixed T.b_fixed .nil pass0 (pa_cons (pv 2) pa_nil)) rfl)))), ?_⟩
    have hfa : (upd F p (.tup rest)) a = none := by rw [upd_ne (Ne.symm hpa)]; exact fa
    have exF : Ex (upd F p (.tup rest)) (upd H a (.ins C dx (putF "word" w' []))) := (ex_put ex hp).mut hfa
    refine ⟨w', rfl, .ref a, rfl, a, C, dx, [], rfl, ha, pc.cl, pc.w, by simp, ?_⟩
    refine ⟨.ref p, rfl, .ref p, upd F p (.tup rest), .tuple ds, rfl, .tup (SqT.of upd_same) (rr.mono (ex_updF fp)), exF, by simpa only [PyData.depth] using hd, by simp only [okD, ok, Bool.and_true, decide_eq_true_eq]; rw [← rr.length]; exact hl, fun r H1 F1 e1 e2 e3 e4 e5 => ?_⟩
    have f1a : F1 a = none := e4.free hfa (by rw [upd_same]; simp)
    refine ⟨.ref a, rfl, a, C, dx, putF "word" w' [], rfl, e1 _ _ upd_same, pc.cl, pc.p, by simp [putF], k r _ F1 upd_same ((Kp.at _).trans ((Kp.of e1).trans (Kp.at _))) ((ex_updF fp).trans e2) (e3.mut f1a) f1a (fun b o h => ?_) e5⟩
    rcases e4 b o h with z | z
    · exact .inl z
    · refine .inr ?_
      by_cases hb : b = a
      · subst hb
        rw [upd_same] at z
        cases z
      · rwa [upd_ne hb] at z
/-! ### truth -/
def spTrue (k : Bool) : Sp := fun vs H Q _ => ∃ v, vs = [v] ∧ Q (.bl k) H
theorem sc_bool : FnScope ["self"] ["self"] (defScope s_Paper___bool__) := ⟨rfl, rfl, rfl, by decide +kernel, rfl, by decide +kernel, by decide +kernel⟩
theorem sc_boolD : FnScope ["self"] ["self"] (defScope s_Denial___bool__) := ⟨rfl, rfl, rfl, by decide +kernel, rfl, by decide +kernel, by decide +kernel⟩
theorem ok_bool (T : Tx K mg base) : FnOk P w K mg base CX0 1 (a_Paper___bool__ K) (fdAt K (a_Paper___bool__ K)) ["self"] (spTrue true) := by
  refine T.F_Paper___bool__.ok sc_bool (fun vs H Q E h => ?_) (fun cdv A outer s H vs Q E hr h => ?_)
  · obtain ⟨v, rfl, _⟩ := h
    rfl
  · obtain ⟨v, rfl, k⟩ := h
    have sc := sc_bool
    exact ⟨_, PSs.nox ((pss_one (ps_ret pe_bl))), k⟩
theorem ok_boolD (T : Tx K mg base) : FnOk P w K mg base CX0 1 (a_Denial___bool__ K) (fdAt K (a_Denial___bool__ K)) ["self"] (spTrue false) := by
  refine T.F_Denial___bool__.ok sc_boolD (fun vs H Q E h => ?_) (fun cdv A outer s H vs Q E hr h => ?_)
  · obtain ⟨v, rfl, _⟩ := h
    rfl
  · obtain ⟨v, rfl, k⟩ := h
    have sc := sc_boolD
    exact ⟨_, PSs.nox ((pss_one (ps_ret pe_bl))), k⟩
/-! ### == -/
/-- a paper: its class, the class's name, its word, its parts -/
def IsPap (K : PySem.W.Frag) (H : Hp) (a C : Addr) (nm : Str) (wd pd : PyData) : Prop := ∃ dx fs wv pv, H a = some (.ins C dx fs) ∧ PapC K C ∧ PapF K C (He.ma K (He.ga K "Paper") "__eq__") nm ∧ PySem.W.kitOne K (.ref C) (.ref (He.ga K "Paper")) = some true ∧
  fs.lookup ("word" : Str) = some wv ∧ fs.lookup ("parts" : Str) = some pv ∧ Rp K H wv wd ∧ Rp K H pv pd
theorem IsPap.mono {H H' : Hp} {a C : Addr} {nm : Str} {wd pd : PyData} (e : Ex H H') (h : IsPap K H a C nm wd pd) : IsPap K H' a C nm wd pd := by
  obtain ⟨dx, fs, wv, pv, h1, h2, h3, h4, h5, h6, h7, h8⟩ := h
  exact ⟨dx, fs, wv, pv, e _ _ h1, h2, h3, h4, h5, h6, h7.mono e, h8.mono e⟩
def spEqP (K : PySem.W.Frag) (n : Nat) : Sp := fun vs H Q _ => ∃ a C nm wd pd y, vs = [.ref a, y] ∧ IsPap K H a C nm wd pd ∧ okD wd = true ∧ okD pd = true ∧ wd.depth ≤ n ∧ pd.depth ≤ n ∧
  ((∃ b C' nm' wd' pd', y = .ref b ∧ IsPap K H b C' nm' wd' pd' ∧ okD wd' = true ∧ okD pd' = true ∧ ∀ H', Ex H H' → Q (.bl (decide (nm = nm') && (likeD wd wd' && likeD pd pd'))) H') ∨
    ∃ d, Rp K H y d ∧ isT d = true ∧ PySem.W.kitOne K (.type "tuple") (.ref (He.ga K "Paper")) = some false ∧ ∀ H', Ex H H' → Q (.bl false) H')
theorem sc_eqP : FnScope ["self", "other"] ["self", "other"] (defScope s_Paper___eq__) := ⟨rfl, rfl, rfl, by decide +kernel, rfl, by decide +kernel, by decide +kernel⟩
theorem ok_likes (T : Tx K mg base) : ∀ n : Nat, FnOk P w K mg base CX0 (n + 1) (a_is_like K) (fdAt K (a_is_like K)) ["one", "other"] (spLike K n) := by
  intro n
  induction n using Nat.strongRecOn with
  | ind n ih => exact ok_like T n ih
theorem ok_eqP (T : Tx K mg base) (n : Nat) : FnOk P w K mg base CX0 (n + 2) (a_Paper___eq__ K) (fdAt K (a_Paper___eq__ K)) ["self", "other"] (spEqP K n) := by
  have GL := ok_likes (P := P) (w := w) T n
  refine T.F_Paper___eq__.ok sc_eqP (fun vs H Q E h => ?_) (fun cdv A outer s H vs Q E hr h => ?_)
  · obtain ⟨a, C, nm, wd, pd, y, rfl, _⟩ := h
    rfl
  · obtain ⟨a, C, nm, wd, pd, y, rfl, ip, o1, o2, n1, n2, h⟩ := h
    have sc := sc_eqP
    refine ⟨_, PSs.nox ((pss_cons (ps_if (PW.pt (pw_or (pt_not (pt_val (pe_callB call_isi (by rfl) T.f_isinstance (by decide +kernel) (pa_cons (pv 1) (pa_cons (pe_glob (v := .ref (He.ga K "Paper")) rfl (T.m_Paper) rfl) pa_nil))))) (pw_or1 (pt_cmpR op_ne (pe_clsName (pv 0) T.says.opq) (pe_clsName (pv 1) T.says.opq) (nomark _)))))
  (pss_one (ps_ret pe_bl))
  pss_nil)
  (pss_one (ps_ret (pe_and (pe_call GL hr (by rfl) T.m_is_like T.k_is_like T.b_is_like .nil pass0 (pa_cons (pe_fld (pv 0) rfl) (pa_cons (pe_fld (pv 1) rfl) pa_nil))) (pe_one (pe_call GL hr (by rfl) T.m_is_like T.k_is_like T.b_is_like .nil pass0 (pa_cons (pe_fld (pv 0) rfl) (pa_cons (pe_fld (pv 1) rfl) pa_nil))))))))), ?_⟩
    obtain ⟨dx, fs, wv, pv, ha, pc, pf, kt, lw, lp, rw1, rp1⟩ := ip
    rcases h with ⟨b, C', nm', wd', pd', rfl, ⟨dx', fs', wv', pv', hb, pc', pf', kt', lw', lp', rw2, rp2⟩, o1', o2', k⟩ | ⟨d, rd, hd, kt', k⟩
    · have c0 : Evl.Ev (tClsName K (tVar 0)) (start ["self", "other"] [.ref a, .ref b]) H (.str nm) := fun H1 e Q q => ⟨.ref a, rfl, a, C, dx, fs, nm, rfl, e _ _ ha, pf.name, q H1 (Evl.Ex.refl _)⟩
      have c1 : Evl.Ev (tClsName K (tVar 1)) (start ["self", "other"] [.ref a, .ref b]) H (.str nm') := fun H1 e Q q => ⟨.ref b, rfl, b, C', dx', fs', nm', rfl, e _ _ hb, pf'.name, q H1 (Evl.Ex.refl _)⟩
      have hi : Evl.Ev (tCB (rIsi K) (tCons (tVar 1) (tCons (tC (V.ref (He.ga K "Paper"))) tNil))) (start ["self", "other"] [.ref a, .ref b]) H (.bl true) := fun H1 e Q q =>
        ⟨.ref b, rfl, .ref b, .ref (He.ga K "Paper"), .ref C', .ref (He.ga K "Paper"), true, rfl, .own _, pf'.ty (e _ _ hb), kt', q H1 (Evl.Ex.refl _)⟩
      refine Evl.q_when (b := !true || !decide (V.str nm = V.str nm')) (Evl.et_or (Evl.et_not (Evl.et_B hi)) fun _ => Evl.et_test (Evl.ev_op c0 c1 (Evl.rv_ne rfl))) (fun hb1 H1 e1 => ?_) fun hb1 H1 e1 => ?_
      · have hne : decide (nm = nm') = false := by simpa using hb1
        refine Evl.s_ret Evl.ev_c fun H2 e2 => ?_
        have := k H2 (e1.trans e2)
        rwa [hne, Bool.false_and] at this
      · have heq : decide (nm = nm') = true := by simpa using hb1
        have l1 : Evl.Ev (tCall (spLike K n) [] E0 (tCons (tFld K (tVar 0) "word") (tCons (tFld K (tVar 1) "word") tNil))) (start ["self", "other"] [.ref a, .ref b]) H (.bl (likeD wd wd')) := fun H2 e Q q =>
          ⟨.ref a, rfl, a, C, dx, fs, wv, rfl, e _ _ ha, pc.cl, pc.w, lw, .ref b, rfl, b, C', dx', fs', wv', rfl, e _ _ hb, pc'.cl, pc'.w, lw', wv, wv', wd, wd', rfl, rw1.mono e, rw2.mono e, n1, o1, o1', fun H' e' => q H' e'⟩
        have l2 : Evl.Ev (tCall (spLike K n) [] E0 (tCons (tFld K (tVar 0) "parts") (tCons (tFld K (tVar 1) "parts") tNil))) (start ["self", "other"] [.ref a, .ref b]) H (.bl (likeD pd pd')) := fun H2 e Q q =>
          ⟨.ref a, rfl, a, C, dx, fs, pv, rfl, e _ _ ha, pc.cl, pc.p, lp, .ref b, rfl, b, C', dx', fs', pv', rfl, e _ _ hb, pc'.cl, pc'.p, lp', pv, pv', pd, pd', rfl, rp1.mono e, rp2.mono e, n2, o2, o2', fun H' e' => q H' e'⟩
        refine Evl.s_ret (Evl.ev_andV (l1.mono e1) fun _ => l2.mono e1) fun H2 e2 => ?_
        have := k H2 (e1.trans e2)
        rwa [heq, Bool.true_and] at this
    · have hi : Evl.Ev (tCB (rIsi K) (tCons (tVar 1) (tCons (tC (V.ref (He.ga K "Paper"))) tNil))) (start ["self", "other"] [.ref a, y]) H (.bl false) := fun H1 e Q q => by
        have ty := rd.ty e
        cases d with
        | tuple ds => exact ⟨y, rfl, y, .ref (He.ga K "Paper"), .type "tuple", .ref (He.ga K "Paper"), false, rfl, .own _, ty, kt', q H1 (Evl.Ex.refl _)⟩
        | _ => cases hd
      refine Evl.q_when (b := !false || true) (Evl.et_or (Evl.et_not (Evl.et_B hi)) fun h => absurd h (by decide)) (fun hb1 H1 e1 => ?_) fun hb1 H1 e1 => absurd hb1 (by decide)
      exact Evl.s_ret Evl.ev_c fun H2 e2 => k H2 (e1.trans e2)
end
end K00

set_option Elab.async false
set_option linter.all false
set_option maxRecDepth 100000
set_option maxHeartbeats 4000000
namespace K00
open PySem PySem.Spec PyProof.Rows L2 Cw NdefX
section
variable {P : Program} {w : World} {K : PySem.W.Frag} {mg : Str → Option Value} {base : Heap}
theorem pc_Masks (T : Tx K mg base) : PapC K (He.ga K "Masks") := ⟨T.c_Masks, T.n_Masks_word, T.n_Masks_parts⟩
theorem pc_Stairs (T : Tx K mg base) : PapC K (He.ga K "Stairs") := ⟨T.c_Stairs, T.n_Stairs_word, T.n_Stairs_parts⟩
theorem pc_Paper (T : Tx K mg base) : PapC K (He.ga K "Paper") := ⟨T.c_Paper, T.n_Paper_word, T.n_Paper_parts⟩
theorem pc_Denial (T : Tx K mg base) : PapC K (He.ga K "Denial") := ⟨T.c_Denial, T.n_Denial_word, T.n_Denial_parts⟩
/-- what is left of making an instance at a: its fields, and what its parts lean on -/
def Made (K : PySem.W.Frag) (H F : Hp) (a C dx : Addr) (fs : List (Str × V)) (H' F' : Hp) : Prop := H' a = some (.ins C dx fs) ∧ Kp a H H' ∧ Ex F F' ∧ Ex F' H' ∧ F' a = none ∧ New H F F'
def spMasks (K : PySem.W.Frag) (n : Nat) : Sp := fun vs H Q _ => ∃ a dx s u F d1 d2, vs = [.ref a, s, u] ∧ H a = some (.ins (He.ga K "Masks") dx []) ∧ Rp K F s d1 ∧ Rp K F u d2 ∧ F a = none ∧ Ex F H ∧ max d1.depth d2.depth + 1 ≤ n ∧ okD d1 = true ∧ okD d2 = true ∧
  ∀ H' F' pv v1 v2, Made K H F a (He.ga K "Masks") dx [("word", .str "masks"), ("parts", pv), ("safe", v1), ("unsafe", v2)] H' F' → Rp K F' pv (.tuple [fixedD d1, fixedD d2]) → Rp K F' v1 (fixedD d1) → Rp K F' v2 (fixedD d2) → Q .non H'
theorem ns_Masks : NScope ["self", "safe", "unsafe", "__class__"] ["self", "safe", "unsafe"] ["__class__"] (C8.fnScope s_Masks___init__) := nscope_by (by decide +kernel)
theorem ok_Masks (T : Tx K mg base) (hP : ProgOk P "/claim/cut.py") (n : Nat) : FnOk P w K mg base CX0 (n + 4) (a_Masks___init__ K) (fdAt K (a_Masks___init__ K)) ["self", "safe", "unsafe"] (spMasks K n) := by
  have GI := ok_init (P := P) (w := w) T n
  refine T.S_Masks___init__.rule hP ns_Masks _ rfl rfl (by decide +kernel) (by decide +kernel) (by decide +kernel) T.f_super T.says.opq (fun vs H Q E h => ?_) (fun c cc A outer s H vs Q E hr h S => ?_)
  · obtain ⟨_, _, _, _, _, _, _, rfl, _⟩ := h
    rfl
  · obtain ⟨a, dx, s, u, F, d1, d2, rfl, ha, r1, r2, fa, ex, hd, o1, o2, k⟩ := h
    have sc := ns_Masks
    have pc := pc_Masks T
    refine ⟨_, _, psa_ins S GI hr pass0 (pa_cons pe_str (pa_cons (pv 1) (pa_cons (pv 2) pa_nil))), (pss_one (ps_asg (pe_fld (pv 0) rfl) (pg_tup (n := 2) rfl (pgs_cons (pg_fld (pv 0)) (pgs_cons (pg_fld (pv 0)) pgs_nil))))), ?_⟩
    refine ⟨a, He.ga K "Masks", dx, [], rfl, T.si_Masks, ha, s, rfl, u, rfl, ?_⟩
    refine ⟨a, He.ga K "Masks", dx, .str "masks", [s, u], F, [d1, d2], rfl, ha, pc, .cons r1 (.cons r2 .nil), fa, ex, by simp, by simpa [PyData.depthAll] using hd, by simp [okAll, o1, o2], fun pv' H1 F1 e1 e2 e3 e4 e5 e6 e7 => ?_⟩
    simp only [fixedD, fixedAll] at e7
    cases e7 with
    | @tup ap xs ds hs ht =>
      obtain ⟨v1, v2, rfl, q1, q2⟩ : ∃ v1 v2, xs = [v1, v2] ∧ Rp K F1 v1 (fixedD d1) ∧ Rp K F1 v2 (fixedD d2) := by
        cases ht with
        | cons h1 t1 => cases t1 with
          | cons h2 t2 => cases t2 with
            | nil => exact ⟨_, _, rfl, h1, h2⟩
      refine ⟨.ref a, rfl, a, He.ga K "Masks", dx, _, .ref ap, rfl, e1, pc.cl, pc.p, rfl, ?_⟩
      refine ⟨ap, [v1, v2], rfl, Evl.ex_t e4 hs, rfl, v1, _, rfl, .ref a, rfl, a, He.ga K "Masks", dx, _, rfl, e1, pc.cl, T.n_Masks_safe, by simp, v2, _, rfl, .ref a, rfl, a, He.ga K "Masks", dx, _, rfl, upd_same, pc.cl, T.n_Masks_unsafe, (by show (3 : Nat) < 1000; decide), rfl, ?_⟩
      refine k _ F1 (.ref ap) v1 v2 ⟨upd_same, (e2.trans (Kp.at _)).trans (Kp.at _), e3, (e4.mut e5).mut e5, e5, e6⟩ (.tup hs (.cons q1 (.cons q2 .nil))) q1 q2
def spStairs (K : PySem.W.Frag) (n : Nat) : Sp := fun vs H Q _ => ∃ a dx s F d1, vs = [.ref a, s] ∧ H a = some (.ins (He.ga K "Stairs") dx []) ∧ Rp K F s d1 ∧ F a = none ∧ Ex F H ∧ d1.depth + 1 ≤ n ∧ okD d1 = true ∧
  ∀ H' F' pv v1, Made K H F a (He.ga K "Stairs") dx [("word", .str "stairs"), ("parts", pv), ("rows", v1)] H' F' → Rp K F' pv (.tuple [fixedD d1]) → Rp K F' v1 (fixedD d1) → Q .non H'
theorem ns_Stairs : NScope ["self", "rows", "__class__"] ["self", "rows"] ["__class__"] (C8.fnScope s_Stairs___init__) := nscope_by (by decide +kernel)
theorem ok_Stairs (T : Tx K mg base) (hP : ProgOk P "/claim/cut.py") (n : Nat) : FnOk P w K mg base CX0 (n + 4) (a_Stairs___init__ K) (fdAt K (a_Stairs___init__ K)) ["self", "rows"] (spStairs K n) := by
  have GI := ok_init (P := P) (w := w) T n
  refine T.S_Stairs___init__.rule hP ns_Stairs _ rfl rfl (by decide +kernel) (by decide +kernel) (by decide +kernel) T.f_super T.says.opq (fun vs H Q E h => ?_) (fun c cc A outer s H vs Q E hr h S => ?_)
  · obtain ⟨_, _, _, _, _, rfl, _⟩ := h
    rfl
  · obtain ⟨a, dx, s, F, d1, rfl, ha, r1, fa, ex, hd, o1, k⟩ := h
    have sc := ns_Stairs
    have pc := pc_Stairs T
    refine ⟨_, _, psa_ins S GI hr pass0 (pa_cons pe_str (pa_cons (pv 1) pa_nil)), (pss_one (ps_fld (pv 0) (pe_ix ix_tup (pe_fld (pv 0) rfl) pe_int (fun _ _ => rfl)) rfl)), ?_⟩
    refine ⟨a, He.ga K "Stairs", dx, [], rfl, T.si_Stairs, ha, s, rfl, ?_⟩
    refine ⟨a, He.ga K "Stairs", dx, .str "stairs", [s], F, [d1], rfl, ha, pc, .cons r1 .nil, fa, ex, by simp, by simpa [PyData.depthAll] using hd, by simp [okAll, o1], fun pv' H1 F1 e1 e2 e3 e4 e5 e6 e7 => ?_⟩
    simp only [fixedD, fixedAll] at e7
    cases e7 with
    | @tup ap xs ds hs ht =>
      obtain ⟨v1, rfl, q1⟩ : ∃ v1, xs = [v1] ∧ Rp K F1 v1 (fixedD d1) := by
        cases ht with
        | cons h1 t1 => cases t1 with
          | nil => exact ⟨_, rfl, h1⟩
      refine ⟨.ref a, rfl, a, He.ga K "Stairs", dx, _, .ref ap, rfl, e1, pc.cl, pc.p, rfl, ap, [v1], 0, v1, rfl, rfl, Evl.ex_t e4 hs, rfl, ?_⟩
      refine ⟨.ref a, rfl, a, He.ga K "Stairs", dx, _, rfl, e1, pc.cl, T.n_Stairs_rows, by simp, ?_⟩
      exact k _ F1 (.ref ap) v1 ⟨upd_same, e2.trans (Kp.at _), e3, e4.mut e5, e5, e6⟩ (.tup hs (.cons q1 .nil)) q1
end
end K00

set_option Elab.async false
set_option linter.all false
set_option maxRecDepth 100000
set_option maxHeartbeats 4000000
namespace K00
open PySem PySem.Spec PyProof.Rows L2 Cw
section
variable {P : Program} {w : World} {K : PySem.W.Frag} {mg : Str → Option Value} {base : Heap}
/-! ### the pen -/
def spPen (K : PySem.W.Frag) : Sp := fun vs H Q _ => ∃ p ns, vs = [.ref p] ∧ SqL K H p (List.map V.int ns) ∧ ns.length ≤ 63 ∧ ∀ q c H', PenAt H' q c 0 → Ex H H' → H q = none → H c = none → Q (.ref q) H'
abbrev N_pen : List Str := ["script", "cell"]
theorem sc_pen : FnScope N_pen ["script"] (defScope s__law_pen) := ⟨rfl, rfl, rfl, by decide +kernel, rfl, by decide +kernel, by decide +kernel⟩
theorem ok_pen (T : Tx K mg base) : FnOk P w K mg base CX0 1 (a__law_pen K) (fdAt K (a__law_pen K)) ["script"] (spPen K) := by
  refine T.F__law_pen.ok sc_pen (fun vs H Q E h => ?_) (fun cdv A outer s H vs Q E hr h => ?_)
  · obtain ⟨p, ns, rfl, _⟩ := h
    rfl
  · obtain ⟨p, ns, rfl, hp, hn, k⟩ := h
    have sc := sc_pen
    refine ⟨_, PSs.nox ((pss_one (ps_ret (pe_lst (pa_cons (pe_lc (own := [("cell", 1)]) rfl sc.nd (pi_list (pe_slice sl_list (pv 0) po_none (po_some pe_int))) (blkOk_by (N := ["script", "cell"]) (sc := defScope s__law_pen) (by decide +kernel)) (fun _ _ _ _ _ => (pg_name (i := 1) sc.nd rfl (Or.inl rfl) (Or.inr rfl))) (fun _ _ _ _ _ => pts_nil) (fun _ _ _ _ _ => (pe_callTy call_int1 (by rfl) T.f_int (by decide +kernel) (pa_cons (pv 1) pa_nil)))) (pa_cons pe_int (pa_cons pe_int pa_nil))))))), ?_⟩
    refine ⟨.ref p, rfl, 63, rfl, p, _, rfl, hp, fun q hq => ⟨q, rfl, ⟨_, SqL.of upd_same⟩, ?_⟩⟩
    obtain ⟨ms, hms, hml⟩ := cut_ints ns none (some 63)
    have hq1 : (upd H q (.lst (cutV (List.map V.int ns) none (some 63)))) q = some (.lst (List.map V.int ms)) := by rw [upd_same, hms]
    have hlen : (cutV (List.map V.int ns) none (some 63)).length = ms.length := by rw [hms, List.length_map]
    have hw : Walk (Itl K q) ms.length (fun H => SqL K H q (List.map V.int ms)) (YAt (List.map V.int ms)) := by
      have := walk_list (K := K) (a := q) (xs := List.map V.int ms)
      rwa [List.length_map] at this
    refine lc_vals (H1 := upd H q (.lst (cutV (List.map V.int ns) none (some 63)))) (Q := fun x H1 => ([x, V.int 0, V.int 0] : List V).length ≤ sizeLine ∧ ∀ p, H1 p = none → Q (.ref p) (upd H1 p (.lst [x, .int 0, .int 0]))) hw (fun i => .int (ms.getD i 0)) (by omega) (fun H1 e1 => SqL.of (e1 _ _ hq1)) (fun i x H1 H2 Qy hi e1 y kk => ?_) fun D H1 hD hD1 e1 => ?_
    · obtain ⟨rfl, hx⟩ := y
      rw [List.getElem?_map] at hx
      obtain ⟨z, hz, rfl⟩ := Option.map_eq_some_iff.mp hx
      refine ⟨rfl, _, rfl, .inl ⟨z, rfl, ?_⟩⟩
      have := kk H2 (Evl.Ex.refl _)
      rwa [List.getD_eq_getElem?_getD, hz] at this
    · refine ⟨by show 3 ≤ sizeLine; decide, fun r hr => k r D _ ⟨ms, 0, 0, upd_same, ?_, ?_, by omega, by decide, by decide, by decide⟩ ((Evl.Ex.new hq).trans (e1.trans (Evl.Ex.new hr))) ?_ ?_⟩
      · have hne : D ≠ r := fun e => by rw [e, hr] at hD1; cases hD1
        rw [upd_ne hne, hD1]
        congr 2
        exact range_map_get ms 0 V.int
      · exact fun e => by rw [e, hr] at hD1; cases hD1
      · have := ex_back e1 r hr
        by_cases e : r = q
        · subst e
          exact hq
        · rwa [upd_ne e] at this
      · by_cases e : D = q
        · subst e
          exact hq
        · rwa [upd_ne e] at hD
/-! ### one of a list -/
def spPick (K : PySem.W.Frag) : Sp := fun vs H Q _ => ∃ (p c l : Addr) (xs : List V) (n : Nat), vs = [.ref p, .ref l] ∧ SqL K H l xs ∧ 0 < xs.length ∧ xs.length ≤ 1000 ∧ l ≠ p ∧ PenAt H p c n ∧ n ≤ 100000 ∧ ∀ (i : Nat) (x : V) (H' : Hp), (xs : List V)[i]? = some x → PenAt H' p c (n + 1) → Kp p H H' → Q x H'
theorem sc_pick : FnScope ["pen", "some"] ["pen", "some"] (defScope s__law_pick) := ⟨rfl, rfl, rfl, by decide +kernel, rfl, by decide +kernel, by decide +kernel⟩
theorem ok_pick (T : Tx K mg base) : FnOk P w K mg base CX0 2 (a__law_pick K) (fdAt K (a__law_pick K)) ["pen", "some"] (spPick K) := by
  have GD := ok_draw (P := P) (w := w) T
  refine T.F__law_pick.ok sc_pick (fun vs H Q E h => ?_) (fun cdv A outer s H vs Q E hr h => ?_)
  · obtain ⟨p, c, l, xs, n, rfl, _⟩ := h
    rfl
  · obtain ⟨p, c, l, xs, n, rfl, hl, h0, h1, hne, hp, hn, k⟩ := h
    have sc := sc_pick
    refine ⟨_, PSs.nox ((pss_one (ps_ret (pe_ix ix_list (pv 1) (pe_call GD hr (by rfl) T.m__law_draw T.k__law_draw T.b__law_draw .nil pass0 (pa_cons (pv 0) (pa_cons (pe_callB call_len_seq (by rfl) T.f_len (by decide +kernel) (pa_cons (pv 1) pa_nil)) pa_nil))) (fun _ _ => rfl))))), ?_⟩
    refine ⟨.ref l, rfl, .ref p, rfl, .ref l, rfl, l, xs, rfl, .inl hl, p, c, (xs.length : Int), n, rfl, hp, by omega, by omega, hn, fun d H' d0 d1 h2 h3 => ?_⟩
    obtain ⟨j, rfl⟩ : ∃ j : Nat, d = (j : Int) := ⟨d.toNat, by omega⟩
    have hj : j < xs.length := by omega
    have hat : xs[j]? = some xs[j] := List.getElem?_eq_getElem hj
    exact ⟨l, xs, (j : Int), xs[j], rfl, rfl, kp_l h3 hne hl, atI_nat hat, k j _ H' hat h2 h3⟩
end
end K00

set_option Elab.async false
set_option linter.all false
set_option maxRecDepth 100000
set_option maxHeartbeats 4000000
namespace K00
open PySem PySem.Spec PyProof.Rows L2 Cw
section
variable {P : Program} {w : World} {K : PySem.W.Frag} {mg : Str → Option Value} {base : Heap}
/-! ### any value -/
def cost : Nat → Nat
  | 0 => 2
  | k + 1 => 2 + 3 * cost k
def spAny (K : PySem.W.Frag) (k : Nat) : Sp := fun vs H Q _ => ∃ (p c : Addr) (F : Hp) (n : Nat), vs = [.ref p, .int (k : Int)] ∧ PenAt H p c n ∧ F p = none ∧ Ex F H ∧ n + cost k ≤ 100000 ∧
  ∀ r d H' F' m, Stp p H F H' F' → PenAt H' p c m → m ≤ n + cost k → Rp K F' r d → drD d = true → d.depth ≤ 2 * k → Q r H'
/-! the leaves that are drawn -/
def menuV : List V := [.non, .bl true, .bl false, .int 0, .int 1, .int (-1), .int (10 ^ (59 : Int).toNat), .str "", .str "a", .str "ann", .str "1"]
theorem menu_leaf {x : V} (h : x ∈ menuV) : ∃ d, (∀ F : Hp, Rp K F x d) ∧ drD d = true ∧ d.depth = 0 := by
  simp only [menuV, List.mem_cons, List.not_mem_nil, or_false] at h
  rcases h with rfl | rfl | rfl | rfl | rfl | rfl | rfl | rfl | rfl | rfl | rfl
  · exact ⟨_, fun _ => .non, by simp only [drD], by simp only [PyData.depth]⟩
  · exact ⟨_, fun _ => .bl _, by simp only [drD], by simp only [PyData.depth]⟩
  · exact ⟨_, fun _ => .bl _, by simp only [drD], by simp only [PyData.depth]⟩
  · exact ⟨_, fun _ => .int _, by simp only [drD]; decide, by simp only [PyData.depth]⟩
  · exact ⟨_, fun _ => .int _, by simp only [drD]; decide, by simp only [PyData.depth]⟩
  · exact ⟨_, fun _ => .int _, by simp only [drD]; decide, by simp only [PyData.depth]⟩
  · exact ⟨_, fun _ => .int _, by simp only [drD]; decide, by simp only [PyData.depth]⟩
  · exact ⟨_, fun _ => .str _, by simp only [drD]; decide, by simp only [PyData.depth]⟩
  · exact ⟨_, fun _ => .str _, by simp only [drD]; decide, by simp only [PyData.depth]⟩
  · exact ⟨_, fun _ => .str _, by simp only [drD]; decide, by simp only [PyData.depth]⟩
  · exact ⟨_, fun _ => .str _, by simp only [drD]; decide, by simp only [PyData.depth]⟩
/-- a leaf picked -/
theorem pick_any {p c : Addr} {H F : Hp} {m : Nat} {Q : VK} {E : XK} (hp : PenAt H p c m) (fp : F p = none) (ex : Ex F H) (hm : m ≤ 100000)
    (k : ∀ v d H', Stp p H F H' F → PenAt H' p c (m + 1) → Rp K F v d → drD d = true → d.depth = 0 → Q v H') : ∀ l, H l = none → spPick K [.ref p, .ref l] (upd H l (.lst menuV)) Q E := fun l hl =>
  ⟨p, c, l, menuV, m, rfl, SqL.of upd_same, by decide, by decide, hp.ne hl, hp.lay hl, hm, fun i x H' hx h1 h2 => by
    obtain ⟨d, hd, h3, h4⟩ := menu_leaf (K := K) (List.mem_of_getElem? hx)
    exact k x d H' (Stp.pen ex fp ((Kp.new hl).trans h2)) h1 (hd F) h3 h4⟩
abbrev N_any : List Str := ["pen", "deep", "way", "lap", "some"]
theorem sc_any : FnScope N_any ["pen", "deep"] (defScope s__law_any_value) := ⟨rfl, rfl, rfl, by decide +kernel, rfl, by decide +kernel, by decide +kernel⟩
theorem ok_any (T : Tx K mg base) : ∀ k : Nat, FnOk P w K mg base CX0 (k + 3) (a__law_any_value K) (fdAt K (a__law_any_value K)) ["pen", "deep"] (spAny K k) := by
  intro k
  have GD := ok_draw (P := P) (w := w) T
  have GP := ok_pick (P := P) (w := w) T
  induction k with
  | zero =>
    refine T.F__law_any_value.ok sc_any (fun vs H Q E h => ?_) (fun cdv A outer s H vs Q E hr h => ?_)
    · obtain ⟨p, c, F, n, rfl, _⟩ := h
      rfl
    · obtain ⟨p, c, F, n, rfl, hp, fp, ex, hn, k⟩ := h
      have sc := sc_any
      refine ⟨_, PSs.nox ((pss_cons (ps_set (i := 2) sc.nd rfl (Or.inl rfl) (pe_ifExp (pt_cmpR op_gt (pv 1) pe_int (nomark _)) (pe_call GD (hr.mono (by omega)) (by rfl) T.m__law_draw T.k__law_draw T.b__law_draw .nil pass0 (pa_cons (pv 0) (pa_cons pe_int pa_nil))) (pe_call GD (hr.mono (by omega)) (by rfl) T.m__law_draw T.k__law_draw T.b__law_draw .nil pass0 (pa_cons (pv 0) (pa_cons pe_int pa_nil)))))
  (pss_cons (ps_if (pt_cmpR op_lt (pv 2) pe_int (nomark _))
  (pss_one (ps_ret (pe_call GP (hr.mono (by omega)) (by rfl) T.m__law_pick T.k__law_pick T.b__law_pick .nil pass0 (pa_cons (pv 0) (pa_cons (pe_lst (pa_cons pe_non (pa_cons pe_bl (pa_cons pe_bl (pa_cons pe_int (pa_cons pe_int (pa_cons (pe_un un_neg pe_int) (pa_cons (pe_op op_pow pe_int pe_int) (pa_cons pe_str (pa_cons pe_str (pa_cons pe_str (pa_cons pe_str pa_nil)))))))))))) pa_nil)))))
  pss_nil)
  (pss_cons (ps_never)
  (pss_one (ps_ret (pe_ifExp (pt_cmpR op_eq (pv 2) pe_int (nomark _)) (pv 4) (pe_ifExp (pt_cmpR op_eq (pv 2) pe_int (nomark _)) (pe_callTy call_tuple_of (by rfl) T.f_tuple (by decide +kernel) (pa_cons (pv 4) pa_nil)) (pe_disp (pps_cons pe_str (pv 4) (pps_cons pe_int pe_non pps_nil)) rfl rfl (by simp) (by decide)))))))))), ?_⟩
      refine ⟨.int 0, rfl, 0, 0, rfl, rfl, _, rfl, iteF ⟨.ref p, rfl, p, c, 6, n, rfl, hp, by decide, by decide, by have : cost 0 = 2 := rfl; omega, fun d H1 d0 d1 hp1 k1 => ?_⟩⟩
      refine ⟨_, rfl, _, _, rfl, rfl, _, rfl, ite2 (fun _ => ?_) fun hh => absurd (decide_eq_true d1) hh⟩
      refine ⟨.ref p, rfl, 1, rfl, 10, 59, rfl, rfl, ⟨by decide, by decide, by decide⟩, by show 11 ≤ sizeLine; decide, pick_any (E := E0) hp1 fp (Stp.pen ex fp k1).fh (by have : cost 0 = 2 := rfl; omega) fun v d1 H2 st hp2 r1 r2 r3 => ?_⟩
      exact k v d1 H2 F (n + 1 + 1) ((Stp.pen ex fp k1).trans st hp1.some) hp2 (by have : cost 0 = 2 := rfl; omega) r1 r2 (by omega)
  | succ k ih =>
    refine T.F__law_any_value.ok sc_any (fun vs H Q E h => ?_) (fun cdv A outer s H vs Q E hr h => ?_)
    · obtain ⟨p, c, F, n, rfl, _⟩ := h
      rfl
    · obtain ⟨p, c, F, n, rfl, hp, fp, ex, hn, kk⟩ := h
      have sc := sc_any
      refine ⟨_, PSs.nox ((pss_cons (ps_set (i := 2) sc.nd rfl (Or.inl rfl) (pe_ifExp (pt_cmpR op_gt (pv 1) pe_int (nomark _)) (pe_call GD (hr.mono (by omega)) (by rfl) T.m__law_draw T.k__law_draw T.b__law_draw .nil pass0 (pa_cons (pv 0) (pa_cons pe_int pa_nil))) (pe_call GD (hr.mono (by omega)) (by rfl) T.m__law_draw T.k__law_draw T.b__law_draw .nil pass0 (pa_cons (pv 0) (pa_cons pe_int pa_nil)))))
  (pss_cons (ps_if (pt_cmpR op_lt (pv 2) pe_int (nomark _))
  (pss_one (ps_ret (pe_call GP (hr.mono (by omega)) (by rfl) T.m__law_pick T.k__law_pick T.b__law_pick .nil pass0 (pa_cons (pv 0) (pa_cons (pe_lst (pa_cons pe_non (pa_cons pe_bl (pa_cons pe_bl (pa_cons pe_int (pa_cons pe_int (pa_cons (pe_un un_neg pe_int) (pa_cons (pe_op op_pow pe_int pe_int) (pa_cons pe_str (pa_cons pe_str (pa_cons pe_str (pa_cons pe_str pa_nil)))))))))))) pa_nil)))))
  pss_nil)
  (pss_cons (ps_setLc (i := 4) (own := [("lap", 3)]) rfl sc.nd rfl rfl (sw_true rfl rfl rfl (by decide +kernel)) (pi_range1 rfl T.f_range (pa_cons (pe_call GD (hr.mono (by omega)) (by rfl) T.m__law_draw T.k__law_draw T.b__law_draw .nil pass0 (pa_cons (pv 0) (pa_cons pe_int pa_nil))) pa_nil)) (blkOk_by (N := ["pen", "deep", "way", "lap", "some"]) (sc := defScope s__law_any_value) (by decide +kernel)) (fun _ _ _ _ _ => (pg_name (i := 3) sc.nd rfl (Or.inl rfl) (Or.inr rfl))) (fun _ _ _ _ _ => pts_nil) (fun _ _ _ _ _ => (pe_call ih hr (by rfl) T.m__law_any_value T.k__law_any_value T.b__law_any_value .nil pass0 (pa_cons (pv 0) (pa_cons (pe_op op_sub (pv 1) pe_int) pa_nil)))))
  (pss_one (ps_ret (pe_ifExp (pt_cmpR op_eq (pv 2) pe_int (nomark _)) (pv 4) (pe_ifExp (pt_cmpR op_eq (pv 2) pe_int (nomark _)) (pe_callTy call_tuple_of (by rfl) T.f_tuple (by decide +kernel) (pa_cons (pv 4) pa_nil)) (pe_disp (pps_cons pe_str (pv 4) (pps_cons pe_int pe_non pps_nil)) rfl rfl (by simp) (by decide)))))))))), ?_⟩
      have hc : cost (k + 1) = 2 + 3 * cost k := rfl
      refine ⟨.int ((k + 1 : Nat) : Int), rfl, ((k + 1 : Nat) : Int), 0, rfl, rfl, _, rfl, ?_⟩
      rw [show decide ((0 : Int) < ((k + 1 : Nat) : Int)) = true by simp]
      refine iteT ⟨.ref p, rfl, p, c, 9, n, rfl, hp, by decide, by decide, by omega, fun d H1 d0 d9 hp1 k1 => ?_⟩
      have s1 := Stp.pen ex fp k1
      refine ⟨_, rfl, _, _, rfl, rfl, _, rfl, ite2 (fun hlt => ?_) fun hlt => ?_⟩
      · refine ⟨.ref p, rfl, 1, rfl, 10, 59, rfl, rfl, ⟨by decide, by decide, by decide⟩, by show 11 ≤ sizeLine; decide, pick_any (E := E0) hp1 fp s1.fh (by omega) fun v d1 H2 st hp2 r1 r2 r3 => ?_⟩
        exact kk v d1 H2 F (n + 1 + 1) (s1.trans st hp1.some) hp2 (by omega) r1 r2 (by omega)
      · have hge : 6 ≤ d := by simpa using hlt
        refine ⟨.ref p, rfl, p, c, 4, n + 1, rfl, hp1, by decide, by decide, by omega, fun m H2 m0 m4 hp2 k2 => ?_⟩
        have s2 := s1.trans (Stp.pen s1.fh s1.fp k2) hp1.some
        refine ⟨m, rfl, by omega, by omega, ?_⟩
        refine fun D hD1 => lc_draw (K := K) (p := p) (c := c) (F1 := F) (n0 := n + 1 + 1) (cs := cost k) (dp := 2 * k) hD1 (walk_range (lo := 0) (n := m.toNat)) (by omega) (fun _ _ _ => trivial) s2.fh s2.fp hp2
          (fun i x H3 H4 F3 m' Qy hi y hp3 fp3 ex3 _ hm3 k3 => ?_) fun ys ds F3 H3 m' hD ry hly fD st hp3 hm3 hd1 hd2 => ?_
        · obtain ⟨rfl, rfl⟩ := y
          have : i * cost k ≤ 2 * cost k := Nat.mul_le_mul_right _ (by omega)
          exact ⟨rfl, .ref p, rfl, .int ((k + 1 : Nat) : Int), rfl, ((k + 1 : Nat) : Int), 1, rfl, rfl, p, c, F3, m', by simp, hp3, fp3, ex3, by omega, k3⟩
        · have hm4 : m.toNat * cost k ≤ 3 * cost k := Nat.mul_le_mul_right _ (by omega)
          have s3 := s2.trans st hp2.some
          have hDp : D ≠ p := hp2.ne hD1
          have hDH : H D = none := s2.kp.back hp2.some D hD1
          have hlen : ds.length ≤ 4 := by rw [← ry.length, hly]; omega
          -- the list itself counts as frozen now
          have s4 : Stp p H F H3 (upd F3 D (.lst ys)) := ⟨s3.kp, s3.ff.trans (ex_updF fD), ex_put s3.fh hD, by rw [upd_ne (Ne.symm hDp)]; exact s3.fp, fun b o hb => by
            by_cases e : b = D
            · subst e
              exact .inr hDH
            · rw [upd_ne e] at hb
              exact s3.nw b o hb⟩
          have rl : Rp K (upd F3 D (.lst ys)) (.ref D) (.list ds) := .lst (SqL.of upd_same) (ry.mono (ex_updF fD))
          have dl : drD (.list ds) = true := by simp only [drD, hd1, Bool.and_true, decide_eq_true_eq]; exact hlen
          refine ⟨_, rfl, rfl, _, rfl, ite2 (fun h6 => ?_) fun h6 => ?_⟩
          · exact ⟨_, rfl, kk _ _ H3 _ m' s4 hp3 (by omega) rl dl (by simp only [PyData.depth]; omega)⟩
          · refine ⟨_, rfl, rfl, _, rfl, ite2 (fun h7 => ?_) fun h7 => ?_⟩
            · refine ⟨_, rfl, D, ys, rfl, .inl ⟨SqL.of hD, fun l hl => ?_⟩⟩
              have hlp : l ≠ p := hp3.ne hl
              have s5 := s4.trans (Stp.lay (o := .tup ys) s4.fh s4.fp hl hlp) hp3.some
              exact kk _ (.tuple ds) _ _ m' s5 (hp3.lay hl) (by omega) (.tup (SqT.of upd_same) ((ry.mono (ex_updF fD)).mono (ex_updF (fresh_in s4.fh hl)))) (by simp only [drD, hd1, Bool.and_true, decide_eq_true_eq]; exact hlen) (by simp only [PyData.depth]; omega)
            · refine fun q hq => ⟨_, rfl, upd_same, [(kA, V.ref D), (Cw.k1, V.non)], rfl, (by show 2 ≤ 15; decide), ?_⟩
              have hqp : q ≠ p := hp3.ne hq
              have fq := fresh_in s4.fh hq
              have e2 : upd (upd H3 q (.dK [])) q (.dK (mergeK [] [(kA, V.ref D), (Cw.k1, V.non)])) = upd H3 q (.dK [(kA, V.ref D), (Cw.k1, V.non)]) := by
                funext b
                by_cases e : b = q
                · rw [e, upd_same, upd_same]
                  rfl
                · rw [upd_ne e, upd_ne e, upd_ne e]
              have s5 := s4.trans (Stp.lay (o := .dK [(kA, V.ref D), (Cw.k1, V.non)]) s4.fh s4.fp hq hqp) hp3.some
              have := kk (.ref q) (.dict [(.str "a", .list ds), (.int 1, .none)]) _ _ m' s5 (hp3.lay hq) (by omega) (.dic (Rd.of upd_same) (RpK.cons (k := kA) (rl.mono (ex_updF fq)) (RpK.cons (k := Cw.k1) .non .nil))) (drD_two dl (by simp only [drD])) ?_
              · rw [← e2] at this
                exact this
              · rw [depthKv_two]
                simp only [PyData.depth]
                omega
end
end K00

set_option Elab.async false
set_option linter.all false
set_option maxRecDepth 100000
set_option maxHeartbeats 4000000
namespace K00
open PySem PySem.Spec PyProof.Rows L2 Cw
section
variable {P : Program} {w : World} {K : PySem.W.Frag} {mg : Str → Option Value} {base : Heap}
theorem sc_told : FnScope ["value", "one"] ["value"] (defScope s__law_as_told) := ⟨rfl, rfl, rfl, by decide +kernel, rfl, by decide +kernel, by decide +kernel⟩
/-- an expression that is not come to -/
theorem pe_nowhere {X : Cx} {e : Expr} : PE X e (fun _ _ _ => False) := ⟨fun _ _ _ _ _ _ h => h.elim⟩
theorem ok_told (T : Tx K mg base) : ∀ n : Nat, FnOk P w K mg base CX0 (n + 1) (a__law_as_told K) (fdAt K (a__law_as_told K)) ["value"] (spData K fixedD n) := by
  intro n
  induction n with
  | zero =>
    refine T.F__law_as_told.ok sc_told (fun vs H Q E h => ?_) (fun cdv A outer s H vs Q E hr h => ?_)
    · obtain ⟨v, F, d, rfl, _⟩ := h
      rfl
    · obtain ⟨v, F, d, rfl, r, e, hn, ho, k⟩ := h
      have sc := sc_told
      refine ⟨_, PSs.nox ((pss_one (ps_ret (pe_ifExp (pt_val (pe_callB call_isiT (by rfl) T.f_isinstance (by decide +kernel) (pa_cons (pv 0) (pa_cons (pe_tup (pa_cons (pe_bltn (v := .ty "list") (by rfl) T.f_list (by decide +kernel) rfl) (pa_cons (pe_bltn (v := .ty "tuple") (by rfl) T.f_tuple (by decide +kernel) rfl) pa_nil))) pa_nil)))) (pe_nowhere) (pv 0))))), ?_⟩
      have hs : isSeq d = false := by
        cases hs : isSeq d with
        | true => rw [depth_seq hs] at hn; omega
        | false => rfl
      refine ⟨_, rfl, by show 2 ≤ sizeLine; decide, fun p hp => ?_⟩
      dsimp only [tNil]
      refine isi2 r (e.trans (Evl.Ex.new hp)) upd_same (kitB_D d (by simp)) (kitB_D d (by simp)) ?_
      refine ⟨_, rfl, ?_⟩
      rw [show (kitD d "list" || kitD d "tuple") = isSeq d by cases d <;> rfl, hs]
      have e1 := Evl.Ex.new (o := .tup [.ty "list", .ty "tuple"]) hp
      refine iteF ⟨_, rfl, k _ _ F e1 (Evl.Ex.refl F) (e.trans e1) (New.refl _ _) ?_⟩
      rw [fixedD_no hs]
      exact r
  | succ n ih =>
    refine T.F__law_as_told.ok sc_told (fun vs H Q E h => ?_) (fun cdv A outer s H vs Q E hr h => ?_)
    · obtain ⟨v, F, d, rfl, _⟩ := h
      rfl
    · obtain ⟨v, F, d, rfl, r, e, hn, ho, k⟩ := h
      have sc := sc_told
      refine ⟨_, PSs.nox ((pss_one (ps_ret (pe_ifExp (pt_val (pe_callB call_isiT (by rfl) T.f_isinstance (by decide +kernel) (pa_cons (pv 0) (pa_cons (pe_tup (pa_cons (pe_bltn (v := .ty "list") (by rfl) T.f_list (by decide +kernel) rfl) (pa_cons (pe_bltn (v := .ty "tuple") (by rfl) T.f_tuple (by decide +kernel) rfl) pa_nil))) pa_nil)))) (pe_callTy call_tuple_of (by rfl) T.f_tuple (by decide +kernel) (pa_cons (pe_lc (own := [("one", 1)]) rfl sc.nd (pi_seq (pv 0)) (blkOk_by (N := ["value", "one"]) (sc := defScope s__law_as_told) (by decide +kernel)) (fun _ _ _ _ _ => (pg_name (i := 1) sc.nd rfl (Or.inl rfl) (Or.inr rfl))) (fun _ _ _ _ _ => pts_nil) (fun _ _ _ _ _ => (pe_call ih hr (by rfl) T.m__law_as_told T.k__law_as_told T.b__law_as_told .nil pass0 (pa_cons (pv 1) pa_nil)))) pa_nil)) (pv 0))))), ?_⟩
      refine ⟨_, rfl, by show 2 ≤ sizeLine; decide, fun p hp => ?_⟩
      have e1 := Evl.Ex.new (o := .tup [.ty "list", .ty "tuple"]) hp
      dsimp only [tNil]
      refine isi2 r (e.trans e1) upd_same (kitB_D d (by simp)) (kitB_D d (by simp)) ?_
      refine ⟨_, rfl, ?_⟩
      rw [show (kitD d "list" || kitD d "tuple") = isSeq d by cases d <;> rfl]
      cases hs : isSeq d with
      | false =>
        refine iteF ⟨_, rfl, k _ _ F e1 (Evl.Ex.refl F) (e.trans e1) (New.refl _ _) ?_⟩
        rw [fixedD_no hs]
        exact r
      | true =>
        refine iteT ?_
        obtain ⟨a, xs, rfl, hx, rx⟩ := r.seq hs
        obtain ⟨hl, hok⟩ := okD_seq ho hs
        have hlx := rx.length
        refine go_cb1 (lc_data (F1 := F) (H1 := upd H p (.tup [.ty "list", .ty "tuple"])) (m := fun i => fixedD ((itemsD d).getD i .none)) ?hl hx (e.trans e1) (by omega) ?hw ?turn ?k)
        case hl => exact fun R q => ⟨_, rfl, q⟩
        case hw => exact fun x => rfl
        case turn =>
          intro i x F2 H2 Qy hi f1 f2 f3 kk
          obtain ⟨dx, hdx, rdx⟩ := rx.get hi
          have hdepth := depthAll_get hdx
          refine ⟨_, rfl, _, F2, dx, rfl, rdx.mono f1, f2, by rw [depth_seq hs] at hn; omega, okAll_get hok hdx, fun y H4 F4 g1 g2 g3 g4 g5 => kk y H4 F4 g1 g2 g3 g4 ?_⟩
          rw [List.getD_eq_getElem?_getD, hdx]
          exact g5
        case k =>
          intro D ys F2 H2 hD hD1 hly ry f1 f2 f3 f4 f5
          refine ⟨D, ys, rfl, .inl ⟨SqL.of hD, fun l hl2 => ?_⟩⟩
          have e2 := Evl.Ex.new (o := .tup ys) hl2
          refine k _ _ (upd F2 l (.tup ys)) ((e1.trans f3).trans e2) (f1.trans (ex_updF (fresh_in f2 hl2))) (ex_upd2 f2) ?_ ?_
          · refine New.trans (f4.trans' e1) (fun b hb => ex_back (e1.trans f3) b hb) (New.upd (H := H2) hl2)
          · rw [fixedD_seq hs]
            refine .tup (SqT.of upd_same) ((?_ : RpA K F2 ys _).mono (ex_updF (fresh_in f2 hl2)))
            rw [hlx, range_map_get] at ry
            exact ry
end
end K00

set_option Elab.async false
set_option linter.all false
set_option maxRecDepth 100000
set_option maxHeartbeats 4000000
/-! papers made, as values: what is read of them later -/
namespace K00
open PySem PySem.Spec PyProof.Rows L2 Cw
section
variable {K : PySem.W.Frag} {mg : Str → Option Value} {base : Heap}
/-- a paper of class C with that word, its parts read in what is frozen -/
def Pap (K : PySem.W.Frag) (H F : Hp) (a C : Addr) (wd : Str) (pd : PyData) : Prop := ∃ dx pv, H a = some (.ins C dx [("word", .str wd), ("parts", pv)]) ∧ Rp K F pv pd
theorem Pap.mono {H H' F F' : Hp} {a C : Addr} {wd : Str} {pd : PyData} (e : Ex H H') (f : Ex F F') (h : Pap K H F a C wd pd) : Pap K H' F' a C wd pd := let ⟨dx, pv, h1, h2⟩ := h; ⟨dx, pv, e _ _ h1, h2.mono f⟩
theorem Pap.isP {H F : Hp} {a C : Addr} {nm wd : Str} {pd : PyData} (h : Pap K H F a C wd pd) (ex : Ex F H) (pc : PapC K C) (pf : PapF K C (He.ma K (He.ga K "Paper") "__eq__") nm) (k : PySem.W.kitOne K (.ref C) (.ref (He.ga K "Paper")) = some true) : IsPap K H a C nm (.str wd) pd :=
  let ⟨dx, pv, h1, h2⟩ := h; ⟨dx, _, _, _, h1, pc, pf, k, rfl, rfl, .str _, h2.mono ex⟩
/-- what is asked of __init__ when a paper is made -/
theorem r_make {C p : Addr} {H F : Hp} {wd : Str} {rest : List V} {ds : List PyData} {Q : Addr → Hp → Prop} {E : XK} (pc : PapC K C) (r : RpA K F rest ds) (ex : Ex F H) (fp : F p = none) (hp : H p ≠ none) (hl : rest.length ≤ 1000) (hd : PyData.depthAll ds + 1 ≤ 30) (ho : okAll ds = true)
    (k : ∀ x H' F', Pap K H' F' x C wd (fixedD (.tuple ds)) → Ex H H' → Ex F F' → Ex F' H' → F' p = none → Q x H') :
    ∀ x dx, H x = Option.none → H dx = Option.none → dx ≠ x → spInit K 30 (V.ref x :: .str wd :: rest) (upd (upd H dx (.own x)) x (.ins C dx [])) (fun v H2 => v = .non ∧ Q x H2) E := fun x dx hx hdx ne => by
  have e1 : Ex H (upd (upd H dx (.own x)) x (.ins C dx [])) := (Evl.Ex.new hdx).trans (Evl.Ex.new (by rw [upd_ne (Ne.symm ne)]; exact hx))
  refine ⟨x, C, dx, .str wd, rest, F, ds, rfl, upd_same, pc, r, Evl.fresh_back ex hx, ex.trans e1, hl, hd, ho, fun pv H' F' h1 h2 h3 h4 h5 h6 h7 => ⟨rfl, k x H' F' ⟨dx, pv, h1, h7⟩ (fun b o hb => h2 b o (fun z => by rw [z, hx] at hb; cases hb) (e1 b o hb)) h3 h4 (h6.free fp fun z => hp (Evl.fresh_back e1 z))⟩⟩
theorem go_par {i j : Nat} {ta : TA} {D : Ends} {σ : L2.St} {H : Hp} (h : ta σ H fun vs H1 => ∃ v w, vs = [v, w] ∧ D.nx ((σ.set i (some v)).set j (some w)) H1) : tPar i j ta D σ H := h
theorem go_make {C : Addr} {sp : Sp} {E : XK} {t : TA} {σ : L2.St} {H : Hp} {Q : VK} {vs : List V} (h : Evl.EvA t σ H vs) (k : ∀ H1, Ex H H1 → ∀ x dx, H1 x = Option.none → H1 dx = Option.none → dx ≠ x → sp (V.ref x :: vs) (upd (upd H1 dx (.own x)) x (.ins C dx [])) (fun v H2 => v = .non ∧ Q (.ref x) H2) E) : StX.tMakeR C sp E t σ H Q := h H (Evl.Ex.refl _) _ k
theorem ev_fld {te : TE} {σ : L2.St} {H : Hp} {a C dx : Addr} {fs : List (Str × V)} {f : Str} {v : V} (h : Evl.Ev te σ H (.ref a)) (ha : H a = some (.ins C dx fs)) (c : Cls K C) (n : NoAttr K C f) (l : fs.lookup f = some v) : Evl.Ev (tFld K te f) σ H v := fun H1 e Q q =>
  h H1 e _ fun H2 e2 => ⟨a, C, dx, fs, v, rfl, (e.trans e2) _ _ ha, c, n, l, q H2 e2⟩
theorem ev_boolI {te : TE} {σ : L2.St} {H : Hp} {a C dx g : Addr} {fs : List (Str × V)} {fns : Addr → Option Addr} {sp : Addr → Sp} {E : XK} {b : Bool} (h : Evl.Ev te σ H (.ref a)) (ha : H a = some (.ins C dx fs)) (hg : fns C = some g) (h1 : PySem.W.findIn K (.ref C) "__bool__" = some (some (.ref g))) (h2 : PySem.W.isFn K (.ref g) = true)
    (hs : ∀ H' Q, Q (.bl b) H' → sp g [.ref a] H' Q E) : Evl.Ev (tCB (rBoolI K fns sp E) (tCons te tNil)) σ H (.bl b) := fun H1 e Q q =>
  h H1 e _ fun H2 e2 => ⟨a, C, dx, fs, g, rfl, (e.trans e2) _ _ ha, hg, h1, h2, hs _ _ ⟨b, rfl, q H2 e2⟩⟩
/-- repr([word, _law_as_told(parts)] * 2) -/
theorem ev_told2 {te : TE} {σ : L2.St} {H F : Hp} {wd : Str} {D : Addr} {ds : List PyData} {E : XK} {i : Nat} (hw : σ[i]? = some (some (.str wd))) (lw : leafS wd = true) (h : Evl.Ev te σ H (.ref D)) (r : Rp K F (.ref D) (.list ds)) (ex : Ex F H) (sm : SmOk K) (hd : drAll ds = true) (hl : ds.length ≤ 4) (hn : PyData.depthAll ds ≤ 6) :
    Evl.Ev (tCB (rReprD K) (tCons (tOp rRep (tLst (tCons (tVar i) (tCons (tCall (spData K fixedD 30) [] E (tCons te tNil)) tNil))) (tC (.int 2))) tNil)) σ H (.str (PyData.shown (.list [.str wd, fixedD (.list ds), .str wd, fixedD (.list ds)]))) := fun H1 e Q q => by
  have dd : drD (.list ds) = true := by simp only [drD, hd, Bool.and_true, decide_eq_true_eq]; exact hl
  have df := fixed_dr dd
  have de := fixed_depth (.list ds)
  have d6 : (PyData.list ds).depth ≤ 7 := by simp only [PyData.depth]; omega
  refine ⟨.str wd, hw, h H1 e _ fun H2 e2 => ⟨.ref D, F, .list ds, rfl, r, ex.trans (e.trans e2), by omega, drD.ok dd, fun x H3 F3 e3 f3 x3 _ rx => ⟨by show 2 ≤ sizeLine; decide, fun l hl => ⟨l, 2, [.str wd, x], rfl, rfl, upd_same, by decide, by decide, by show 2 * 2 ≤ sizeLine; decide, fun p hp => ?_⟩⟩⟩⟩
  have x4 : Ex F3 (upd (upd H3 l (.lst [.str wd, x])) p (.lst [.str wd, x, .str wd, x])) := x3.trans ((Evl.Ex.new hl).trans (Evl.Ex.new hp))
  refine r_reprL (xs := [.str wd, x, .str wd, x]) (n := 7) (Evl.sq_of upd_same) (.cons (.str _) (.cons (rx.mono x4) (.cons (.str _) (.cons (rx.mono x4) .nil)))) sm ?_ (by show 4 ≤ 14; decide) ?_ (by decide) ?_
  · simp only [drAll, df, drD, lw, Bool.and_self]
  · simp only [PyData.depthAll, PyData.depth]; omega
  · exact q _ (e2.trans (e3.trans ((Evl.Ex.new hl).trans (Evl.Ex.new hp))))
end
end K00

set_option Elab.async false
set_option linter.all false
set_option maxRecDepth 100000
set_option maxHeartbeats 4000000
/-! values and papers made within an expression, told by what they read as -/
namespace K00
open PySem PySem.Spec PyProof.Rows L2 Cw
theorem ex_off {p : Addr} {H H' : Hp} (e : Ex H H') : Ex (off p H) (off p H') := (Kp.of e).off
theorem ex_offF {p : Addr} {F H : Hp} (e : Ex F H) (fp : F p = none) : Ex F (off p H) := fun a o h => by
  have n : a ≠ p := fun z => by rw [z, fp] at h; cases h
  rw [off_ne n]
  exact e _ _ h
theorem some_ex {p : Addr} {H H' : Hp} (e : Ex H H') (h : H p ≠ none) : H' p ≠ none := fun z => h (Evl.fresh_back e z)
section
variable {K : PySem.W.Frag} {p : Addr} {σ : L2.St} {H F : Hp}
/-- gives what reads as d, without the pen at p -/
def EvD (K : PySem.W.Frag) (p : Addr) (te : TE) (σ : L2.St) (H : Hp) (d : PyData) : Prop := ∀ H1, Ex H H1 → ∀ Q : VK, (∀ x H2, Ex H1 H2 → Rp K (off p H2) x d → Q x H2) → te σ H1 Q
def EvR (K : PySem.W.Frag) (p : Addr) (ta : TA) (σ : L2.St) (H : Hp) (ds : List PyData) : Prop := ∀ H1, Ex H H1 → ∀ Q : List V → Hp → Prop, (∀ xs H2, Ex H1 H2 → RpA K (off p H2) xs ds → Q xs H2) → ta σ H1 Q
theorem evd_of {te : TE} {v : V} {d : PyData} (h : Evl.Ev te σ H v) (r : Rp K F v d) (ex : Ex F H) (fp : F p = none) : EvD K p te σ H d := fun H1 e Q q => h H1 e _ fun H2 e2 => q v H2 e2 (r.mono (ex_offF (ex.trans (e.trans e2)) fp))
theorem evd_c {v : V} {d : PyData} (r : ∀ G : Hp, Rp K G v d) : EvD K p (tC v) σ H d := fun H1 e Q q => q v H1 (Evl.Ex.refl _) (r _)
theorem evr_nil : EvR K p tNil σ H [] := fun H1 e Q q => q [] H1 (Evl.Ex.refl _) .nil
theorem evr_cons {te : TE} {ta : TA} {d : PyData} {ds : List PyData} (h : EvD K p te σ H d) (hr : EvR K p ta σ H ds) : EvR K p (tCons te ta) σ H (d :: ds) := fun H1 e Q q =>
  h H1 e _ fun x H2 e2 r => hr H2 (e.trans e2) _ fun xs H3 e3 rs => q (x :: xs) H3 (e2.trans e3) (.cons (r.mono (ex_off e3)) rs)
theorem evd_told {te : TE} {d : PyData} {E : XK} (h : EvD K p te σ H d) (hp : H p ≠ none) (ho : okD d = true) (hn : d.depth ≤ 30) : EvD K p (tCall (spData K fixedD 30) [] E (tCons te tNil)) σ H (fixedD d) := fun H1 e Q q =>
  h H1 e _ fun x H2 e2 r => ⟨x, off p H2, d, rfl, r, off_ex p H2, hn, ho, fun y H3 F3 e3 f3 x3 n3 r3 => q y H3 (e2.trans e3) (r3.mono (ex_offF x3 (n3.free off_at (some_ex (e.trans e2) hp))))⟩
theorem evd_lst {ta : TA} {ds : List PyData} (h : EvR K p ta σ H ds) (hp : H p ≠ none) (hl : ds.length ≤ 1000) : EvD K p (tLst ta) σ H (.list ds) := fun H1 e Q q =>
  h H1 e _ fun xs H2 e2 r => ⟨Evl.sz_of (by have := r.length; omega), fun l hl2 => by
    have nl : l ≠ p := fun z => some_ex (e.trans e2) hp (by rw [← z]; exact hl2)
    exact q _ _ (e2.trans (Evl.Ex.new hl2)) (.lst (SqL.of (by rw [off_ne nl]; exact upd_same)) (r.mono (off_new hl2 nl)))⟩
theorem evd_tup {ta : TA} {ds : List PyData} (h : EvR K p ta σ H ds) (hp : H p ≠ none) (hl : ds.length ≤ 1000) : EvD K p (tTup ta) σ H (.tuple ds) := fun H1 e Q q =>
  h H1 e _ fun xs H2 e2 r => ⟨Evl.sz_of (by have := r.length; omega), fun l hl2 => by
    have nl : l ≠ p := fun z => some_ex (e.trans e2) hp (by rw [← z]; exact hl2)
    exact q _ _ (e2.trans (Evl.Ex.new hl2)) (.tup (SqT.of (by rw [off_ne nl]; exact upd_same)) (r.mono (off_new hl2 nl)))⟩
theorem evd_repr {te : TE} {d : PyData} {n : Nat} (h : EvD K p te σ H d) (sm : SmOk K) (hd : drD d = true) (hn : d.depth ≤ n) (h60 : n ≤ 8) : Evl.Ev (tCB (rReprD K) (tCons te tNil)) σ H (.str d.shown) := fun H1 e Q q =>
  h H1 e _ fun x H2 e2 r => ⟨x, d, rfl, r.mono (off_ex p H2), sm, drD.showable hd, by omega, by
    have h1 := shown_len d n hd hn
    have h2 := lenD_mono h60
    have h3 : lenD 8 ≤ 16777216 := by decide
    rw [sizeLine_eq]
    omega, q H2 e2⟩
/-- what a class of papers must say -/
structure PapK (K : PySem.W.Frag) (C : Addr) (nm : Str) : Prop where
  pc : PapC K C
  pf : PapF K C (He.ma K (He.ga K "Paper") "__eq__") nm
  kt : PySem.W.kitOne K (.ref C) (.ref (He.ga K "Paper")) = some true
/-- gives a paper -/
def EvP (K : PySem.W.Frag) (te : TE) (σ : L2.St) (H : Hp) (C : Addr) (nm wd : Str) (pd : PyData) : Prop := ∀ H1, Ex H H1 → ∀ Q : VK, (∀ x H2, Ex H1 H2 → IsPap K H2 x C nm (.str wd) pd → Q (.ref x) H2) → te σ H1 Q
theorem evp_of {te : TE} {a C : Addr} {nm wd : Str} {pd : PyData} (h : Evl.Ev te σ H (.ref a)) (i : IsPap K H a C nm (.str wd) pd) : EvP K te σ H C nm wd pd := fun H1 e Q q => h H1 e _ fun H2 e2 => q a H2 e2 (i.mono (e.trans e2))
theorem evp_make {tw : TE} {ta : TA} {C : Addr} {nm wd : Str} {ds : List PyData} {E : XK} (k : PapK K C nm) (hw : Evl.Ev tw σ H (.str wd)) (h : EvR K p ta σ H ds) (hp : H p ≠ none) (hl : ds.length ≤ 1000) (hd : PyData.depthAll ds + 1 ≤ 30) (ho : okAll ds = true) :
    EvP K (StX.tMakeR C (spInit K 30) E (tCons tw ta)) σ H C nm wd (fixedD (.tuple ds)) := fun H1 e Q q =>
  hw H1 e _ fun H2 e2 => h H2 (e.trans e2) _ fun xs H3 e3 r => r_make (Q := fun x H' => Q (.ref x) H') k.pc r (off_ex p H3) off_at (some_ex (e.trans (e2.trans e3)) hp) (by have := r.length; omega) hd ho fun x H4 F4 P4 e4 f4 x4 fp4 => q x H4 (e2.trans (e3.trans e4)) (P4.isP x4 k.pc k.pf k.kt)
variable {ta tb : TE} {C C' : Addr} {nm nm' w1 w2 : Str} {p1 p2 : PyData} {E : XK}
theorem ev_eqP (h1 : EvP K ta σ H C nm w1 p1) (h2 : EvP K tb σ H C' nm' w2 p2) (nf : PySem.W.notFirst K C (.ref C') = true) (o1 : okD p1 = true) (o2 : okD p2 = true) (d1 : p1.depth ≤ 30) :
    Evl.Ev (tOp (rEqI K (He.ma K (He.ga K "Paper") "__eq__") (spEqP K 30) E) ta tb) σ H (.bl (decide (nm = nm') && (likeD (.str w1) (.str w2) && likeD p1 p2))) := fun H1 e Q q =>
  h1 H1 e _ fun x H2 e2 i1 => h2 H2 (e.trans e2) _ fun y H3 e3 i2 => by
    have i1' := i1.mono e3
    refine ⟨x, y, rfl, rfl, ?_⟩
    obtain ⟨dx, fs, _, _, hx, _, pf, _⟩ := i1'
    have i2' := i2
    obtain ⟨dx', fs', _, _, hy, _, pf', _⟩ := i2'
    refine ⟨C, dx, fs, hx, pf.eq, .inl ⟨.ref C', pf'.ty hy, nf, x, C, nm, .str w1, p1, .ref y, rfl, i1.mono e3, rfl, o1, by simp [PyData.depth], d1, .inl ⟨y, C', nm', .str w2, p2, rfl, i2, rfl, o2, fun H4 e4 => ⟨_, rfl, q H4 (e2.trans (e3.trans e4))⟩⟩⟩⟩
theorem ev_eqPr (h1 : EvP K ta σ H C nm w1 p1) (h2 : EvP K tb σ H C' nm' w2 p2) (ne : C' ≠ C) (sb : PySem.W.subIn K (.ref C') (.ref C) = some true) (o1 : okD p1 = true) (o2 : okD p2 = true) (d2 : p2.depth ≤ 30) :
    Evl.Ev (tOp (rEqI K (He.ma K (He.ga K "Paper") "__eq__") (spEqP K 30) E) ta tb) σ H (.bl (decide (nm' = nm) && (likeD (.str w2) (.str w1) && likeD p2 p1))) := fun H1 e Q q =>
  h1 H1 e _ fun x H2 e2 i1 => h2 H2 (e.trans e2) _ fun y H3 e3 i2 => by
    have i1' := i1.mono e3
    refine ⟨x, y, rfl, rfl, ?_⟩
    obtain ⟨dx, fs, _, _, hx, _, pf, _⟩ := i1'
    have i2' := i2
    obtain ⟨dx', fs', _, _, hy, _, pf', _⟩ := i2'
    refine ⟨C, dx, fs, hx, pf.eq, .inr ⟨C', dx', fs', hy, pf'.eq, ne, sb, y, C', nm', .str w2, p2, .ref x, rfl, i2, rfl, o2, by simp [PyData.depth], d2, .inl ⟨x, C, nm, .str w1, p1, rfl, i1.mono e3, rfl, o1, fun H4 e4 => ⟨_, rfl, q H4 (e2.trans (e3.trans e4))⟩⟩⟩⟩
theorem ev_neP (h1 : EvP K ta σ H C nm w1 p1) (h2 : EvP K tb σ H C' nm' w2 p2) (nf : PySem.W.notFirst K C (.ref C') = true) (o1 : okD p1 = true) (o2 : okD p2 = true) (d1 : p1.depth ≤ 30) :
    Evl.Ev (tOp (rNeI K (He.ma K (He.ga K "Paper") "__eq__") (spEqP K 30) E) ta tb) σ H (.bl (!(decide (nm = nm') && (likeD (.str w1) (.str w2) && likeD p1 p2)))) := fun H1 e Q q =>
  h1 H1 e _ fun x H2 e2 i1 => h2 H2 (e.trans e2) _ fun y H3 e3 i2 => by
    have i1' := i1.mono e3
    obtain ⟨dx, fs, _, _, hx, _, pf, _⟩ := i1'
    have i2' := i2
    obtain ⟨dx', fs', _, _, hy, _, pf', _⟩ := i2'
    refine ⟨x, y, C, dx, fs, .ref C', rfl, rfl, hx, pf.eq, pf'.ty hy, nf, x, C, nm, .str w1, p1, .ref y, rfl, i1.mono e3, rfl, o1, by simp [PyData.depth], d1, .inl ⟨y, C', nm', .str w2, p2, rfl, i2, rfl, o2, fun H4 e4 => ⟨_, rfl, q H4 (e2.trans (e3.trans e4))⟩⟩⟩
/-- a paper and a tuple -/
theorem ev_eqT {d : PyData} (h1 : EvP K ta σ H C nm w1 p1) (h2 : EvD K p tb σ H d) (ht : isT d = true) (nf : PySem.W.subIn K (.type "tuple") (.ref C) = some false) (kt : PySem.W.kitOne K (.type "tuple") (.ref (He.ga K "Paper")) = some false) (o1 : okD p1 = true) (d1 : p1.depth ≤ 30) :
    Evl.Ev (tOp (rEqI K (He.ma K (He.ga K "Paper") "__eq__") (spEqP K 30) E) ta tb) σ H (.bl false) := fun H1 e Q q =>
  h1 H1 e _ fun x H2 e2 i1 => h2 H2 (e.trans e2) _ fun y H3 e3 r => by
    have i1' := i1.mono e3
    obtain ⟨dx, fs, _, _, hx, _, pf, _⟩ := i1'
    obtain ⟨b, rfl⟩ : ∃ b, y = .ref b := by
      cases r <;> first | (cases ht; done) | exact ⟨_, rfl⟩
    have hty : tyD d = "tuple" := by cases d <;> first | (cases ht; done) | rfl
    have ty := r.ty (off_ex p H3)
    rw [hty] at ty
    refine ⟨x, b, rfl, rfl, C, dx, fs, hx, pf.eq, .inl ⟨.type "tuple", ty, ?_, x, C, nm, .str w1, p1, .ref b, rfl, i1.mono e3, rfl, o1, by simp [PyData.depth], d1, .inr ⟨d, r.mono (off_ex p H3), ht, kt, fun H4 e4 => ⟨_, rfl, q H4 (e2.trans (e3.trans e4))⟩⟩⟩⟩
    exact Bool.or_eq_true_iff.mpr (.inr (by rw [nf]; rfl))
theorem nf_self : PySem.W.notFirst K C (.ref C) = true := by simp [PySem.W.notFirst]
theorem nf_sub (h : PySem.W.subIn K (.ref C') (.ref C) = some false) : PySem.W.notFirst K C (.ref C') = true := by simp [PySem.W.notFirst, h]
end
section
variable {K : PySem.W.Frag} {mg : Str → Option Value} {base : Heap}
theorem pk_Paper (T : Tx K mg base) : PapK K (He.ga K "Paper") "Paper" := ⟨pc_Paper T, T.p_Paper, T.kit_Paper_Paper⟩
theorem pk_Denial (T : Tx K mg base) : PapK K (He.ga K "Denial") "Denial" := ⟨pc_Denial T, T.p_Denial, T.kit_Denial_Paper⟩
theorem pk_Masks (T : Tx K mg base) : PapK K (He.ga K "Masks") "Masks" := ⟨pc_Masks T, T.p_Masks, T.kit_Masks_Paper⟩
theorem pk_Stairs (T : Tx K mg base) : PapK K (He.ga K "Stairs") "Stairs" := ⟨pc_Stairs T, T.p_Stairs, T.kit_Stairs_Paper⟩
theorem den_ne (T : Tx K mg base) : He.ga K "Denial" ≠ He.ga K "Paper" := fun e => by
  obtain ⟨k1, h1⟩ := T.p_Paper.name.nm
  obtain ⟨k2, h2⟩ := T.p_Denial.name.nm
  rw [e, h1] at h2
  have := (Value.str.inj (Option.some.inj h2)).1
  exact absurd this (by decide)
theorem evp_a (T : Tx K mg base) {p : Addr} {σ : L2.St} {H : Hp} {te : TE} {wd : Str} {d : PyData} {E : XK} (h : EvD K p te σ H d) (hp : H p ≠ none) (o : okD d = true) (n : d.depth ≤ 5) : EvP K (StX.tMakeR (He.ga K "Paper") (spInit K 30) E (tCons (tC (.str wd)) (tCons te tNil))) σ H (He.ga K "Paper") "Paper" wd (fixedD (.tuple [d])) :=
  evp_make (pk_Paper T) Evl.ev_c (evr_cons h evr_nil) hp (by show 1 ≤ 1000; decide) (by simp only [PyData.depthAll]; omega) (by simp only [okAll, o, Bool.and_self])
end
end K00

set_option Elab.async false
set_option linter.all false
set_option maxRecDepth 100000
set_option maxHeartbeats 4000000
/-! == of data without dicts; Masks, Stairs made within an expression -/
namespace K00
open PySem PySem.Spec PyProof.Rows L2 Cw
mutual
def nodic : PyData → Bool
  | .dict _ => false
  | .list ds => nodicA ds
  | .tuple ds => nodicA ds
  | .none => true
  | .bool _ => true
  | .int _ => true
  | .str _ => true
def nodicA : List PyData → Bool
  | [] => true
  | d :: ds => nodic d && nodicA ds
end
mutual
/-- tuples and plain things alone -/
def tupD : PyData → Bool
  | .dict _ => false
  | .list _ => false
  | .tuple ds => tupA ds
  | .none => true
  | .bool _ => true
  | .int _ => true
  | .str _ => true
def tupA : List PyData → Bool
  | [] => true
  | d :: ds => tupD d && tupA ds
end
section
variable {K : PySem.W.Frag} {H : Hp}
mutual
theorem rp_dp : ∀ {v : V} {d : PyData}, nodic d = true → Rp K H v d → Dp K H v d
  | _, _, _, .non => .non
  | _, _, _, .bl b => .bl b
  | _, _, _, .int i => .int i
  | _, _, _, .str x => .str x
  | _, _, n, .lst h t => .lst h (rpa_dp (by simpa only [nodic] using n) t)
  | _, _, n, .tup h t => .tup h (rpa_dp (by simpa only [nodic] using n) t)
  | _, _, n, .dic h t => by simp only [nodic] at n; cases n
theorem rpa_dp : ∀ {vs : List V} {ds : List PyData}, nodicA ds = true → RpA K H vs ds → DpAll K H vs ds
  | _, _, _, .nil => .nil
  | _, _, n, .cons h t => by
    simp only [nodicA, Bool.and_eq_true] at n
    exact .cons (rp_dp n.1 h) (rpa_dp n.2 t)
end
theorem sqT_put {a l : Addr} {xs : List V} {o : HO} (hn : ∀ ys, ¬ Rd H l (.tup ys)) (h : SqT K H a xs) : SqT K (upd H l o) a xs := by
  rcases h with h | h
  · have ne : a ≠ l := fun e => hn xs (e ▸ h)
    refine .inl ?_
    rcases h with h | ⟨o, h⟩
    · exact .inl (by rw [upd_ne ne]; exact h)
    · exact .inr ⟨o, by rw [upd_ne ne]; exact h⟩
  · exact .inr h
mutual
theorem rp_put {l : Addr} {o : HO} (hn : ∀ ys, ¬ Rd H l (.tup ys)) : ∀ {v : V} {d : PyData}, tupD d = true → Rp K H v d → Rp K (upd H l o) v d
  | _, _, _, .non => .non
  | _, _, _, .bl b => .bl b
  | _, _, _, .int i => .int i
  | _, _, _, .str x => .str x
  | _, _, n, .lst h t => by simp only [tupD] at n; cases n
  | _, _, n, .tup h t => .tup (sqT_put hn h) (rpa_put hn (by simpa only [tupD] using n) t)
  | _, _, n, .dic h t => by simp only [tupD] at n; cases n
theorem rpa_put {l : Addr} {o : HO} (hn : ∀ ys, ¬ Rd H l (.tup ys)) : ∀ {vs : List V} {ds : List PyData}, tupA ds = true → RpA K H vs ds → RpA K (upd H l o) vs ds
  | _, _, _, .nil => .nil
  | _, _, n, .cons h t => by
    simp only [tupA, Bool.and_eq_true] at n
    exact .cons (rp_put hn n.1 h) (rpa_put hn n.2 t)
end
variable {p : Addr} {σ : L2.St} {ta tb te : TE} {d1 d2 : PyData} {E : XK}
theorem ev_eqD {b : Bool} (h1 : EvD K p ta σ H d1) (h2 : EvD K p tb σ H d2) (n1 : nodic d1 = true) (n2 : nodic d2 = true) (s1 : SeqAt.shaped d1 = true) (s2 : SeqAt.shaped d2 = true) (hb : PyData.eqv d1 d2 = b) : Evl.Ev (tOp (rEqD K) ta tb) σ H (.bl b) := fun H1 e Q q =>
  h1 H1 e _ fun x H2 e2 r1 => h2 H2 (e.trans e2) _ fun y H3 e3 r2 => ⟨d1, d2, rp_dp n1 ((r1.mono (ex_off e3)).mono (off_ex p H3)), rp_dp n2 (r2.mono (off_ex p H3)), s1, s2, by rw [hb]; exact q H3 (e2.trans e3)⟩
theorem r_masks {Q : Addr → Hp → Prop} {s u : V} (r1 : Rp K (off p H) s d1) (r2 : Rp K (off p H) u d2) (hp : H p ≠ none) (hd : max d1.depth d2.depth + 1 ≤ 30) (o1 : okD d1 = true) (o2 : okD d2 = true)
    (k : ∀ x H' pv v1 v2 dx, Ex H H' → H' x = some (.ins (He.ga K "Masks") dx [("word", .str "masks"), ("parts", pv), ("safe", v1), ("unsafe", v2)]) → Rp K (off p H') pv (.tuple [fixedD d1, fixedD d2]) → Rp K (off p H') v1 (fixedD d1) → Rp K (off p H') v2 (fixedD d2) → Q x H') :
    ∀ x dx, H x = Option.none → H dx = Option.none → dx ≠ x → spMasks K 30 [.ref x, s, u] (upd (upd H dx (.own x)) x (.ins (He.ga K "Masks") dx [])) (fun v H2 => v = .non ∧ Q x H2) E := fun x dx hx hdx ne => by
  have e1 : Ex H (upd (upd H dx (.own x)) x (.ins (He.ga K "Masks") dx [])) := (Evl.Ex.new hdx).trans (Evl.Ex.new (by rw [upd_ne (Ne.symm ne)]; exact hx))
  refine ⟨x, dx, s, u, off p H, d1, d2, rfl, upd_same, r1, r2, Evl.fresh_back (off_ex p H) hx, (off_ex p H).trans e1, hd, o1, o2, fun H' F' pv v1 v2 m g1 g2 g3 => ⟨rfl, ?_⟩⟩
  obtain ⟨m1, m2, m3, m4, m5, m6⟩ := m
  have fp := m6.free off_at (fun z => hp (Evl.fresh_back e1 z))
  have x' := ex_offF m4 fp
  exact k x H' pv v1 v2 dx (fun b o hb => m2 b o (fun z => by rw [z, hx] at hb; cases hb) (e1 b o hb)) m1 (g1.mono x') (g2.mono x') (g3.mono x')
theorem r_stairs {Q : Addr → Hp → Prop} {s : V} (r1 : Rp K (off p H) s d1) (hp : H p ≠ none) (hd : d1.depth + 1 ≤ 30) (o1 : okD d1 = true)
    (k : ∀ x H' pv v1 dx, Ex H H' → H' x = some (.ins (He.ga K "Stairs") dx [("word", .str "stairs"), ("parts", pv), ("rows", v1)]) → Rp K (off p H') pv (.tuple [fixedD d1]) → Rp K (off p H') v1 (fixedD d1) → Q x H') :
    ∀ x dx, H x = Option.none → H dx = Option.none → dx ≠ x → spStairs K 30 [.ref x, s] (upd (upd H dx (.own x)) x (.ins (He.ga K "Stairs") dx [])) (fun v H2 => v = .non ∧ Q x H2) E := fun x dx hx hdx ne => by
  have e1 : Ex H (upd (upd H dx (.own x)) x (.ins (He.ga K "Stairs") dx [])) := (Evl.Ex.new hdx).trans (Evl.Ex.new (by rw [upd_ne (Ne.symm ne)]; exact hx))
  refine ⟨x, dx, s, off p H, d1, rfl, upd_same, r1, Evl.fresh_back (off_ex p H) hx, (off_ex p H).trans e1, hd, o1, fun H' F' pv v1 m g1 g2 => ⟨rfl, ?_⟩⟩
  obtain ⟨m1, m2, m3, m4, m5, m6⟩ := m
  have fp := m6.free off_at (fun z => hp (Evl.fresh_back e1 z))
  have x' := ex_offF m4 fp
  exact k x H' pv v1 dx (fun b o hb => m2 b o (fun z => by rw [z, hx] at hb; cases hb) (e1 b o hb)) m1 (g1.mono x') (g2.mono x')
variable {mg : Str → Option Value} {base : Heap}
theorem evd_masksP (T : Tx K mg base) (h1 : EvD K p ta σ H d1) (h2 : EvD K p tb σ H d2) (hp : H p ≠ none) (hd : max d1.depth d2.depth + 1 ≤ 30) (o1 : okD d1 = true) (o2 : okD d2 = true) :
    EvD K p (tFld K (tMake (He.ga K "Masks") (spMasks K 30) [] E (tCons ta (tCons tb tNil))) "parts") σ H (.tuple [fixedD d1, fixedD d2]) := fun H1 e Q q =>
  h1 H1 e _ fun s H2 e2 r1 => h2 H2 (e.trans e2) _ fun u H3 e3 r2 => r_masks (p := p) (Q := fun x H' => ∃ a C dx fs v, V.ref x = .ref a ∧ H' a = some (.ins C dx fs) ∧ Cls K C ∧ NoAttr K C "parts" ∧ fs.lookup ("parts" : Str) = some v ∧ Q v H') (r1.mono (ex_off e3)) r2 (some_ex (e.trans (e2.trans e3)) hp) hd o1 o2
    fun x H4 pv v1 v2 dx e4 hx g1 g2 g3 => ⟨x, _, dx, _, pv, rfl, hx, T.c_Masks, T.n_Masks_parts, rfl, q pv H4 (e2.trans (e3.trans e4)) g1⟩
theorem evd_masksU (T : Tx K mg base) {n m : Nat} (hn : n = 0) (hm : m = 2) (h1 : EvD K p ta σ H d1) (h2 : EvD K p tb σ H d2) (hp : H p ≠ none) (hd : max d1.depth d2.depth + 1 ≤ 30) (o1 : okD d1 = true) (o2 : okD d2 = true) :
    EvD K p (tFld K (tMakeK (He.ga K "Masks") n m (spMasks K 30) (fun us ws => us ++ ws) E tNil (tCons ta (tCons tb tNil))) "unsafe") σ H (fixedD d2) := fun H1 e Q q =>
  h1 H1 e _ fun s H2 e2 r1 => h2 H2 (e.trans e2) _ fun u H3 e3 r2 => ⟨hn.symm, hm.symm, r_masks (p := p) (Q := fun x H' => ∃ a C dx fs v, V.ref x = .ref a ∧ H' a = some (.ins C dx fs) ∧ Cls K C ∧ NoAttr K C "unsafe" ∧ fs.lookup ("unsafe" : Str) = some v ∧ Q v H') (r1.mono (ex_off e3)) r2 (some_ex (e.trans (e2.trans e3)) hp) hd o1 o2
    fun x H4 pv v1 v2 dx e4 hx g1 g2 g3 => ⟨x, _, dx, _, v2, rfl, hx, T.c_Masks, T.n_Masks_unsafe, rfl, q v2 H4 (e2.trans (e3.trans e4)) g3⟩⟩
theorem evd_stairsR (T : Tx K mg base) {n m : Nat} (hn : n = 0) (hm : m = 1) (h1 : EvD K p ta σ H d1) (hp : H p ≠ none) (hd : d1.depth + 1 ≤ 30) (o1 : okD d1 = true) :
    EvD K p (tFld K (tMakeK (He.ga K "Stairs") n m (spStairs K 30) (fun us ws => us ++ ws) E tNil (tCons ta tNil)) "rows") σ H (fixedD d1) := fun H1 e Q q =>
  h1 H1 e _ fun s H2 e2 r1 => ⟨hn.symm, hm.symm, r_stairs (p := p) (Q := fun x H' => ∃ a C dx fs v, V.ref x = .ref a ∧ H' a = some (.ins C dx fs) ∧ Cls K C ∧ NoAttr K C "rows" ∧ fs.lookup ("rows" : Str) = some v ∧ Q v H') r1 (some_ex (e.trans e2) hp) hd o1
    fun x H4 pv v1 dx e4 hx g1 g2 => ⟨x, _, dx, _, v1, rfl, hx, T.c_Stairs, T.n_Stairs_rows, rfl, q v1 H4 (e2.trans e4) g2⟩⟩
theorem evp_masks (T : Tx K mg base) (h1 : EvD K p ta σ H d1) (h2 : EvD K p tb σ H d2) (hp : H p ≠ none) (hd : max d1.depth d2.depth + 1 ≤ 30) (o1 : okD d1 = true) (o2 : okD d2 = true) :
    EvP K (tMake (He.ga K "Masks") (spMasks K 30) [] E (tCons ta (tCons tb tNil))) σ H (He.ga K "Masks") "Masks" "masks" (.tuple [fixedD d1, fixedD d2]) := fun H1 e Q q =>
  h1 H1 e _ fun s H2 e2 r1 => h2 H2 (e.trans e2) _ fun u H3 e3 r2 => r_masks (p := p) (Q := fun x H' => Q (.ref x) H') (r1.mono (ex_off e3)) r2 (some_ex (e.trans (e2.trans e3)) hp) hd o1 o2
    fun x H4 pv v1 v2 dx e4 hx g1 g2 g3 => q x H4 (e2.trans (e3.trans e4)) ⟨dx, _, _, pv, hx, (pk_Masks T).pc, (pk_Masks T).pf, (pk_Masks T).kt, rfl, rfl, .str _, g1.mono (off_ex p H4)⟩
theorem evp_stairs (T : Tx K mg base) (h1 : EvD K p ta σ H d1) (hp : H p ≠ none) (hd : d1.depth + 1 ≤ 30) (o1 : okD d1 = true) :
    EvP K (tMake (He.ga K "Stairs") (spStairs K 30) [] E (tCons ta tNil)) σ H (He.ga K "Stairs") "Stairs" "stairs" (.tuple [fixedD d1]) := fun H1 e Q q =>
  h1 H1 e _ fun s H2 e2 r1 => r_stairs (p := p) (Q := fun x H' => Q (.ref x) H') r1 (some_ex (e.trans e2) hp) hd o1
    fun x H4 pv v1 dx e4 hx g1 g2 => q x H4 (e2.trans e4) ⟨dx, _, _, pv, hx, (pk_Stairs T).pc, (pk_Stairs T).pf, (pk_Stairs T).kt, rfl, rfl, .str _, g1.mono (off_ex p H4)⟩
end
end K00

set_option Elab.async false
set_option linter.all false
set_option maxRecDepth 100000
set_option maxHeartbeats 8000000
namespace K00
open PySem PySem.Spec PyProof.Rows L2 Cw
section
variable {P : Program} {w : World} {K : PySem.W.Frag} {mg : Str → Option Value} {base : Heap}
abbrev N_law : List Str := ["script", "pen", "value", "some", "one", "more", "alike", "row", "turn", "lap", "parts", "word", "paper", "denial", "other", "due", "kept"]
theorem sc_law : FnScope N_law ["script"] (defScope s_law) := ⟨rfl, rfl, rfl, by decide +kernel, rfl, by decide +kernel, by decide +kernel⟩
def spLaw (K : PySem.W.Frag) : Sp := fun vs H Q _ => ∃ a ns, vs = [.ref a] ∧ SqL K H a (List.map V.int ns) ∧ ns.length ≤ 63 ∧ ∀ H', Q (.bl true) H'
/-- the classes' own __bool__s -/
def fnsB (K : PySem.W.Frag) : Addr → Option Addr := fun C => if C = He.ga K "Paper" then some (a_Paper___bool__ K) else if C = He.ga K "Denial" then some (a_Denial___bool__ K) else none
def spB (K : PySem.W.Frag) : Addr → Sp := fun g => fun vs H Q E => (g = a_Paper___bool__ K ∧ spTrue true vs H Q E) ∨ (g = a_Denial___bool__ K ∧ spTrue false vs H Q E)
theorem gBool (T : Tx K mg base) : ∀ C g, fnsB K C = some g → FnR P w K mg base CX0 1 g (spB K g) := by
  intro C g h A outer s H us vs Q E hr e0 r hs
  rcases hs with ⟨rfl, hs⟩ | ⟨rfl, hs⟩
  · exact fnR_of (ok_bool (P := P) (w := w) T) T.b_Paper___bool__ A outer s H us vs Q E hr e0 r hs
  · exact fnR_of (ok_boolD (P := P) (w := w) T) T.b_Denial___bool__ A outer s H us vs Q E hr e0 r hs
/-- what stands in the list of the seven -/
def Sev (K : PySem.W.Frag) (H : Hp) (v : V) (i : Nat) (x : V) : Prop := ∃ a C, x = .ref a ∧ ExV H a C [("part", v)] ∧ XfC K C ∧ PySem.W.findIn K (.ref C) "part" = some none ∧ ExcC K C ∧ PySem.W.kitOne K (.ref C) (.ref (He.ga K "CrowdError")) = some true ∧ PySem.W.kitOne K (.ref C) (.type "ValueError") = some true ∧
PySem.W.kitOne K (.ref C) (.ref (He.ga K "BadBook")) = some (decide (i = 0)) ∧ PySem.W.kitOne K (.ref C) (.ref (He.ga K "BadQuestion")) = some (decide (i = 1)) ∧ PySem.W.kitOne K (.ref C) (.ref (He.ga K "BadFile")) = some (decide (i = 2)) ∧ PySem.W.kitOne K (.ref C) (.ref (He.ga K "BadValue")) = some (decide (i = 3)) ∧ PySem.W.kitOne K (.ref C) (.ref (He.ga K "BadNumber")) = some (decide (i = 4)) ∧ PySem.W.kitOne K (.ref C) (.ref (He.ga K "BadPaper")) = some (decide (i = 5))
theorem Sev.mono {H H' : Hp} {v x : V} {i : Nat} (e : Ex H H') (h : Sev K H v i x) : Sev K H' v i x := by
  obtain ⟨a, C, h1, h2, h3⟩ := h
  exact ⟨a, C, h1, h2.mono e, h3⟩
theorem sev_0 (T : Tx K mg base) {H : Hp} {v : V} {a : Addr} (h : ExV H a (He.ga K "BadBook") [("part", v)]) : Sev K H v 0 (.ref a) := ⟨a, _, rfl, h, T.x_BadBook.xf, T.n_BadBook_part, T.x_BadBook.ec, T.kit_BadBook_CrowdError, T.xv_BadBook, T.kit_BadBook_BadBook, T.kit_BadBook_BadQuestion, T.kit_BadBook_BadFile, T.kit_BadBook_BadValue, T.kit_BadBook_BadNumber, T.kit_BadBook_BadPaper⟩
theorem sev_1 (T : Tx K mg base) {H : Hp} {v : V} {a : Addr} (h : ExV H a (He.ga K "BadQuestion") [("part", v)]) : Sev K H v 1 (.ref a) := ⟨a, _, rfl, h, T.x_BadQuestion.xf, T.n_BadQuestion_part, T.x_BadQuestion.ec, T.kit_BadQuestion_CrowdError, T.xv_BadQuestion, T.kit_BadQuestion_BadBook, T.kit_BadQuestion_BadQuestion, T.kit_BadQuestion_BadFile, T.kit_BadQuestion_BadValue, T.kit_BadQuestion_BadNumber, T.kit_BadQuestion_BadPaper⟩
theorem sev_2 (T : Tx K mg base) {H : Hp} {v : V} {a : Addr} (h : ExV H a (He.ga K "BadFile") [("part", v)]) : Sev K H v 2 (.ref a) := ⟨a, _, rfl, h, T.x_BadFile.xf, T.n_BadFile_part, T.x_BadFile.ec, T.kit_BadFile_CrowdError, T.xv_BadFile, T.kit_BadFile_BadBook, T.kit_BadFile_BadQuestion, T.kit_BadFile_BadFile, T.kit_BadFile_BadValue, T.kit_BadFile_BadNumber, T.kit_BadFile_BadPaper⟩
theorem sev_3 (T : Tx K mg base) {H : Hp} {v : V} {a : Addr} (h : ExV H a (He.ga K "BadValue") [("part", v)]) : Sev K H v 3 (.ref a) := ⟨a, _, rfl, h, T.x_BadValue.xf, T.n_BadValue_part, T.x_BadValue.ec, T.kit_BadValue_CrowdError, T.xv_BadValue, T.kit_BadValue_BadBook, T.kit_BadValue_BadQuestion, T.kit_BadValue_BadFile, T.kit_BadValue_BadValue, T.kit_BadValue_BadNumber, T.kit_BadValue_BadPaper⟩
theorem sev_4 (T : Tx K mg base) {H : Hp} {v : V} {a : Addr} (h : ExV H a (He.ga K "BadNumber") [("part", v)]) : Sev K H v 4 (.ref a) := ⟨a, _, rfl, h, T.x_BadNumber.xf, T.n_BadNumber_part, T.x_BadNumber.ec, T.kit_BadNumber_CrowdError, T.xv_BadNumber, T.kit_BadNumber_BadBook, T.kit_BadNumber_BadQuestion, T.kit_BadNumber_BadFile, T.kit_BadNumber_BadValue, T.kit_BadNumber_BadNumber, T.kit_BadNumber_BadPaper⟩
theorem sev_5 (T : Tx K mg base) {H : Hp} {v : V} {a : Addr} (h : ExV H a (He.ga K "BadPaper") [("part", v)]) : Sev K H v 5 (.ref a) := ⟨a, _, rfl, h, T.x_BadPaper.xf, T.n_BadPaper_part, T.x_BadPaper.ec, T.kit_BadPaper_CrowdError, T.xv_BadPaper, T.kit_BadPaper_BadBook, T.kit_BadPaper_BadQuestion, T.kit_BadPaper_BadFile, T.kit_BadPaper_BadValue, T.kit_BadPaper_BadNumber, T.kit_BadPaper_BadPaper⟩
theorem sev_6 (T : Tx K mg base) {H : Hp} {v : V} {a : Addr} (h : ExV H a (He.ga K "Misfit") [("part", v)]) : Sev K H v 6 (.ref a) := ⟨a, _, rfl, h, T.x_Misfit.xf, T.n_Misfit_part, T.x_Misfit.ec, T.kit_Misfit_CrowdError, T.xv_Misfit, T.kit_Misfit_BadBook, T.kit_Misfit_BadQuestion, T.kit_Misfit_BadFile, T.kit_Misfit_BadValue, T.kit_Misfit_BadNumber, T.kit_Misfit_BadPaper⟩
/-- who is what: the i-th of the seven is just of the i-th class -/
def whoB (i : Nat) : List Bool := [decide (i = 0), decide (i = 1), decide (i = 2), decide (i = 3), decide (i = 4), decide (i = 5)]
def Mev (K : PySem.W.Frag) (H : Hp) (x : V) : Prop := ∃ (a C : Addr) (fs : List (Str × V)), x = .ref a ∧ ExV H a C fs ∧ ExcC K C ∧ PySem.W.kitOne K (.ref C) (.ref (He.ga K "CrowdError")) = some true ∧ PySem.W.kitOne K (.ref C) (.ref (He.ga K "BadBook")) = some false ∧ PySem.W.kitOne K (.ref C) (.ref (He.ga K "BadValue")) = some false ∧ PySem.W.kitOne K (.ref C) (.ref (He.ga K "Misfit")) = some false
theorem Mev.mono {H H' : Hp} {x : V} (e : Ex H H') (h : Mev K H x) : Mev K H' x := by
  obtain ⟨a, C, fs, h1, h2, h3⟩ := h
  exact ⟨a, C, fs, h1, h2.mono e, h3⟩
theorem smOk_of (T : Tx K mg base) : SmOk K := by
  have h := (He.ba (show (_ && _) = true from T.says.parts.1)).1
  revert h
  cases e : K.lookup sysModules with
  | none => exact fun h => absurd h Bool.false_ne_true
  | some o => exact fun h => ⟨o, e, eq_of_beq h⟩
theorem ok_law (T : Tx K mg base) (hP : ProgOk P "/claim/cut.py") : FnG P w K mg base CX0 40 (a_law K) (fdAt K (a_law K)) ["script"] (spLaw K) := by
  have GPen := ok_pen (P := P) (w := w) T
  have GDraw := ok_draw (P := P) (w := w) T
  have GPick := ok_pick (P := P) (w := w) T
  have GAny := fun k => ok_any (P := P) (w := w) T k
  have GTold := ok_told (P := P) (w := w) T 30
  have GInit := ok_init (P := P) (w := w) T 30
  have GEq : FnR P w K mg base CX0 32 (a_Paper___eq__ K) (spEqP K 30) := fnR_of (ok_eqP (P := P) (w := w) T 30) T.b_Paper___eq__
  have GMasks := ok_Masks (P := P) (w := w) T hP 30
  have GStairs := ok_Stairs (P := P) (w := w) T hP 30
  have GBool : ∀ C g, fnsB K C = some g → FnR P w K mg base CX0 1 g (spB K g) := gBool T
  refine funD_G T.F_law sc_law (fun cdv A outer s H vs Q E hg hr h => ?_)
  obtain ⟨a, ns, rfl, ha, hn, k⟩ := h
  have sc := sc_law
  have hu := hr.units
  refine ⟨_, PSs.nox ((pss_cons (ps_set (i := 1) sc.nd rfl (Or.inr rfl) (pe_call GPen (hr.mono (by decide)) (by rfl) T.m__law_pen T.k__law_pen T.b__law_pen .nil pass0 (pa_cons (pv 0) pa_nil)))
  (Evl.pss_cut (ps_set (i := 2) sc.nd rfl (Or.inr rfl) (pe_call (GAny 2) (hr.mono (by decide)) (by rfl) T.m__law_any_value T.k__law_any_value T.b__law_any_value .nil pass0 (pa_cons (pv 1) (pa_cons pe_int pa_nil))))
  (pss_cons (ps_set (i := 3) sc.nd rfl (Or.inl rfl) (pe_lst (pa_cons (pe_mkv T.x_BadBook.oex T.x_BadBook.ini T.x_BadBook.tyI (ok_BadBook (P := P) (w := w) T hP) (hr.mono (by decide)) T.b_BadBook___init__ pass0 (by rfl) T.m_BadBook (pa_cons (pv 2) pa_nil)) (pa_cons (pe_mkv T.x_BadQuestion.oex T.x_BadQuestion.ini T.x_BadQuestion.tyI (ok_BadQuestion (P := P) (w := w) T hP) (hr.mono (by decide)) T.b_BadQuestion___init__ pass0 (by rfl) T.m_BadQuestion (pa_cons (pv 2) pa_nil)) (pa_cons (pe_mkv T.x_BadFile.oex T.x_BadFile.ini T.x_BadFile.tyI (ok_BadFile (P := P) (w := w) T hP) (hr.mono (by decide)) T.b_BadFile___init__ pass0 (by rfl) T.m_BadFile (pa_cons (pv 2) pa_nil)) (pa_cons (pe_mkv T.x_BadValue.oex T.x_BadValue.ini T.x_BadValue.tyI (ok_BadValue (P := P) (w := w) T hP) (hr.mono (by decide)) T.b_BadValue___init__ pass0 (by rfl) T.m_BadValue (pa_cons (pv 2) pa_nil)) (pa_cons (pe_mkv T.x_BadNumber.oex T.x_BadNumber.ini T.x_BadNumber.tyI (ok_BadNumber (P := P) (w := w) T hP) (hr.mono (by decide)) T.b_BadNumber___init__ pass0 (by rfl) T.m_BadNumber (pa_cons (pv 2) pa_nil)) (pa_cons (pe_mkv T.x_BadPaper.oex T.x_BadPaper.ini T.x_BadPaper.tyI (ok_BadPaper (P := P) (w := w) T hP) (hr.mono (by decide)) T.b_BadPaper___init__ pass0 (by rfl) T.m_BadPaper (pa_cons (pv 2) pa_nil)) (pa_cons (pe_mkv T.x_Misfit.oex T.x_Misfit.ini T.x_Misfit.tyI (ok_Misfit (P := P) (w := w) T hP) (hr.mono (by decide)) T.b_Misfit___init__ pass0 (by rfl) T.m_Misfit (pa_cons (pv 2) pa_nil)) pa_nil)))))))))
  (pss_cons (ps_if (pt_cmpR (neD K hu) (pe_lc (own := [("one", 4)]) rfl sc.nd (pi_list (pv 3)) (blkOk_by (N := ["script", "pen", "value", "some", "one", "more", "alike", "row", "turn", "lap", "parts", "word", "paper", "denial", "other", "due", "kept"]) (sc := defScope s_law) (by decide +kernel)) (fun _ _ _ _ _ => (pg_name (i := 4) sc.nd rfl (Or.inl rfl) (Or.inr rfl))) (fun _ _ _ _ _ => (pts_one (PW.pt (pw_or (pt_cmpR op_ne (pe_callB (reprD K hg hu) (by rfl) T.f_repr (by decide +kernel) (pa_cons (ofldK K (pv 4)) pa_nil)) (pe_callB (reprD K hg hu) (by rfl) T.f_repr (by decide +kernel) (pa_cons (pv 2) pa_nil)) (nomark _)) (pw_or (pt_not (pt_val (pe_callB (isXC K) (by rfl) T.f_isinstance (by decide +kernel) (pa_cons (pv 4) (pa_cons (pe_glob (v := .ref (He.ga K "CrowdError")) rfl (T.m_CrowdError) rfl) pa_nil))))) (pw_or1 (pt_not (pt_val (pe_callB (isXC K) (by rfl) T.f_isinstance (by decide +kernel) (pa_cons (pv 4) (pa_cons (pe_bltn (v := .ty "ValueError") (by rfl) T.f_ValueError (by decide +kernel) rfl) pa_nil))))))))))) (fun _ _ _ _ _ => (pv 4))) (pe_lst pa_nil) (nomark _))
  (pss_one (ps_ret pe_bl))
  pss_nil)
  (pss_cons (ps_set (i := 5) sc.nd rfl (Or.inl rfl) (pe_lst (pa_cons (pe_mkv T.x_Nothing.oex T.x_Nothing.ini T.x_Nothing.tyI (ok_Nothing (P := P) (w := w) T hP) (hr.mono (by decide)) T.b_Nothing___init__ pass0 (by rfl) T.m_Nothing (pa_cons (pv 2) pa_nil)) (pa_cons (pe_mkv T.x_NoName.oex T.x_NoName.ini T.x_NoName.tyI (ok_NoName (P := P) (w := w) T hP) (hr.mono (by decide)) T.b_NoName___init__ pass0 (by rfl) T.m_NoName (pa_cons (pv 2) pa_nil)) (pa_cons (pe_mkv T.x_BadText.oex T.x_BadText.ini T.x_BadText.tyI (ok_BadText (P := P) (w := w) T hP) (hr.mono (by decide)) T.b_BadText___init__ pass0 (by rfl) T.m_BadText (pa_cons (pv 2) (pa_cons pe_int pa_nil))) (pa_cons (pe_mkv T.x_BadLine.oex T.x_BadLine.ini T.x_BadLine.tyI (ok_BadLine (P := P) (w := w) T hP) (hr.mono (by decide)) T.b_BadLine___init__ pass0 (by rfl) T.m_BadLine (pa_cons (pv 2) pa_nil)) (pa_cons (pe_mkv T.x_TooMany.oex T.x_TooMany.ini T.x_TooMany.tyI (ok_TooMany (P := P) (w := w) T hP) (hr.mono (by decide)) T.b_TooMany___init__ pass0 (by rfl) T.m_TooMany (pa_cons pe_str (pa_cons (pv 2) pa_nil))) pa_nil)))))))
  (pss_cons (ps_if (pt_cmpR op_ne (pe_callB (reprD K hg hu) (by rfl) T.f_repr (by decide +kernel) (pa_cons (pe_lst (pa_cons (pe_ofld (pe_ix ix_list (pv 5) pe_int (fun _ _ => rfl))) (pa_cons (pe_ofld (pe_ix ix_list (pv 5) pe_int (fun _ _ => rfl))) (pa_cons (pe_ofld (pe_ix ix_list (pv 5) pe_int (fun _ _ => rfl))) (pa_cons (pe_ofld (pe_ix ix_list (pv 5) pe_int (fun _ _ => rfl))) (pa_cons (pe_ofld (pe_ix ix_list (pv 5) pe_int (fun _ _ => rfl))) (pa_cons (pe_ofld (pe_ix ix_list (pv 5) pe_int (fun _ _ => rfl))) (pa_cons (pe_ofld (pe_ix ix_list (pv 5) pe_int (fun _ _ => rfl))) pa_nil)))))))) pa_nil)) (pe_callB (reprD K hg hu) (by rfl) T.f_repr (by decide +kernel) (pa_cons (pe_lst (pa_cons (pv 2) (pa_cons (pv 2) (pa_cons (pv 2) (pa_cons pe_int (pa_cons (pv 2) (pa_cons pe_str (pa_cons (pv 2) pa_nil)))))))) pa_nil)) (nomark _))
  (pss_one (ps_ret pe_bl))
  pss_nil)
  (pss_cons (ps_setLc (i := 6) (own := [("one", 4)]) rfl sc.nd rfl rfl (sw_true rfl rfl rfl (by decide +kernel)) (pi_list (pv 3)) (blkOk_by (N := ["script", "pen", "value", "some", "one", "more", "alike", "row", "turn", "lap", "parts", "word", "paper", "denial", "other", "due", "kept"]) (sc := defScope s_law) (by decide +kernel)) (fun _ _ _ _ _ => (pg_name (i := 4) sc.nd rfl (Or.inl rfl) (Or.inr rfl))) (fun _ _ _ _ _ => pts_nil) (fun _ _ _ _ _ => (pe_lst (pa_cons (pe_callB (isXC K) (by rfl) T.f_isinstance (by decide +kernel) (pa_cons (pv 4) (pa_cons (pe_glob (v := .ref (He.ga K "BadBook")) rfl (T.m_BadBook) rfl) pa_nil))) (pa_cons (pe_callB (isXC K) (by rfl) T.f_isinstance (by decide +kernel) (pa_cons (pv 4) (pa_cons (pe_glob (v := .ref (He.ga K "BadQuestion")) rfl (T.m_BadQuestion) rfl) pa_nil))) (pa_cons (pe_callB (isXC K) (by rfl) T.f_isinstance (by decide +kernel) (pa_cons (pv 4) (pa_cons (pe_glob (v := .ref (He.ga K "BadFile")) rfl (T.m_BadFile) rfl) pa_nil))) (pa_cons (pe_callB (isXC K) (by rfl) T.f_isinstance (by decide +kernel) (pa_cons (pv 4) (pa_cons (pe_glob (v := .ref (He.ga K "BadValue")) rfl (T.m_BadValue) rfl) pa_nil))) (pa_cons (pe_callB (isXC K) (by rfl) T.f_isinstance (by decide +kernel) (pa_cons (pv 4) (pa_cons (pe_glob (v := .ref (He.ga K "BadNumber")) rfl (T.m_BadNumber) rfl) pa_nil))) (pa_cons (pe_callB (isXC K) (by rfl) T.f_isinstance (by decide +kernel) (pa_cons (pv 4) (pa_cons (pe_glob (v := .ref (He.ga K "BadPaper")) rfl (T.m_BadPaper) rfl) pa_nil))) pa_nil)))))))))
  (Evl.pss_cut (ps_if (PW.pt (pw_or (pt_cmpR (neD K hu) (pe_lc (own := [("row", 7)]) rfl sc.nd (pi_list (pv 6)) (blkOk_by (N := ["script", "pen", "value", "some", "one", "more", "alike", "row", "turn", "lap", "parts", "word", "paper", "denial", "other", "due", "kept"]) (sc := defScope s_law) (by decide +kernel)) (fun _ _ _ _ _ => (pg_name (i := 7) sc.nd rfl (Or.inl rfl) (Or.inr rfl))) (fun _ _ _ _ _ => pts_nil) (fun _ _ _ _ _ => (bmK K PySem.F.plainAttrs_list PySem.F.slot_list_count PySem.F.type_list_count (countB K hu) (pv 7) (pa_cons pe_bl pa_nil)))) (pe_op op_cat (pe_op op_rep (pe_lst (pa_cons pe_int pa_nil)) pe_int) (pe_lst (pa_cons pe_int pa_nil))) (nomark _)) (pw_or1 (pt_cmpR (neD K hu) (pe_lc (own := [("one", 4)]) rfl sc.nd (pi_list (pv 5)) (blkOk_by (N := ["script", "pen", "value", "some", "one", "more", "alike", "row", "turn", "lap", "parts", "word", "paper", "denial", "other", "due", "kept"]) (sc := defScope s_law) (by decide +kernel)) (fun _ _ _ _ _ => (pg_name (i := 4) sc.nd rfl (Or.inl rfl) (Or.inr rfl))) (fun _ _ _ _ _ => (pts_one (PW.pt (pw_or (pt_val (pe_callB (isXTC K) (by rfl) T.f_isinstance (by decide +kernel) (pa_cons (pv 4) (pa_cons (pe_tup (pa_cons (pe_glob (v := .ref (He.ga K "BadBook")) rfl (T.m_BadBook) rfl) (pa_cons (pe_glob (v := .ref (He.ga K "BadValue")) rfl (T.m_BadValue) rfl) (pa_cons (pe_glob (v := .ref (He.ga K "Misfit")) rfl (T.m_Misfit) rfl) pa_nil)))) pa_nil)))) (pw_or1 (pt_not (pt_val (pe_callB (isXC K) (by rfl) T.f_isinstance (by decide +kernel) (pa_cons (pv 4) (pa_cons (pe_glob (v := .ref (He.ga K "CrowdError")) rfl (T.m_CrowdError) rfl) pa_nil)))))))))) (fun _ _ _ _ _ => (pv 4))) (pe_lst pa_nil) (nomark _)))))
  (pss_one (ps_ret pe_bl))
  pss_nil)
  (Evl.pss_cut (ps_for PassesOwn.never rfl (pi_range1 rfl T.f_range (pa_cons pe_int pa_nil)) (pg_name (i := 8) sc.nd rfl (Or.inl rfl))
  (pss_cons (ps_setLc (i := 10) (own := [("lap", 9)]) rfl sc.nd rfl rfl (sw_true rfl rfl rfl (by decide +kernel)) (pi_range1 rfl T.f_range (pa_cons pe_int pa_nil)) (blkOk_by (N := ["script", "pen", "value", "some", "one", "more", "alike", "row", "turn", "lap", "parts", "word", "paper", "denial", "other", "due", "kept"]) (sc := defScope s_law) (by decide +kernel)) (fun _ _ _ _ _ => (pg_name (i := 9) sc.nd rfl (Or.inl rfl) (Or.inr rfl))) (fun _ _ _ _ _ => pts_nil) (fun _ _ _ _ _ => (pe_call (GAny 3) (hr.mono (by decide)) (by rfl) T.m__law_any_value T.k__law_any_value T.b__law_any_value .nil pass0 (pa_cons (pv 1) (pa_cons pe_int pa_nil)))))
  (pss_cons (ps_set (i := 11) sc.nd rfl (Or.inl rfl) (pe_call GPick (hr.mono (by decide)) (by rfl) T.m__law_pick T.k__law_pick T.b__law_pick .nil pass0 (pa_cons (pv 1) (pa_cons (pe_lst (pa_cons pe_str (pa_cons pe_str (pa_cons pe_str pa_nil)))) pa_nil))))
  (pss_cons (ps_par (i := 12) (j := 13) (by rfl) sc.nd rfl rfl (by decide) rfl rfl (pa_cons (StX.pe_makeR T.mk_Paper GInit (hr.mono (by decide)) (by rfl) T.m_Paper pass0 (pa_cons (pv 11) (pa_cons (pe_ix ix_list (pv 10) pe_int (fun _ _ => rfl)) (pa_cons (pe_ix ix_list (pv 10) pe_int (fun _ _ => rfl)) (pa_cons (pe_ix ix_list (pv 10) pe_int (fun _ _ => rfl)) pa_nil))))) (pa_cons (StX.pe_makeR T.mki_Denial GInit (hr.mono (by decide)) (by rfl) T.m_Denial pass0 (pa_cons (pv 11) (pa_cons (pe_ix ix_list (pv 10) pe_int (fun _ _ => rfl)) (pa_cons (pe_ix ix_list (pv 10) pe_int (fun _ _ => rfl)) (pa_cons (pe_ix ix_list (pv 10) pe_int (fun _ _ => rfl)) pa_nil))))) pa_nil)) (by rfl))
  (pss_cons (ps_if (PW.pt (pw_or (pt_cmpR op_ne (pe_callB (reprD K hg hu) (by rfl) T.f_repr (by decide +kernel) (pa_cons (pe_lst (pa_cons (pe_fld (pv 12) rfl) (pa_cons (pe_fld (pv 12) rfl) (pa_cons (pe_fld (pv 13) rfl) (pa_cons (pe_fld (pv 13) rfl) pa_nil))))) pa_nil)) (pe_callB (reprD K hg hu) (by rfl) T.f_repr (by decide +kernel) (pa_cons (pe_op op_rep (pe_lst (pa_cons (pv 11) (pa_cons (pe_call GTold (hr.mono (by decide)) (by rfl) T.m__law_as_told T.k__law_as_told T.b__law_as_told .nil pass0 (pa_cons (pv 10) pa_nil)) pa_nil))) pe_int) pa_nil)) (nomark _)) (pw_or (pt_cmpR op_notBl (pe_callTy (call_boolI (fns := fnsB K) (spB := spB K) (n := 1) GBool (hr.mono (by decide)) pass0) (by rfl) T.f_bool (by decide +kernel) (pa_cons (pv 12) pa_nil)) pe_bl (nomark _)) (pw_or1 (pt_cmpR op_notBl (pe_callTy (call_boolI (fns := fnsB K) (spB := spB K) (n := 1) GBool (hr.mono (by decide)) pass0) (by rfl) T.f_bool (by decide +kernel) (pa_cons (pv 13) pa_nil)) pe_bl (nomark _))))))
  (pss_one (ps_ret pe_bl))
  pss_nil)
  (pss_cons (ps_if (PW.pt (pw_or (pt_not (pt_val (pe_callB call_isi (by rfl) T.f_isinstance (by decide +kernel) (pa_cons (pv 13) (pa_cons (pe_glob (v := .ref (He.ga K "Paper")) rfl (T.m_Paper) rfl) pa_nil))))) (pw_or (pt_cmpR (op_eqI GEq (hr.mono (by decide)) pass0) (pv 12) (pv 13) (nomark _)) (pw_or (pt_cmpR (op_eqI GEq (hr.mono (by decide)) pass0) (pv 13) (pv 12) (nomark _)) (pw_or (pt_cmpR (op_eqI GEq (hr.mono (by decide)) pass0) (pv 12) (pe_fld (pv 12) rfl) (nomark _)) (pw_or1 (pt_not (pt_cmpR (op_eqI GEq (hr.mono (by decide)) pass0) (pv 12) (StX.pe_makeR T.mk_Paper GInit (hr.mono (by decide)) (by rfl) T.m_Paper pass0 (pa_cons (pv 11) (pa_cons (pe_call GTold (hr.mono (by decide)) (by rfl) T.m__law_as_told T.k__law_as_told T.b__law_as_told .nil pass0 (pa_cons (pe_ix ix_list (pv 10) pe_int (fun _ _ => rfl)) pa_nil)) (pa_cons (pe_ix ix_list (pv 10) pe_int (fun _ _ => rfl)) (pa_cons (pe_ix ix_list (pv 10) pe_int (fun _ _ => rfl)) pa_nil))))) (nomark _)))))))))
  (pss_one (ps_ret pe_bl))
  pss_nil)
  (pss_cons (ps_setLc (i := 14) (own := [("one", 4)]) rfl sc.nd rfl rfl (sw_true rfl rfl rfl (by decide +kernel)) (pi_list (pv 10)) (blkOk_by (N := ["script", "pen", "value", "some", "one", "more", "alike", "row", "turn", "lap", "parts", "word", "paper", "denial", "other", "due", "kept"]) (sc := defScope s_law) (by decide +kernel)) (fun _ _ _ _ _ => (pg_name (i := 4) sc.nd rfl (Or.inl rfl) (Or.inr rfl))) (fun _ _ _ _ _ => pts_nil) (fun _ _ _ _ _ => (pe_ifExp (pt_cmpR op_eq (pe_call GDraw (hr.mono (by decide)) (by rfl) T.m__law_draw T.k__law_draw T.b__law_draw .nil pass0 (pa_cons (pv 1) (pa_cons pe_int pa_nil))) pe_int (nomark _)) (pe_call (GAny 2) (hr.mono (by decide)) (by rfl) T.m__law_any_value T.k__law_any_value T.b__law_any_value .nil pass0 (pa_cons (pv 1) (pa_cons pe_int pa_nil))) (pv 4))))
  (pss_cons (ps_set (i := 15) sc.nd rfl (Or.inl rfl) (pe_cmpR op_eq (pe_callB (reprD K hg hu) (by rfl) T.f_repr (by decide +kernel) (pa_cons (pe_call GTold (hr.mono (by decide)) (by rfl) T.m__law_as_told T.k__law_as_told T.b__law_as_told .nil pass0 (pa_cons (pv 10) pa_nil)) pa_nil)) (pe_callB (reprD K hg hu) (by rfl) T.f_repr (by decide +kernel) (pa_cons (pe_call GTold (hr.mono (by decide)) (by rfl) T.m__law_as_told T.k__law_as_told T.b__law_as_told .nil pass0 (pa_cons (pv 14) pa_nil)) pa_nil)) (nomark _)))
  (pss_one (ps_if (PW.pt (pw_or (pt_cmpR op_ne (pe_cmpR (op_eqI GEq (hr.mono (by decide)) pass0) (pv 12) (StX.pe_makeR T.mk_Paper GInit (hr.mono (by decide)) (by rfl) T.m_Paper pass0 (pa_cons (pv 11) (pa_cons (pe_ix ix_list (pv 14) pe_int (fun _ _ => rfl)) (pa_cons (pe_ix ix_list (pv 14) pe_int (fun _ _ => rfl)) (pa_cons (pe_ix ix_list (pv 14) pe_int (fun _ _ => rfl)) pa_nil))))) (nomark _)) (pv 15) (nomark _)) (pw_or (pt_cmpR op_eq (pe_cmpR (op_neI GEq (hr.mono (by decide)) pass0) (pv 12) (StX.pe_makeR T.mk_Paper GInit (hr.mono (by decide)) (by rfl) T.m_Paper pass0 (pa_cons (pv 11) (pa_cons (pe_ix ix_list (pv 14) pe_int (fun _ _ => rfl)) (pa_cons (pe_ix ix_list (pv 14) pe_int (fun _ _ => rfl)) (pa_cons (pe_ix ix_list (pv 14) pe_int (fun _ _ => rfl)) pa_nil))))) (nomark _)) (pv 15) (nomark _)) (pw_or1 (pt_cmpR (op_eqI GEq (hr.mono (by decide)) pass0) (pv 12) (StX.pe_makeR T.mk_Paper GInit (hr.mono (by decide)) (by rfl) T.m_Paper pass0 (pa_cons (pv 11) (pa_cons (pe_ix ix_list (pv 10) pe_int (fun _ _ => rfl)) (pa_cons (pe_ix ix_list (pv 10) pe_int (fun _ _ => rfl)) pa_nil)))) (nomark _))))))
  (pss_one (ps_ret pe_bl))
  pss_nil))))))))))
  (Evl.pss_cut (ps_if (PW.pt (pw_or (pt_cmpR (op_eqI GEq (hr.mono (by decide)) pass0) (StX.pe_makeR T.mk_Paper GInit (hr.mono (by decide)) (by rfl) T.m_Paper pass0 (pa_cons pe_str (pa_cons pe_int pa_nil))) (StX.pe_makeR T.mk_Paper GInit (hr.mono (by decide)) (by rfl) T.m_Paper pass0 (pa_cons pe_str (pa_cons pe_bl pa_nil))) (nomark _)) (pw_or (pt_cmpR (op_eqI GEq (hr.mono (by decide)) pass0) (StX.pe_makeR T.mk_Paper GInit (hr.mono (by decide)) (by rfl) T.m_Paper pass0 (pa_cons pe_str (pa_cons (pe_lst (pa_cons pe_int pa_nil)) pa_nil))) (StX.pe_makeR T.mk_Paper GInit (hr.mono (by decide)) (by rfl) T.m_Paper pass0 (pa_cons pe_str (pa_cons (pe_tup (pa_cons pe_bl pa_nil)) pa_nil))) (nomark _)) (pw_or (pt_cmpR (op_eqI GEq (hr.mono (by decide)) pass0) (StX.pe_makeR T.mk_Paper GInit (hr.mono (by decide)) (by rfl) T.m_Paper pass0 (pa_cons pe_str (pa_cons pe_int pa_nil))) (StX.pe_makeR T.mk_Paper GInit (hr.mono (by decide)) (by rfl) T.m_Paper pass0 (pa_cons pe_str (pa_cons pe_int pa_nil))) (nomark _)) (pw_or1 (pt_cmpR (op_eqI GEq (hr.mono (by decide)) pass0) (StX.pe_makeR T.mk_Paper GInit (hr.mono (by decide)) (by rfl) T.m_Paper pass0 (pa_cons pe_str (pa_cons pe_str pa_nil))) (StX.pe_makeR T.mk_Paper GInit (hr.mono (by decide)) (by rfl) T.m_Paper pass0 (pa_cons pe_str (pa_cons pe_int pa_nil))) (nomark _)))))))
  (pss_one (ps_ret pe_bl))
  pss_nil)
  (pss_cons (ps_set (i := 16) sc.nd rfl (Or.inl rfl) (pe_lst (pa_cons (pe_lst (pa_cons pe_int (pa_cons (pe_lst (pa_cons pe_int pa_nil)) pa_nil))) pa_nil)))
  (pss_cons (ps_set (i := 12) sc.nd rfl (Or.inl rfl) (StX.pe_makeR T.mk_Paper GInit (hr.mono (by decide)) (by rfl) T.m_Paper pass0 (pa_cons pe_str (pa_cons (pv 16) pa_nil))))
  (pss_cons (ps_expr (pe_bm PySem.F.plainAttrs_list PySem.F.slot_list_append PySem.F.type_list_append mt_append (pe_ix ix_list (pe_ix ix_list (pv 16) pe_int (fun _ _ => rfl)) pe_int (fun _ _ => rfl)) (pa_cons pe_int pa_nil)))
  (pss_one (ps_ret (pe_and (pe_cmpR (op_eqD hu) (pe_fld (pv 12) rfl) (pe_tup (pa_cons (pe_tup (pa_cons (pe_tup (pa_cons pe_int (pa_cons (pe_tup (pa_cons pe_int pa_nil)) pa_nil))) pa_nil)) pa_nil)) (nomark _)) (pe_and (pe_cmpR (op_eqD hu) (pe_fld (pe_make T.mk_Masks GMasks (hr.mono (by decide)) (by rfl) T.m_Masks T.b_Masks___init__ .nil pass0 (pa_cons (pe_lst (pa_cons pe_int pa_nil)) (pa_cons (pe_lst (pa_cons pe_int pa_nil)) pa_nil))) rfl) (pe_tup (pa_cons (pe_tup (pa_cons pe_int pa_nil)) (pa_cons (pe_tup (pa_cons pe_int pa_nil)) pa_nil))) (nomark _)) (pe_and (pe_cmpR (op_eqD hu) (pe_fld (pe_makeK0 T.mk_Masks GMasks (hr.mono (by decide)) (by rfl) T.m_Masks T.kb_Masks___init__ pass0 (pk_cons pe_int (pk_cons (pe_lst (pa_cons pe_int pa_nil)) pk_nil))) rfl) (pe_tup (pa_cons pe_int pa_nil)) (nomark _)) (pe_and (pe_cmpR (op_eqD hu) (pe_fld (pe_makeK0 T.mk_Stairs GStairs (hr.mono (by decide)) (by rfl) T.m_Stairs T.kb_Stairs___init__ pass0 (pk_cons (pe_lst (pa_cons (pe_lst (pa_cons pe_int pa_nil)) pa_nil)) pk_nil)) rfl) (pe_tup (pa_cons (pe_tup (pa_cons pe_int pa_nil)) pa_nil)) (nomark _)) (pe_one (pe_not (pe_cmpR (op_eqI GEq (hr.mono (by decide)) pass0) (pe_make T.mk_Masks GMasks (hr.mono (by decide)) (by rfl) T.m_Masks T.b_Masks___init__ .nil pass0 (pa_cons pe_int (pa_cons pe_int pa_nil))) (pe_make T.mk_Stairs GStairs (hr.mono (by decide)) (by rfl) T.m_Stairs T.b_Stairs___init__ .nil pass0 (pa_cons pe_int pa_nil)) (nomark _)))))))))))))))))))))))), ?_⟩
  have hQ : ∀ H', Q (.bl true) H' := k
  have sm : SmOk K := smOk_of T
  -- the pen, a value
  refine ⟨.ref a, rfl, a, ns, rfl, ha, hn, fun p c H1 hp0 e1 hpn hcn => ?_⟩
  refine Evl.q_cut (M := fun σ H' => ∃ (F : Hp) (v : V) (d : PyData) (m : Nat), σ = [some (.ref a), some (.ref p), some v, none, none, none, none, none, none, none, none, none, none, none, none, none, none] ∧ PenAt H' p c m ∧ m ≤ 26 ∧ F p = none ∧ Ex F H' ∧ Rp K F v d ∧ drD d = true ∧ d.depth ≤ 4) ?A ?BCDE
  case A =>
    refine ⟨.ref p, rfl, p, c, off p H1, 0, rfl, hp0, off_at, off_ex p H1, by decide, fun r d H2 F2 m st hp2 hm2 h1 h2 h3 => ⟨F2, r, d, m, rfl, hp2, by simpa [cost] using hm2, st.fp, st.fh, h1, h2, h3⟩⟩
  case BCDE =>
    rintro σ' H2 ⟨F, v, d, m, rfl, hp, hm, fp, ex, rv, dv, dd⟩
    -- the exceptions
    refine go_seq (go_asg (go_lst (go_cons (mkv1 rfl fun a1 G1 e1 n1 x1 => (go_cons (mkv1 rfl fun a2 G2 e2 n2 x2 => (go_cons (mkv1 rfl fun a3 G3 e3 n3 x3 => (go_cons (mkv1 rfl fun a4 G4 e4 n4 x4 => (go_cons (mkv1 rfl fun a5 G5 e5 n5 x5 => (go_cons (mkv1 rfl fun a6 G6 e6 n6 x6 => (go_cons (mkv1 rfl fun a7 G7 e7 n7 x7 => ⟨by show 7 ≤ sizeLine; decide, fun D hD => ?_⟩))))))))))))))))
    have sev : ∀ (i : Nat) (x : V), ([.ref a1, .ref a2, .ref a3, .ref a4, .ref a5, .ref a6, .ref a7] : List V)[i]? = some x → Sev K (upd G7 D (.lst [.ref a1, .ref a2, .ref a3, .ref a4, .ref a5, .ref a6, .ref a7])) v i x := fun i x hx => by
      match i, hx with
      | 0, hx => exact (Option.some.inj hx) ▸ (sev_0 T (x1.mono (((e2.trans (e3.trans (e4.trans (e5.trans (e6.trans e7))))))))).mono (Evl.Ex.new hD)
      | 1, hx => exact (Option.some.inj hx) ▸ (sev_1 T (x2.mono (((e3.trans (e4.trans (e5.trans (e6.trans e7)))))))).mono (Evl.Ex.new hD)
      | 2, hx => exact (Option.some.inj hx) ▸ (sev_2 T (x3.mono (((e4.trans (e5.trans (e6.trans e7))))))).mono (Evl.Ex.new hD)
      | 3, hx => exact (Option.some.inj hx) ▸ (sev_3 T (x4.mono (((e5.trans (e6.trans e7)))))).mono (Evl.Ex.new hD)
      | 4, hx => exact (Option.some.inj hx) ▸ (sev_4 T (x5.mono (((e6.trans e7))))).mono (Evl.Ex.new hD)
      | 5, hx => exact (Option.some.inj hx) ▸ (sev_5 T (x6.mono (e7))).mono (Evl.Ex.new hD)
      | 6, hx => exact (Option.some.inj hx) ▸ (sev_6 T (x7)).mono (Evl.Ex.new hD)
      | i + 7, hx => simp at hx
    have eG : Ex H2 G7 := (e1.trans (e2.trans (e3.trans (e4.trans (e5.trans (e6.trans e7))))))
    have eD : Ex G7 (upd G7 D (.lst [.ref a1, .ref a2, .ref a3, .ref a4, .ref a5, .ref a6, .ref a7])) := Evl.Ex.new hD
    generalize hH8 : upd G7 D (.lst [.ref a1, .ref a2, .ref a3, .ref a4, .ref a5, .ref a6, .ref a7]) = H8 at sev eD ⊢
    have hD8 : H8 D = some (.lst [.ref a1, .ref a2, .ref a3, .ref a4, .ref a5, .ref a6, .ref a7]) := by rw [← hH8]; exact upd_same
    have e28 : Ex H2 H8 := eG.trans eD
    have ex8 : Ex F H8 := ex.trans e28
    dsimp only [gName]
    refine Evl.q_when (b := false) (Evl.et_test (Evl.ev_is (Evl.ev_opLL (z := .bl false) (Evl.el_lcL (fun _ => false) (fun _ => .non) (Evl.ev_var rfl) (Evl.sq_of hD8) (by show 7 ≤ 40000; decide) (fun x => rfl) (fun i x H9 e9 hx => ?_) (fun _ _ _ _ _ hf => nomatch hf)) (Evl.el_lst Evl.ea_nil (by decide)) (fun p1 p2 H9 h1 h2 _ H10 e10 Q q => ⟨.list [], .list [], Dp.lst (Evl.sq_of (e10 _ _ h1)) .nil, Dp.lst (Evl.sq_of (e10 _ _ h2)) .nil, rfl, rfl, q H10 (Evl.Ex.refl _)⟩)) rfl)) (fun h => nomatch h) fun _ H9 e9 => ?_
    · obtain ⟨b, C, rfl, xv, xf, nf, ec, kc, kv, _⟩ := (sev i x hx).mono e9
      refine Evl.et_is (Evl.et_or (a := false) (b := false) (Evl.et_test (Evl.ev_is (Evl.ev_op (ev_repr (ev_ofld (Evl.ev_var rfl) xv xf nf rfl) rv (ex8.trans e9) sm dv dd (by decide)) (ev_repr (Evl.ev_var rfl) rv (ex8.trans e9) sm dv dd (by decide)) (Evl.rv_ne rfl)) (by rw [decide_eq_true rfl]; rfl))) fun _ => Evl.et_is (Evl.et_or (a := false) (b := false) (Evl.et_is (Evl.et_not (Evl.et_B (ev_isX (Evl.ev_var rfl) xv ec (.own _) kc))) rfl) fun _ => Evl.et_is (Evl.et_not (Evl.et_B (ev_isX (Evl.ev_var rfl) xv ec (.ty _) kv))) rfl) rfl) rfl
    -- five more
    have rv9 : Rp K H9 v d := rv.mono (ex8.trans e9)
    refine go_seq (go_asg (go_lst (go_cons (mkv1 rfl fun b1 I1 f1 _ y1 => (go_cons (mkv1 rfl fun b2 I2 f2 _ y2 => (go_cons (mkv2 (fun R r => ⟨_, rfl, r⟩) fun b3 I3 f3 _ y3 => (go_cons (mkv1 rfl fun b4 I4 f4 _ y4 => (go_cons (mkv2 (fun R r => ⟨_, rfl, r⟩) fun b5 I5 f5 _ y5 => ⟨by show 5 ≤ sizeLine; decide, fun D2 hD2 => ?_⟩))))))))))))
    have z5 := y5.mono (Evl.Ex.new (o := .lst [.ref b1, .ref b2, .ref b3, .ref b4, .ref b5]) hD2)
    have z4 := y4.mono (f5.trans (Evl.Ex.new (o := .lst [.ref b1, .ref b2, .ref b3, .ref b4, .ref b5]) hD2))
    have z3 := y3.mono (f4.trans (f5.trans (Evl.Ex.new (o := .lst [.ref b1, .ref b2, .ref b3, .ref b4, .ref b5]) hD2)))
    have z2 := y2.mono (f3.trans (f4.trans (f5.trans (Evl.Ex.new (o := .lst [.ref b1, .ref b2, .ref b3, .ref b4, .ref b5]) hD2))))
    have z1 := y1.mono (f2.trans (f3.trans (f4.trans (f5.trans (Evl.Ex.new (o := .lst [.ref b1, .ref b2, .ref b3, .ref b4, .ref b5]) hD2)))))
    have f9 : Ex H9 (upd I5 D2 (.lst [.ref b1, .ref b2, .ref b3, .ref b4, .ref b5])) := f1.trans (f2.trans (f3.trans (f4.trans (f5.trans (Evl.Ex.new hD2)))))
    have hD22 : (upd I5 D2 (.lst [.ref b1, .ref b2, .ref b3, .ref b4, .ref b5])) D2 = some (.lst [.ref b1, .ref b2, .ref b3, .ref b4, .ref b5]) := upd_same
    generalize hH10 : upd I5 D2 (.lst [.ref b1, .ref b2, .ref b3, .ref b4, .ref b5]) = H10 at z1 z2 z3 z4 z5 f9 hD22 ⊢
    have rv10 := rv9.mono f9
    dsimp only [gName]
    have r7 : RpA K H10 [v, v, v, .int 1, v, .str "a", v] [d, d, d, .int 1, d, .str "a", d] := .cons rv10 (.cons rv10 (.cons rv10 (.cons (.int 1) (.cons rv10 (.cons (.str _) (.cons rv10 .nil))))))
    have d7 : drAll [d, d, d, .int 1, d, .str "a", d] = true := by simp only [drAll, dv]; decide
    have p7 : PyData.depthAll [d, d, d, .int 1, d, .str "a", d] ≤ 4 := by simp only [PyData.depthAll, PyData.depth]; omega
    refine Evl.q_when (b := false) (Evl.et_test (Evl.ev_is (Evl.ev_op
      (ev_reprL (n := 4) (Evl.el_lst (Evl.ea_cons (ev_ofld (Evl.ev_op (Evl.ev_var rfl) Evl.ev_c (Evl.rv_ixL (Evl.sq_of hD22) rfl)) z1 T.x_Nothing.xf T.n_Nothing_word rfl)
        (Evl.ea_cons (ev_ofld (Evl.ev_op (Evl.ev_var rfl) Evl.ev_c (Evl.rv_ixL (Evl.sq_of hD22) rfl)) z2 T.x_NoName.xf T.n_NoName_name rfl)
        (Evl.ea_cons (ev_ofld (Evl.ev_op (Evl.ev_var rfl) Evl.ev_c (Evl.rv_ixL (Evl.sq_of hD22) rfl)) z3 T.x_BadText.xf T.n_BadText_line rfl)
        (Evl.ea_cons (ev_ofld (Evl.ev_op (Evl.ev_var rfl) Evl.ev_c (Evl.rv_ixL (Evl.sq_of hD22) rfl)) z3 T.x_BadText.xf T.n_BadText_word rfl)
        (Evl.ea_cons (ev_ofld (Evl.ev_op (Evl.ev_var rfl) Evl.ev_c (Evl.rv_ixL (Evl.sq_of hD22) rfl)) z4 T.x_BadLine.xf T.n_BadLine_word rfl)
        (Evl.ea_cons (ev_ofld (Evl.ev_op (Evl.ev_var rfl) Evl.ev_c (Evl.rv_ixL (Evl.sq_of hD22) rfl)) z5 T.x_TooMany.xf T.n_TooMany_what rfl)
        (Evl.ea_cons (ev_ofld (Evl.ev_op (Evl.ev_var rfl) Evl.ev_c (Evl.rv_ixL (Evl.sq_of hD22) rfl)) z5 T.x_TooMany.xf T.n_TooMany_most rfl) Evl.ea_nil))))))) (by show 7 ≤ 100000; decide)) r7 (Evl.Ex.refl _) sm d7 (by show 7 ≤ 14; decide) p7 (by decide))
      (ev_reprL (n := 4) (Evl.el_lst (Evl.ea_cons (Evl.ev_var rfl) (Evl.ea_cons (Evl.ev_var rfl) (Evl.ea_cons (Evl.ev_var rfl) (Evl.ea_cons Evl.ev_c (Evl.ea_cons (Evl.ev_var rfl) (Evl.ea_cons Evl.ev_c (Evl.ea_cons (Evl.ev_var rfl) Evl.ea_nil))))))) (by show 7 ≤ 100000; decide)) r7 (Evl.Ex.refl _) sm d7 (by show 7 ≤ 14; decide) p7 (by decide))
      (Evl.rv_ne rfl)) (by rw [decide_eq_true rfl]; rfl))) (fun h => nomatch h) fun _ H11 e11 => ?_
    have ex11 : Ex H8 H11 := e9.trans (f9.trans e11)
    have hp11 : PenAt H11 p c m := hp.ex (e28.trans ex11)
    -- who is what
    refine go_seq (go_asg (lc_rows (fun i => (whoB i).map V.bl) (Evl.ev_var rfl) (Evl.sq_of (ex11 _ _ hD8)) (by show 7 ≤ 40000; decide) (fun x => rfl) (fun i x H12 e12 hx => ?_) fun p6 H12 _ e12 hr6 => ?_))
    · obtain ⟨b, C, rfl, xv, xf, nf, ec, kc, kv, k0, k1, k2, k3, k4, k5⟩ := (sev i x hx).mono (ex11.trans e12)
      exact Evl.el_lst (Evl.ea_cons (ev_isX (Evl.ev_var rfl) xv ec (.own _) k0) (Evl.ea_cons (ev_isX (Evl.ev_var rfl) xv ec (.own _) k1) (Evl.ea_cons (ev_isX (Evl.ev_var rfl) xv ec (.own _) k2) (Evl.ea_cons (ev_isX (Evl.ev_var rfl) xv ec (.own _) k3) (Evl.ea_cons (ev_isX (Evl.ev_var rfl) xv ec (.own _) k4) (Evl.ea_cons (ev_isX (Evl.ev_var rfl) xv ec (.own _) k5) Evl.ea_nil)))))) (by show 6 ≤ 100000; decide)
    obtain ⟨ps, hps, lps, rps⟩ := hr6
    have mev : ∀ (i : Nat) (x : V), ([.ref b1, .ref b2, .ref b3, .ref b4, .ref b5] : List V)[i]? = some x → Mev K H12 x := fun i x hx => by
      have e1012 := e11.trans e12
      match i, hx with
      | 0, hx => exact (Option.some.inj hx) ▸ ⟨_, _, _, rfl, z1.mono e1012, T.x_Nothing.ec, T.kit_Nothing_CrowdError, T.kit_Nothing_BadBook, T.kit_Nothing_BadValue, T.kit_Nothing_Misfit⟩
      | 1, hx => exact (Option.some.inj hx) ▸ ⟨_, _, _, rfl, z2.mono e1012, T.x_NoName.ec, T.kit_NoName_CrowdError, T.kit_NoName_BadBook, T.kit_NoName_BadValue, T.kit_NoName_Misfit⟩
      | 2, hx => exact (Option.some.inj hx) ▸ ⟨_, _, _, rfl, z3.mono e1012, T.x_BadText.ec, T.kit_BadText_CrowdError, T.kit_BadText_BadBook, T.kit_BadText_BadValue, T.kit_BadText_Misfit⟩
      | 3, hx => exact (Option.some.inj hx) ▸ ⟨_, _, _, rfl, z4.mono e1012, T.x_BadLine.ec, T.kit_BadLine_CrowdError, T.kit_BadLine_BadBook, T.kit_BadLine_BadValue, T.kit_BadLine_Misfit⟩
      | 4, hx => exact (Option.some.inj hx) ▸ ⟨_, _, _, rfl, z5.mono e1012, T.x_TooMany.ec, T.kit_TooMany_CrowdError, T.kit_TooMany_BadBook, T.kit_TooMany_BadValue, T.kit_TooMany_Misfit⟩
      | i + 5, hx => simp at hx
    dsimp only [gName]
    refine Evl.q_cut (M := fun σ H' => ∃ (v s3 s5 s6 : V) (m : Nat), σ = [some (.ref a), some (.ref p), some v, some s3, none, some s5, some s6, none, none, none, none, none, none, none, none, none, none] ∧ PenAt H' p c m ∧ m ≤ 26) ?B ?CDE
    case B =>
      refine Evl.s_when (b := false) (Evl.et_is (Evl.et_or (a := false) (b := false)
        (Evl.et_test (Evl.ev_is (Evl.ev_opLL (z := .bl false) (Evl.el_lcL (fun _ => true) (fun i => .int ((whoB i).count true : Nat)) (Evl.ev_var rfl) (Evl.sq_of hps) (by rw [lps]; show 7 ≤ 40000; decide) (fun x => rfl) (fun _ _ _ _ _ => fun H1 _ Q q => q H1 (Evl.Ex.refl _)) (fun i x H13 e13 hx _ => ?_)) (el_rc (n := 6) rfl (by decide)) (fun p1 p2 H13 h1 h2 _ H14 e14 Q q => ?_)) rfl))
        fun _ => Evl.et_test (Evl.ev_is (Evl.ev_opLL (z := .bl false) (Evl.el_lcL (fun _ => false) (fun _ => .non) (Evl.ev_var rfl) (Evl.sq_of ((e11.trans e12) _ _ hD22)) (by show 5 ≤ 40000; decide) (fun x => rfl) (fun i x H13 e13 hx => ?_) (fun _ _ _ _ _ hf => nomatch hf)) (Evl.el_lst Evl.ea_nil (by decide)) (fun p1 p2 H9 h1 h2 _ H10 e10 Q q => ⟨.list [], .list [], Dp.lst (Evl.sq_of (e10 _ _ h1)) .nil, Dp.lst (Evl.sq_of (e10 _ _ h2)) .nil, rfl, rfl, q H10 (Evl.Ex.refl _)⟩)) rfl)) rfl) (fun h => nomatch h) fun _ H13 e13 => ?_
      · have hi : i < 7 := by have := (List.getElem?_eq_some_iff.mp hx).1; rw [lps] at this; exact this
        obtain ⟨b, q1, q2⟩ := rps i hi
        rw [q1] at hx
        obtain rfl := Option.some.inj hx
        exact ev_cnt (Evl.ev_var rfl) (Evl.sq_of (e13 _ _ q2))
      · rw [lps] at h1
        exact ⟨_, _, dp_ints (ns := [1, 1, 1, 1, 1, 1, 0]) (Evl.sq_of (e14 _ _ h1)), dp_ints (ns := [1, 1, 1, 1, 1, 1, 0]) (Evl.sq_of (e14 _ _ h2)), shaped_ints _, shaped_ints _, q _ (Evl.Ex.refl _)⟩
      · obtain ⟨b, C, fs, rfl, xv, ec, kc, k1, k2, k3⟩ := (mev i x hx).mono e13
        exact Evl.et_is (Evl.et_or (a := false) (b := false) (Evl.et_B (ev_isXT3 (Evl.ev_var rfl) xv ec k1 k2 k3)) fun _ => Evl.et_is (Evl.et_not (Evl.et_B (ev_isX (Evl.ev_var rfl) xv ec (.own _) kc))) rfl) rfl
      · exact ⟨_, _, _, _, m, rfl, hp11.ex (e12.trans e13), hm⟩
    case CDE =>
      rintro σ' H13 ⟨v2, s3, s5, s6, m2, rfl, hp2, hm2⟩
      refine Evl.q_cut (M := fun σ H' => ∃ (o0 o2 o3 o4 o5 o6 o7 o8 o9 o10 o11 o12 o13 o14 o15 o16 : Option V) (m : Nat), σ = [o0, some (.ref p), o2, o3, o4, o5, o6, o7, o8, o9, o10, o11, o12, o13, o14, o15, o16] ∧ PenAt H' p c m) ?C ?DE
      case C =>
        refine Evl.s_forR1 (Evl.ea_cons Evl.ev_c Evl.ea_nil) (by decide) (fun i σ H' => ∃ (o0 o2 o3 o4 o5 o6 o7 o8 o9 o10 o11 o12 o13 o14 o15 o16 : Option V) (m : Nat), σ = [o0, some (.ref p), o2, o3, o4, o5, o6, o7, o8, o9, o10, o11, o12, o13, o14, o15, o16] ∧ PenAt H' p c m ∧ m ≤ 26 + 330 * i) (fun H14 e14 => ⟨_, _, _, _, _, _, _, _, _, _, _, _, _, _, _, _, m2, rfl, hp2.ex e14, by omega⟩) (fun i σ' H14 hi q => ?_) (fun σ' H14 q => ?_)
        · obtain ⟨o0, o2, o3, o4, o5, o6, o7, o8, o9, o10, o11, o12, o13, o14, o15, o16, m3, rfl, hp3, hm3⟩ := q
          have ci : (i : Int) < 12 := hi
          have ci' : i < 12 := by omega
          refine go_seq (go_asg ⟨3, rfl, by omega, by omega, fun D hD1 => ?_⟩)
          refine lc_draw (K := K) (p := p) (c := c) (F1 := off p H14) (n0 := m3) (cs := cost 3) (dp := 6) hD1 (walk_range (lo := 0) (n := (3 : Int).toNat)) (by decide) (fun _ _ _ => trivial) (off_ex p H14) off_at hp3
            (fun i x H3 H4 F3 m' Qy hi y hp3 fp3 ex3 _ hm3 k3 => ?_) fun ys ds F3 H15 m4 hD ry hly fD st hp4 hm4 hd1 hd2 => ?_
          · obtain ⟨rfl, rfl⟩ := y
            have hi3 : i < 3 := hi
            have c4 : i * cost 3 ≤ 2 * cost 3 := Nat.mul_le_mul_right _ (by omega)
            have c3 : cost 3 = 80 := by decide
            exact ⟨rfl, .ref p, rfl, p, c, F3, m', rfl, hp3, fp3, ex3, by omega, k3⟩
          · have c3 : cost 3 = 80 := by decide
            have hly3 : ys.length = 3 := hly
            have hm4' : m4 ≤ m3 + 240 := by have : (3 : Int).toNat * cost 3 = 240 := by decide
                                            omega
            have hDp : D ≠ p := hp3.ne hD1
            -- the list counts as frozen from now on
            have exF : Ex (upd F3 D (.lst ys)) H15 := ex_put st.fh hD
            have fpF : (upd F3 D (.lst ys)) p = none := by rw [upd_ne (Ne.symm hDp)]; exact st.fp
            have rF : RpA K (upd F3 D (.lst ys)) ys ds := ry.mono (ex_updF fD)
            have rD : Rp K (upd F3 D (.lst ys)) (.ref D) (.list ds) := .lst (SqL.of upd_same) rF
            obtain ⟨y0, y1, y2, rfl⟩ : ∃ y0 y1 y2, ys = [y0, y1, y2] := by
              match ys, hly3 with
              | [a, b, c], _ => exact ⟨a, b, c, rfl⟩
            generalize upd F3 D (.lst [y0, y1, y2]) = F4 at exF fpF rF rD
            dsimp only [gName]
            -- the word
            refine go_seq (go_asg ?_)
            refine ⟨.ref p, rfl, by show 3 ≤ sizeLine; decide, fun l hl => ⟨p, c, l, _, m4, rfl, Evl.sq_of upd_same, by decide, by show 3 ≤ 1000; decide, hp4.ne hl, hp4.lay hl, by omega, fun j wv H16 hj hp5 k5 => ?_⟩⟩
            obtain ⟨wd, rfl, hw⟩ : ∃ wd : Str, wv = .str wd ∧ leafS wd = true := by
              match j, hj with
              | 0, hj => exact ⟨_, (Option.some.inj hj).symm, by decide +kernel⟩
              | 1, hj => exact ⟨_, (Option.some.inj hj).symm, by decide +kernel⟩
              | 2, hj => exact ⟨_, (Option.some.inj hj).symm, by decide +kernel⟩
              | j + 3, hj => simp at hj
            have ex5 : Ex F4 H16 := (Stp.pen (exF.trans (Evl.Ex.new hl)) fpF k5).fh
            have hD16 : H16 D = some (.lst [y0, y1, y2]) := k5 _ _ hDp ((Evl.Ex.new hl) _ _ hD)
            have dp30 : PyData.depthAll ds + 1 ≤ 30 := by omega
            have okds : okAll ds = true := drAll.ok hd1
            dsimp only [gName]
            -- a paper, a denial
            refine go_seq (go_par (go_cons (go_make (Evl.ea_cons (Evl.ev_var rfl) (Evl.ea_cons (Evl.ev_op (Evl.ev_var rfl) Evl.ev_c (Evl.rv_ixL (Evl.sq_of hD16) rfl)) (Evl.ea_cons (Evl.ev_op (Evl.ev_var rfl) Evl.ev_c (Evl.rv_ixL (Evl.sq_of hD16) rfl)) (Evl.ea_cons (Evl.ev_op (Evl.ev_var rfl) Evl.ev_c (Evl.rv_ixL (Evl.sq_of hD16) rfl)) Evl.ea_nil)))) fun H17 e17 => r_make (pc_Paper T) rF (ex5.trans e17) fpF (hp5.ex e17).some (by show 3 ≤ 1000; decide) dp30 okds fun pa H18 F5 P1 e18 f5 ex6 fp5 => ?_)))
            have hD18 : H18 D = some (.lst [y0, y1, y2]) := (e17.trans e18) _ _ hD16
            have hp6 : PenAt H18 p c (m4 + 1) := hp5.ex (e17.trans e18)
            refine go_cons (go_make (Evl.ea_cons (Evl.ev_var rfl) (Evl.ea_cons (Evl.ev_op (Evl.ev_var rfl) Evl.ev_c (Evl.rv_ixL (Evl.sq_of hD18) rfl)) (Evl.ea_cons (Evl.ev_op (Evl.ev_var rfl) Evl.ev_c (Evl.rv_ixL (Evl.sq_of hD18) rfl)) (Evl.ea_cons (Evl.ev_op (Evl.ev_var rfl) Evl.ev_c (Evl.rv_ixL (Evl.sq_of hD18) rfl)) Evl.ea_nil)))) fun H19 e19 => r_make (pc_Denial T) (rF.mono f5) (ex6.trans e19) fp5 (hp6.ex e19).some (by show 3 ≤ 1000; decide) dp30 okds fun pd H20 F6 P2 e20 f6 ex7 fp6 => ?_)
            have hD20 : H20 D = some (.lst [y0, y1, y2]) := (e19.trans e20) _ _ hD18
            have hp7 : PenAt H20 p c (m4 + 1) := hp6.ex (e19.trans e20)
            have P1' := P1.mono (e19.trans e20) f6
            refine ⟨_, _, rfl, ?_⟩
            obtain ⟨dxa, pva, ha1, ha2⟩ := P1'
            obtain ⟨dxb, pvb, hb1, hb2⟩ := P2
            have hl4 : ds.length ≤ 4 := by have := rF.length; simp only [List.length_cons, List.length_nil] at this; omega
            have rD6 := rD.mono (f5.trans f6)
            have fT : fixedD (.tuple ds) = fixedD (.list ds) := by simp only [fixedD]
            have dl : drD (.list ds) = true := by simp only [drD, hd1, Bool.and_true, decide_eq_true_eq]; exact hl4
            have df := fixed_dr dl
            have de := fixed_depth (.list ds)
            have dp7 : (fixedD (.list ds)).depth ≤ 7 := by rw [de]; simp only [PyData.depth]; omega
            have iF6 : Ex F6 H20 := ex7
            refine Evl.q_when (b := false) (Evl.et_is (Evl.et_or (a := false) (b := false)
              (Evl.et_test (Evl.ev_is (Evl.ev_op
                (ev_reprL (n := 7) (ds := [.str wd, fixedD (.list ds), .str wd, fixedD (.list ds)]) (Evl.el_lst (Evl.ea_cons (ev_fld (Evl.ev_var rfl) ha1 T.c_Paper T.n_Paper_word rfl) (Evl.ea_cons (ev_fld (Evl.ev_var rfl) ha1 T.c_Paper T.n_Paper_parts rfl) (Evl.ea_cons (ev_fld (Evl.ev_var rfl) hb1 T.c_Denial T.n_Denial_word rfl) (Evl.ea_cons (ev_fld (Evl.ev_var rfl) hb1 T.c_Denial T.n_Denial_parts rfl) Evl.ea_nil)))) (by show 4 ≤ 100000; decide)) (.cons (.str _) (.cons (fT ▸ ha2) (.cons (.str _) (.cons (fT ▸ hb2) .nil)))) ex7 sm (by simp only [drAll, df, drD, hw, Bool.and_self]) (by show 4 ≤ 14; decide) (by simp only [PyData.depthAll, PyData.depth]; omega) (by decide))
                (ev_told2 (wd := wd) (by rfl) hw (Evl.ev_var rfl) rD6 ex7 sm hd1 hl4 hd2) (Evl.rv_ne rfl)) (by rw [decide_eq_true rfl]; rfl))) fun _ => Evl.et_is (Evl.et_or (a := false) (b := false)
                (Evl.et_test (Evl.ev_op (ev_boolI (b := true) (Evl.ev_var rfl) ha1 (if_pos rfl) T.me_Paper___bool__.at_ T.me_Paper___bool__.fn (fun H' Q q => .inl ⟨rfl, _, rfl, q⟩)) Evl.ev_c (fun H1 _ _ q => ⟨true, true, rfl, rfl, q _ (Evl.Ex.refl _)⟩)))
                fun _ => Evl.et_test (Evl.ev_op (ev_boolI (b := false) (Evl.ev_var rfl) hb1 ((if_neg (den_ne T)).trans (if_pos rfl)) T.me_Denial___bool__.at_ T.me_Denial___bool__.fn (fun H' Q q => .inr ⟨rfl, _, rfl, q⟩)) Evl.ev_c (fun H1 _ _ q => ⟨false, false, rfl, rfl, q _ (Evl.Ex.refl _)⟩))) rfl) rfl) (fun h => nomatch h) fun _ H21 e21 => ?_
            -- the second if
            have hp8 : PenAt H21 p c (m4 + 1) := hp7.ex e21
            have iF7 : Ex F6 H21 := ex7.trans e21
            have hpn : H21 p ≠ none := hp8.some
            have PA : Pap K H21 F6 pa (He.ga K "Paper") wd (fixedD (.tuple ds)) := ⟨dxa, pva, e21 _ _ ha1, ha2⟩
            have PB : Pap K H21 F6 pd (He.ga K "Denial") wd (fixedD (.tuple ds)) := ⟨dxb, pvb, e21 _ _ hb1, hb2⟩
            have IA := PA.isP iF7 (pk_Paper T).pc (pk_Paper T).pf (pk_Paper T).kt
            have IB := PB.isP iF7 (pk_Denial T).pc (pk_Denial T).pf (pk_Denial T).kt
            have hD21 : H21 D = some (.lst [y0, y1, y2]) := e21 _ _ hD20
            have rE := rF.mono (f5.trans f6)
            obtain ⟨q0, q1, q2, rfl, r0, r1, r2⟩ : ∃ q0 q1 q2, ds = [q0, q1, q2] ∧ Rp K F6 y0 q0 ∧ Rp K F6 y1 q1 ∧ Rp K F6 y2 q2 := by
              cases rE with
              | cons a1 t1 => cases t1 with
                | cons a2 t2 => cases t2 with
                  | cons a3 t3 => cases t3 with
                    | nil => exact ⟨_, _, _, rfl, a1, a2, a3⟩
            obtain ⟨o0', o1', o2'⟩ : okD q0 = true ∧ okD q1 = true ∧ okD q2 = true := by simpa [okAll] using okds
            obtain ⟨z0', z1', z2'⟩ : drD q0 = true ∧ drD q1 = true ∧ drD q2 = true := by simpa [drAll] using hd1
            obtain ⟨n0', n1', n2'⟩ : q0.depth ≤ 6 ∧ q1.depth ≤ 6 ∧ q2.depth ≤ 6 := by simp only [PyData.depthAll] at hd2; omega
            have dT : drD (fixedD (.tuple [q0, q1, q2])) = true := by rw [fT]; exact df
            have oT := drD.ok dT
            have nT : (fixedD (.tuple [q0, q1, q2])).depth ≤ 7 := by rw [fT]; exact dp7
            have ndp : decide (("Denial" : Str) = "Paper") = false := by decide
            have pp : decide (("Paper" : Str) = "Paper") = true := by decide
            have o0f := drD.ok (fixed_dr z0')
            have n0f : (fixedD q0).depth ≤ 6 := by rw [fixed_depth]; exact n0'
            have id0 : fixedD (.tuple [fixedD q0, q1, q2]) = fixedD (.tuple [q0, q1, q2]) := by simp only [fixedD, fixedAll, fixed_idem]
            refine Evl.q_when (b := false) (Evl.et_is (Evl.et_or (a := false) (b := false)
              (Evl.et_is (Evl.et_not (a := true) (Evl.et_B (fun H1 e Q q => ⟨.ref pd, rfl, .ref pd, .ref (He.ga K "Paper"), .ref (He.ga K "Denial"), .ref (He.ga K "Paper"), true, rfl, .own _, (pk_Denial T).pf.ty (e _ _ (e21 _ _ hb1)), (pk_Denial T).kt, q H1 (Evl.Ex.refl _)⟩))) rfl)
              fun _ => Evl.et_is (Evl.et_or (a := false) (b := false)
                (Evl.et_is (Evl.et_test (ev_eqPr (evp_of (Evl.ev_var rfl) IA) (evp_of (Evl.ev_var rfl) IB) (den_ne T) T.sub_Denial_Paper oT oT (by omega))) (by rw [ndp, Bool.false_and]))
                fun _ => Evl.et_is (Evl.et_or (a := false) (b := false)
                  (Evl.et_is (Evl.et_test (ev_eqP (evp_of (Evl.ev_var rfl) IB) (evp_of (Evl.ev_var rfl) IA) (nf_sub T.sub_Paper_Denial) oT oT (by omega))) (by rw [ndp, Bool.false_and]))
                  fun _ => Evl.et_is (Evl.et_or (a := false) (b := false)
                    (Evl.et_test (ev_eqT (evp_of (Evl.ev_var rfl) IA) (evd_of (ev_fld (Evl.ev_var rfl) (e21 _ _ ha1) T.c_Paper T.n_Paper_parts rfl) ha2 iF7 fp6) (by simp only [fixedD, isT]) T.pt_Paper.2 T.pt_Paper.1 oT (by omega)))
                    fun _ => Evl.et_is (Evl.et_not (a := true) (Evl.et_is (Evl.et_test (ev_eqP (evp_of (Evl.ev_var rfl) IA) (evp_make (p := p) (pk_Paper T) (Evl.ev_var rfl)
                      (evr_cons (evd_told (evd_of (Evl.ev_op (Evl.ev_var rfl) Evl.ev_c (Evl.rv_ixL (Evl.sq_of hD21) rfl)) r0 iF7 fp6) hpn o0' (by omega))
                        (evr_cons (evd_of (Evl.ev_op (Evl.ev_var rfl) Evl.ev_c (Evl.rv_ixL (Evl.sq_of hD21) rfl)) r1 iF7 fp6)
                        (evr_cons (evd_of (Evl.ev_op (Evl.ev_var rfl) Evl.ev_c (Evl.rv_ixL (Evl.sq_of hD21) rfl)) r2 iF7 fp6) evr_nil))) hpn (by show 3 ≤ 1000; decide) (by simp only [PyData.depthAll]; omega) (by simp only [okAll, o0f, o1', o2', Bool.and_self]))
                      nf_self oT (by rw [id0]; exact oT) (by omega))) (by rw [pp, id0, like_self, like_self]; rfl))) rfl) rfl) rfl) rfl) rfl) (fun h => nomatch h) fun _ H22 e22 => ?_
            -- other
            have hD22 : H22 D = some (.lst [y0, y1, y2]) := e22 _ _ hD21
            have hp9 : PenAt H22 p c (m4 + 1) := hp8.ex e22
            have iF8 : Ex F6 H22 := iF7.trans e22
            refine go_seq (go_asg ⟨.ref D, rfl, D, rfl, ⟨_, Evl.sq_of hD22⟩, fun D2 hD2 => ?_⟩)
            refine lc_draw (K := K) (p := p) (c := c) (F1 := F6) (n0 := m4 + 1) (cs := 27) (dp := 6) hD2 (walk_list (K := K) (a := D) (xs := [y0, y1, y2])) (by show 3 ≤ 7; decide) (fun G1 G2 sG => kp_l sG.kp hDp (Evl.sq_of hD22)) iF8 fp6 hp9
              (fun i x H3 H4 F3 m' Qy hi y hp3 fp3 ex3 ff3 hm3 k3 => ?_) fun ys es F8 H23 m5 hE rz hlz fE st2 hp10 hm5 he1 he2 => ?_
            · obtain ⟨rfl, hx⟩ := y
              have hi3 : i < 3 := hi
              have c2 : cost 2 = 26 := by decide
              refine ⟨rfl, ?_⟩
              refine ⟨.ref p, rfl, p, c, 3, m', rfl, hp3, by decide, by decide, by omega, fun d H5 d0 d1 hp5 k5 => ?_⟩
              refine ⟨rfl, _, rfl, ?_⟩
              refine ite2 (fun hh => ?_) fun hh => ?_
              · exact ⟨.ref p, rfl, p, c, F3, m' + 1, rfl, hp5, fp3, (Stp.pen ex3 fp3 k5).fh, by omega, fun r d H6 F6' m6 sq hp6 hm6 r1 r2 r3 => k3 r d H6 F6' m6 ((Stp.pen ex3 fp3 k5).trans sq hp5.some) hp6 (by omega) r1 r2 (by omega)⟩
              · obtain ⟨dq, g1, g2, g3⟩ : ∃ dq, Rp K F6 x dq ∧ drD dq = true ∧ dq.depth ≤ 6 := by
                  match i, hx with
                  | 0, hx => exact (Option.some.inj hx) ▸ ⟨q0, r0, z0', n0'⟩
                  | 1, hx => exact (Option.some.inj hx) ▸ ⟨q1, r1, z1', n1'⟩
                  | 2, hx => exact (Option.some.inj hx) ▸ ⟨q2, r2, z2', n2'⟩
                  | i + 3, hx => simp at hx
                exact ⟨x, rfl, k3 x dq H5 F3 (m' + 1) (Stp.pen ex3 fp3 k5) hp5 (by omega) (g1.mono ff3) g2 g3⟩
            have hlz3 : ys.length = 3 := hlz
            have hm5' : m5 ≤ m4 + 82 := by have : [y0, y1, y2].length * 27 = 81 := rfl
                                           omega
            have hD2p : D2 ≠ p := hp9.ne hD2
            have exG : Ex (upd F8 D2 (.lst ys)) H23 := ex_put st2.fh hE
            have fpG : (upd F8 D2 (.lst ys)) p = none := by rw [upd_ne (Ne.symm hD2p)]; exact st2.fp
            have ffG : Ex F6 (upd F8 D2 (.lst ys)) := st2.ff.trans (ex_updF fE)
            have rG : RpA K (upd F8 D2 (.lst ys)) ys es := rz.mono (ex_updF fE)
            have rGD : Rp K (upd F8 D2 (.lst ys)) (.ref D2) (.list es) := .lst (SqL.of upd_same) rG
            generalize upd F8 D2 (.lst ys) = F9 at exG fpG ffG rG rGD
            obtain ⟨u0, u1, u2, s0, s1, s2, rfl, rfl, t0, t1, t2⟩ : ∃ u0 u1 u2 s0 s1 s2, ys = [u0, u1, u2] ∧ es = [s0, s1, s2] ∧ Rp K F9 u0 s0 ∧ Rp K F9 u1 s1 ∧ Rp K F9 u2 s2 := by
              cases rG with
              | nil => cases hlz3
              | cons a1 b1 => cases b1 with
                | nil => cases hlz3
                | cons a2 b2 => cases b2 with
                  | nil => cases hlz3
                  | cons a3 b3 => cases b3 with
                    | nil => exact ⟨_, _, _, _, _, _, rfl, rfl, a1, a2, a3⟩
                    | cons a4 b4 => simp at hlz3
            have hpaN : pa ≠ p := fun z => by
              obtain ⟨_, _, _, g, _⟩ := hp9
              have := (e21.trans e22) _ _ ha1
              rw [z, g] at this
              cases this
            have haE : H23 pa = some (.ins (He.ga K "Paper") dxa [("word", .str wd), ("parts", pva)]) := st2.kp _ _ hpaN ((e21.trans e22) _ _ ha1)
            have hDE : H23 D = some (.lst [y0, y1, y2]) := st2.kp _ _ hDp hD22
            have PE' : Pap K H23 F9 pa (He.ga K "Paper") wd (fixedD (.tuple [q0, q1, q2])) := ⟨dxa, pva, haE, ha2.mono ffG⟩
            have IE := PE'.isP exG (pk_Paper T).pc (pk_Paper T).pf (pk_Paper T).kt
            have hpnE : H23 p ≠ none := hp10.some
            have dl2 : drD (.list [s0, s1, s2]) = true := by simp only [drD, he1, Bool.and_true, decide_eq_true_eq]; show 3 ≤ 4; decide
            have fT2 : fixedD (.tuple [s0, s1, s2]) = fixedD (.list [s0, s1, s2]) := by simp only [fixedD]
            have df2 := fixed_dr dl2
            have dp72 : (fixedD (.list [s0, s1, s2])).depth ≤ 7 := by rw [fixed_depth]; simp only [PyData.depth]; omega
            have ok2 : okAll [s0, s1, s2] = true := drAll.ok he1
            dsimp only [gName]
            refine Evl.q_asg (Evl.ev_op
              (evd_repr (evd_told (p := p) (evd_of (Evl.ev_var rfl) (rD6.mono ffG) exG fpG) hpnE (drD.ok dl) (by simp only [PyData.depth]; omega)) sm df dp7 (by decide))
              (evd_repr (evd_told (p := p) (evd_of (Evl.ev_var rfl) rGD exG fpG) hpnE (drD.ok dl2) (by simp only [PyData.depth]; omega)) sm df2 dp72 (by decide)) (Evl.rv_eq rfl)) fun H24 e24 => ?_
            have hk : (decide (("Paper" : Str) = "Paper") && (likeD (.str wd) (.str wd) && likeD (fixedD (.tuple [q0, q1, q2])) (fixedD (.tuple [s0, s1, s2])))) = decide (V.str (fixedD (.list [q0, q1, q2])).shown = V.str (fixedD (.list [s0, s1, s2])).shown) := by
              rw [pp, like_self, fT, fT2, like_shown df df2, Bool.true_and, Bool.true_and]
              exact decide_eq_decide.mpr ⟨fun h => by rw [h], fun h => V.str.inj h⟩
            generalize decide (V.str (fixedD (.list [q0, q1, q2])).shown = V.str (fixedD (.list [s0, s1, s2])).shown) = due at hk ⊢
            have hF : Evl.Ex F9 H24 := exG.trans e24
            have I24 := IE.mono e24
            have hD24 : H24 D = some (.lst [y0, y1, y2]) := e24 _ _ hDE
            have hE24 : H24 D2 = some (.lst [u0, u1, u2]) := e24 _ _ hE
            have hpn24 : H24 p ≠ none := some_ex e24 hpnE
            have mkO : ∀ {i j : Nat} {σ : L2.St} {E : XK}, σ[i]? = some (some (.str wd)) → σ[j]? = some (some (.ref D2)) → EvP K (StX.tMakeR (He.ga K "Paper") (spInit K 30) E (tCons (tVar i) (tCons (tOp (rIxL K) (tVar j) (tC (.int 0))) (tCons (tOp (rIxL K) (tVar j) (tC (.int 1))) (tCons (tOp (rIxL K) (tVar j) (tC (.int 2))) tNil))))) σ H24 (He.ga K "Paper") "Paper" wd (fixedD (.tuple [s0, s1, s2])) :=
              fun hi hj => evp_make (p := p) (pk_Paper T) (Evl.ev_var hi) (evr_cons (evd_of (Evl.ev_op (Evl.ev_var hj) Evl.ev_c (Evl.rv_ixL (Evl.sq_of hE24) rfl)) t0 hF fpG) (evr_cons (evd_of (Evl.ev_op (Evl.ev_var hj) Evl.ev_c (Evl.rv_ixL (Evl.sq_of hE24) rfl)) t1 hF fpG)
                (evr_cons (evd_of (Evl.ev_op (Evl.ev_var hj) Evl.ev_c (Evl.rv_ixL (Evl.sq_of hE24) rfl)) t2 hF fpG) evr_nil))) hpn24 (by show 3 ≤ 1000; decide) (by omega) ok2
            have oT2 : okD (fixedD (.tuple [s0, s1, s2])) = true := by rw [fT2]; exact drD.ok df2
            refine Evl.s_when (b := false) (Evl.et_is (Evl.et_or (a := false) (b := false)
              (Evl.et_is (Evl.et_test (Evl.ev_op (ev_eqP (evp_of (Evl.ev_var rfl) I24) (mkO rfl rfl) nf_self oT oT2 (by omega)) (Evl.ev_var rfl) (Evl.rv_ne rfl))) (by rw [hk]; cases due <;> rfl))
              fun _ => Evl.et_is (Evl.et_or (a := false) (b := false)
                (Evl.et_is (Evl.et_test (Evl.ev_op (ev_neP (evp_of (Evl.ev_var rfl) I24) (mkO rfl rfl) nf_self oT oT2 (by omega)) (Evl.ev_var rfl) (Evl.rv_eq rfl))) (by rw [hk]; cases due <;> rfl))
                fun _ => Evl.et_is (Evl.et_test (ev_eqP (evp_of (Evl.ev_var rfl) I24) (evp_make (p := p) (pk_Paper T) (Evl.ev_var rfl)
                  (evr_cons (evd_of (Evl.ev_op (Evl.ev_var rfl) Evl.ev_c (Evl.rv_ixL (Evl.sq_of hD24) rfl)) (r0.mono ffG) hF fpG)
                    (evr_cons (evd_of (Evl.ev_op (Evl.ev_var rfl) Evl.ev_c (Evl.rv_ixL (Evl.sq_of hD24) rfl)) (r1.mono ffG) hF fpG) evr_nil)) hpn24 (by show 2 ≤ 1000; decide) (by simp only [PyData.depthAll]; omega) (by simp only [okAll, o0', o1', Bool.and_self])) nf_self oT
                  (drD.ok (fixed_dr (by simp only [drD, drAll, z0', z1', Bool.and_self, Bool.and_true]; rfl))) (by omega))) (by simp [fixedD, fixedAll, likeD])) rfl) rfl) (fun h => nomatch h) fun _ H25 e25 => ?_
            exact ⟨_, _, _, _, _, _, _, _, _, _, _, _, _, _, _, _, m5, rfl, hp10.ex (e24.trans e25), by omega⟩
        · obtain ⟨o0, o2, o3, o4, o5, o6, o7, o8, o9, o10, o11, o12, o13, o14, o15, o16, m3, rfl, hp3, hm3⟩ := q
          exact ⟨_, _, _, _, _, _, _, _, _, _, _, _, _, _, _, _, m3, rfl, hp3⟩
      case DE =>
        rintro σ' H14 ⟨o0, o2, o3, o4, o5, o6, o7, o8, o9, o10, o11, o12, o13, o14, o15, o16, m3, rfl, hp3⟩
        have hpn : H14 p ≠ none := hp3.some
        have pp : decide (("Paper" : Str) = "Paper") = true := by decide
        refine Evl.q_cut (M := fun σ H' => ∃ (o0 o2 o3 o4 o5 o6 o7 o8 o9 o10 o11 o12 o13 o14 o15 o16 : Option V) (m : Nat), σ = [o0, some (.ref p), o2, o3, o4, o5, o6, o7, o8, o9, o10, o11, o12, o13, o14, o15, o16] ∧ PenAt H' p c m) ?D ?E
        case D =>
          refine Evl.s_when (b := false) (Evl.et_is (Evl.et_or (a := false) (b := false)
            (Evl.et_is (Evl.et_test (ev_eqP (evp_a T (p := p) (evd_c (d := .int 1) fun _ => .int 1) hpn rfl (by decide)) (evp_a T (p := p) (evd_c (d := .bool true) fun _ => .bl true) hpn rfl (by decide)) nf_self (by decide +kernel) (by decide +kernel) (by decide +kernel))) (by decide +kernel))
            fun _ => Evl.et_is (Evl.et_or (a := false) (b := false)
              (Evl.et_is (Evl.et_test (ev_eqP (evp_a T (p := p) (evd_lst (evr_cons (evd_c (d := .int 0) fun _ => .int 0) evr_nil) hpn (by decide)) hpn (by decide +kernel) (by decide +kernel)) (evp_a T (p := p) (evd_tup (evr_cons (evd_c (d := .bool false) fun _ => .bl false) evr_nil) hpn (by decide)) hpn (by decide +kernel) (by decide +kernel)) nf_self (by decide +kernel) (by decide +kernel) (by decide +kernel))) (by decide +kernel))
              fun _ => Evl.et_is (Evl.et_or (a := false) (b := false)
                (Evl.et_is (Evl.et_test (ev_eqP (evp_a T (p := p) (evd_c (d := .int 1) fun _ => .int 1) hpn rfl (by decide)) (evp_a T (p := p) (evd_c (d := .int 1) fun _ => .int 1) hpn rfl (by decide)) nf_self (by decide +kernel) (by decide +kernel) (by decide +kernel))) (by decide +kernel))
                fun _ => Evl.et_is (Evl.et_test (ev_eqP (evp_a T (p := p) (evd_c (d := .str "1") fun _ => .str "1") hpn rfl (by decide)) (evp_a T (p := p) (evd_c (d := .int 1) fun _ => .int 1) hpn rfl (by decide)) nf_self (by decide +kernel) (by decide +kernel) (by decide +kernel))) (by decide +kernel)) rfl) rfl) rfl) (fun h => nomatch h) fun _ H15 e15 => ?_
          exact ⟨_, _, _, _, _, _, _, _, _, _, _, _, _, _, _, _, m3, rfl, hp3.ex e15⟩
        case E =>
          rintro σ' H15 ⟨o0, o2, o3, o4, o5, o6, o7, o8, o9, o10, o11, o12, o13, o14, o15, o16, m4, rfl, hp4⟩
          refine go_seq (go_asg ⟨by show 1 ≤ sizeLine; decide, fun l1 h1 => ⟨by show 2 ≤ sizeLine; decide, fun l2 h2 => ⟨by show 1 ≤ sizeLine; decide, fun l3 h3 => ?_⟩⟩⟩)
          have hq : Ex H15 (upd (upd (upd H15 l1 (.lst [.int 2])) l2 (.lst [.int 1, .ref l1])) l3 (.lst [.ref l2])) := (Evl.Ex.new h1).trans ((Evl.Ex.new h2).trans (Evl.Ex.new h3))
          have g3 : (upd (upd (upd H15 l1 (.lst [.int 2])) l2 (.lst [.int 1, .ref l1])) l3 (.lst [.ref l2])) l3 = some (.lst [.ref l2]) := upd_same
          have g2 : (upd (upd (upd H15 l1 (.lst [.int 2])) l2 (.lst [.int 1, .ref l1])) l3 (.lst [.ref l2])) l2 = some (.lst [.int 1, .ref l1]) := (Evl.Ex.new h3) _ _ upd_same
          have g1 : (upd (upd (upd H15 l1 (.lst [.int 2])) l2 (.lst [.int 1, .ref l1])) l3 (.lst [.ref l2])) l1 = some (.lst [.int 2]) := (Evl.Ex.new h3) _ _ ((Evl.Ex.new h2) _ _ upd_same)
          generalize upd (upd (upd H15 l1 (.lst [.int 2])) l2 (.lst [.int 1, .ref l1])) l3 (.lst [.ref l2]) = H16 at hq g1 g2 g3 ⊢
          have hp5 := hp4.ex hq
          have n1 : l1 ≠ p := hp4.ne h1
          have off1 : ∀ {l : Addr} {xs : List V}, H16 l = some (.lst xs) → l ≠ p → (off p H16) l = some (.lst xs) := fun h n => by rw [off_ne n]; exact h
          have n2 : l2 ≠ p := fun z => by rw [z] at h2; exact hp4.some (Evl.fresh_back (Evl.Ex.new h1) h2)
          have n3 : l3 ≠ p := fun z => by rw [z] at h3; exact hp4.some (Evl.fresh_back ((Evl.Ex.new h1).trans (Evl.Ex.new h2)) h3)
          have rk : RpA K (off p H16) [.ref l3] [.list [.list [.int 1, .list [.int 2]]]] := .one (.lst (SqL.of (off1 g3 n3)) (.one (.lst (SqL.of (off1 g2 n2)) (.cons (.int 1) (.one (.lst (SqL.of (off1 g1 n1)) (.one (.int 2))))))))
          dsimp only [gName]
          refine go_seq (go_asg (go_make (Evl.ea_cons Evl.ev_c (Evl.ea_cons (Evl.ev_var rfl) Evl.ea_nil)) fun H17 e17 => r_make (pc_Paper T) rk ((off_ex p H16).trans e17) off_at (hp5.ex e17).some (by show 1 ≤ 1000; decide) (by decide +kernel) (by decide +kernel) fun pa H18 F5 P1 e18 f5 ex6 fp5 => ?_))
          have e1618 := e17.trans e18
          dsimp only [gName]
          refine Evl.q_app (xs := [.int 2]) (e1618 _ _ g1) (Evl.ev_op (Evl.ev_op (Evl.ev_var rfl) Evl.ev_c (Evl.rv_ixL (Evl.sq_of (e1618 _ _ g3)) rfl)) Evl.ev_c (Evl.rv_ixL (Evl.sq_of (e1618 _ _ g2)) rfl)) Evl.ev_c (by decide) fun H19 e19 => ?_
          obtain ⟨dxa, pva, ha1, ha2⟩ := P1
          have l1H : H19 l1 = some (.lst [.int 2]) := e19 _ _ (e1618 _ _ g1)
          have l1F : F5 l1 = some (.lst [.int 2]) := f5 _ _ (off1 g1 n1)
          have hpl : pa ≠ l1 := fun z => by
            have := e19 _ _ ha1
            rw [z, l1H] at this
            cases this
          have ha1' : (upd H19 l1 (.lst ([.int 2] ++ [.int 3]))) pa = some (.ins (He.ga K "Paper") dxa [("word", .str "a"), ("parts", pva)]) := by rw [upd_ne hpl]; exact e19 _ _ ha1
          have rp2 : Rp K (upd F5 l1 (.lst ([.int 2] ++ [.int 3]))) pva (fixedD (.tuple [.list [.list [.int 1, .list [.int 2]]]])) := rp_put (fun ys h => by
            rcases h with h | ⟨o, h⟩ <;> (rw [l1F] at h; cases h)) (by decide +kernel) ha2
          have exZ : Ex (upd F5 l1 (.lst ([.int 2] ++ [.int 3]))) (upd H19 l1 (.lst ([.int 2] ++ [.int 3]))) := ex_upd2 (ex6.trans e19)
          have fpZ : (upd F5 l1 (.lst ([.int 2] ++ [.int 3]))) p = none := by rw [upd_ne (Ne.symm n1)]; exact fp5
          have hpZ : (upd H19 l1 (.lst ([.int 2] ++ [.int 3]))) p ≠ none := by rw [upd_ne (Ne.symm n1)]; exact some_ex (e1618.trans e19) hp5.some
          generalize upd F5 l1 (.lst ([.int 2] ++ [.int 3])) = F7 at rp2 exZ fpZ
          generalize upd H19 l1 (.lst ([.int 2] ++ [.int 3])) = H20 at ha1' exZ hpZ ⊢
          have cI : ∀ (i : Int) (σ : L2.St), EvD K p (tC (.int i)) σ H20 (.int i) := fun i σ => evd_c fun _ => .int i
          refine Evl.s_ret (Evl.ev_is (Evl.ev_andV (a := true) (b := true)
            (ev_eqD (p := p) (evd_of (ev_fld (Evl.ev_var rfl) ha1' T.c_Paper T.n_Paper_parts rfl) rp2 exZ fpZ)
              (evd_tup (evr_cons (evd_tup (evr_cons (evd_tup (evr_cons (cI 1 _) (evr_cons (evd_tup (evr_cons (cI 2 _) evr_nil) hpZ (by decide)) evr_nil)) hpZ (by decide)) evr_nil) hpZ (by decide)) evr_nil) hpZ (by decide)) (by decide +kernel) (by decide +kernel) (by decide +kernel) (by decide +kernel) (by decide +kernel))
            fun _ => Evl.ev_is (Evl.ev_andV (a := true) (b := true)
              (ev_eqD (p := p) (evd_masksP T (evd_lst (evr_cons (cI 1 _) evr_nil) hpZ (by decide)) (evd_lst (evr_cons (cI 2 _) evr_nil) hpZ (by decide)) hpZ (by decide +kernel) (by decide +kernel) (by decide +kernel))
                (evd_tup (evr_cons (evd_tup (evr_cons (cI 1 _) evr_nil) hpZ (by decide)) (evr_cons (evd_tup (evr_cons (cI 2 _) evr_nil) hpZ (by decide)) evr_nil)) hpZ (by decide)) (by decide +kernel) (by decide +kernel) (by decide +kernel) (by decide +kernel) (by decide +kernel))
              fun _ => Evl.ev_is (Evl.ev_andV (a := true) (b := true)
                (ev_eqD (p := p) (evd_masksU T rfl rfl (cI 1 _) (evd_lst (evr_cons (cI 2 _) evr_nil) hpZ (by decide)) hpZ (by decide +kernel) (by decide +kernel) (by decide +kernel))
                  (evd_tup (evr_cons (cI 2 _) evr_nil) hpZ (by decide)) (by decide +kernel) (by decide +kernel) (by decide +kernel) (by decide +kernel) (by decide +kernel))
                fun _ => Evl.ev_is (Evl.ev_andV (a := true) (b := true)
                  (ev_eqD (p := p) (evd_stairsR T rfl rfl (evd_lst (evr_cons (evd_lst (evr_cons (cI 1 _) evr_nil) hpZ (by decide)) evr_nil) hpZ (by decide)) hpZ (by decide +kernel) (by decide +kernel))
                    (evd_tup (evr_cons (evd_tup (evr_cons (cI 1 _) evr_nil) hpZ (by decide)) evr_nil) hpZ (by decide)) (by decide +kernel) (by decide +kernel) (by decide +kernel) (by decide +kernel) (by decide +kernel))
                  fun _ => Evl.ev_is (Evl.ev_notV (a := false) (Evl.ev_is (ev_eqP (evp_masks (p := p) T (cI 1 _) (cI 2 _) hpZ (by decide +kernel) (by decide +kernel) (by decide +kernel)) (evp_stairs (p := p) T (cI 1 _) hpZ (by decide +kernel) (by decide +kernel)) (nf_sub T.sub_Stairs_Masks) (by decide +kernel) (by decide +kernel) (by decide +kernel)) (congrArg V.bl (by decide +kernel)))) rfl) rfl) rfl) rfl) rfl) fun H21 e21 => hQ _
end
end K00

set_option Elab.async false
set_option linter.all false
set_option maxRecDepth 100000
set_option maxHeartbeats 0
namespace K00
open PySem PySem.Spec PyProof.Rows L2 Cw
theorem facts {P : Program} {w : World} {K : PySem.W.Frag} {h : Heap} {mg : Str → Option Value} {f : Addr} (hP : ProgOk P "/claim/cut.py") (X : K.In h) (G : h.Ns mainGlobals mg) (hfa : mg ("law" : Str) = some (.ref f)) (c : SaysX K) :
    ∃ fd : FuncData, (∀ (s : Shared) (v : Value), BindsTo s fd ⟨[v], []⟩ [("script", v)]) ∧ ∀ base : Heap, K.In base → base.Ns mainGlobals mg → FnG P w K mg base CX0 40 f fd ["script"] (spLaw K) := by
  have T : Tx K mg h := ⟨X, G, c⟩
  have e := hfa.symm.trans T.m_law
  cases e
  exact ⟨fdAt K (a_law K), fun s v => T.bA_law s [v] rfl, fun base k g => ok_law ⟨k, g, c⟩ hP⟩
end K00
open PySem PySem.W PySem.Calls PyProof.Rows
set_option maxRecDepth 100000 in
set_option maxHeartbeats 0 in
theorem PySem.Challenge.cw_leastcrowd_k00_errors_and_papers_holds : PySem.Challenge.rw_leastcrowd_k00_errors_and_papers.Holds := by
  w_on; o_law
  refine HandSHeadRun.head_any (r := OpenLaw.row PySem.Challenge.rw_leastcrowd_k00_errors_and_papers) (q := view (OpenLaw.row PySem.Challenge.rw_leastcrowd_k00_errors_and_papers).prog [31]) (H := K00.hookX) (ob := K00.ob) (M := 6000) (loose := K00.looseN) (d := HandSHeadRun.topDef (OpenLaw.row PySem.Challenge.rw_leastcrowd_k00_errors_and_papers).prog 31) (kwd := []) K00.ob_eq
    (by kernel_rfl) (fun s => by kernel_rfl) K00.run (by kernel_rfl) (by kernel_rfl) (by kernel_rfl) (by rfl) (by first | assumption | decide +kernel) (by decide +kernel) ⟨rfl, rfl, rfl, rfl, rfl, by decide +kernel⟩ ?hw ?hc
  case hw => w_witness2
  case hc =>
    refine Cw.walk_ofG (l := PySem.Challenge.rw_leastcrowd_k00_errors_and_papers) (n := 63) (k := 40) (x := "script") (CX := L2.CX0) rfl (by decide) (by kernel_rfl) ⟨rfl, by decide, by decide⟩ ?F (fun _ _ _ _ z => z)
    intro w mg fa h Y G hmg0
    obtain ⟨K, KX, c⟩ := Y
    have hmg : mg ("law" : PySem.Str) = some (.ref fa) := by
      have e : (HandSHeadRun.topDef (OpenLaw.row PySem.Challenge.rw_leastcrowd_k00_errors_and_papers).prog 31).name = ("law" : PySem.Str) := by kernel_rfl
      rw [← e]
      exact hmg0
    obtain ⟨fd, hb, hF⟩ := K00.facts (P := (PySem.Challenge.rw_leastcrowd_k00_errors_and_papers).prog) (w := w) ⟨rfl, by decide +kernel⟩ KX G hmg c
    exact ⟨K, fd, K00.spLaw K, KX, hb, fun H a ns hl _ hS => ⟨a, ns, rfl, hS, hl, fun _ => rfl⟩, hF⟩

