import PyProof.Rows.All
import Wide.All
import OpenK.AllK
import Wide.FinOn
import HandS.ForMost
import HandS.ForExc
import KE.SortData
import KE.DataMinMax
import KE.DataCmp
import HandS.TupAny
import HandS.TupMul
import HandS.TupLen
import HandS.Deep
import HandS.Conv
import HandS.Zip
import HandS.Style
import KE.GoesEnum
import KE.GoesMore
import HandS.IsInst
import HandS.Text
import HandS.TupLe
import KE.KTupSum
import PyProof.P3In
import PyProof.StrOps2
import HandS.RevRange
import HandS.TupSets
import HandS.SetFor
import HandS.Gcd
import HandS.DictComp
import HandS.ListItems
import KE.KDictPairs
import HandS.Flow
import HandS.More
import PySem.Challenge.RW_hoteldays_k13_whole_ice_and_corridors
set_option Elab.async false
set_option linter.all false
set_option maxRecDepth 100000
set_option maxHeartbeats 4000000
namespace J
open PySem L2 PySem.Spec PyProof.Rows

/-! ### data in a heap -/
def kD : Key → PyData
  | .inl i => .int i
  | .inr x => .str x
abbrev LN : Nat := 16777216
theorem lnS {n : Nat} (h : n ≤ LN) : n ≤ sizeLine := by rw [sizeLine_eq]; exact h
theorem lnS' {n : Nat} (h : n < LN) : n < sizeLine := by rw [sizeLine_eq]; exact h
/-- a text that may stand -/
def sOk (x : Str) : Prop := PyData.strOk x = true ∧ x.length ≤ LN
/-- a key that may stand -/
def kOk : Key → Prop
  | .inl _ => True
  | .inr x => sOk x
def tD (k : List Key) : PyData := .tuple (k.map kD)
mutual
inductive Rp (K : PySem.W.Frag) (C : Hp) : V → PyData → Prop
  | non : Rp K C .non .none
  | bl (b : Bool) : Rp K C (.bl b) (.bool b)
  | int (i : Int) : Rp K C (.int i) (.int i)
  | str {x : Str} : sOk x → Rp K C (.str x) (.str x)
  | lst {a : Addr} {vs : List V} {ds : List PyData} : C a = some (.lst vs) → vs.length ≤ LN → Rps K C vs ds → Rp K C (.ref a) (.list ds)
  | tup {a : Addr} {vs : List V} {ds : List PyData} : SqT K C a vs → vs.length ≤ LN → Rps K C vs ds → Rp K C (.ref a) (.tuple ds)
  | scr {a : Addr} {vs : List V} {ds : List PyData} : SqL K C a vs → vs.length ≤ LN → Rps K C vs ds → Rp K C (.ref a) (.dict [(.none, .list ds)])
  | tupD {a : Addr} {vs : List V} {ds : List PyData} {o : Obj} : C a = some (.frz o (.tup vs)) → (o.cls = .type "tuple" ∧ o.dict = none) → vs.length ≤ LN → Rps K C vs ds → Rp K C (.ref a) (.dict [(.none, .tuple ds)])
  | dK {a : Addr} {kvs : List (Key × V)} {es : List (PyData × PyData)} : Rd C a (.dK kvs) → kvs.length ≤ LN → RpK K C kvs es → Rp K C (.ref a) (.dict es)
  | dT {a : Addr} {kvs : List (List Key × V)} {es : List (PyData × PyData)} : Rd C a (.dT kvs) → kvs.length ≤ LN → RpT K C kvs es → Rp K C (.ref a) (.dict ((.none, .bool true) :: es))
inductive Rps (K : PySem.W.Frag) (C : Hp) : List V → List PyData → Prop
  | nil : Rps K C [] []
  | cons {v : V} {vs : List V} {d : PyData} {ds : List PyData} : Rp K C v d → Rps K C vs ds → Rps K C (v :: vs) (d :: ds)
inductive RpK (K : PySem.W.Frag) (C : Hp) : List (Key × V) → List (PyData × PyData) → Prop
  | nil : RpK K C [] []
  | cons {k : Key} {v : V} {r : List (Key × V)} {d : PyData} {es : List (PyData × PyData)} : kOk k → Rp K C v d → RpK K C r es → RpK K C ((k, v) :: r) ((kD k, d) :: es)
inductive RpT (K : PySem.W.Frag) (C : Hp) : List (List Key × V) → List (PyData × PyData) → Prop
  | nil : RpT K C [] []
  | cons {k : List Key} {v : V} {r : List (List Key × V)} {d : PyData} {es : List (PyData × PyData)} : (∀ x ∈ k, kOk x) → Rp K C v d → RpT K C r es → RpT K C ((k, v) :: r) ((tD k, d) :: es)
end
abbrev Ex (H H' : Hp) : Prop := ∀ a o, H a = some o → H' a = some o
theorem Ex.refl (H : Hp) : Ex H H := fun _ _ h => h
theorem Ex.trans {H H1 H2 : Hp} (a : Ex H H1) (b : Ex H1 H2) : Ex H H2 := fun x o h => b x o (a x o h)
theorem Ex.new {H : Hp} {p : Addr} {o : HO} (h : H p = none) : Ex H (upd H p o) := fun a u e => by
  rw [upd_ne (ne_of_none e h)]; exact e
theorem Ex.rd {H H' : Hp} {a : Addr} {u : HO} (e : Ex H H') (h : Rd H a u) : Rd H' a u := by
  rcases h with h | ⟨o, h⟩
  · exact Or.inl (e a _ h)
  · exact Or.inr ⟨o, e a _ h⟩
theorem Ex.l {K : PySem.W.Frag} {H H' : Hp} {a : Addr} {xs : List V} (e : Ex H H') (h : SqL K H a xs) : SqL K H' a xs := by
  rcases h with h | h
  · exact Or.inl (e.rd h)
  · exact Or.inr h
theorem Ex.t {K : PySem.W.Frag} {H H' : Hp} {a : Addr} {xs : List V} (e : Ex H H') (h : SqT K H a xs) : SqT K H' a xs := by
  rcases h with h | h
  · exact Or.inl (e.rd h)
  · exact Or.inr h
mutual
theorem Rp.mono {K : PySem.W.Frag} {C C' : Hp} (e : Ex C C') : ∀ {v : V} {d : PyData}, Rp K C v d → Rp K C' v d
  | _, _, .non => .non
  | _, _, .bl b => .bl b
  | _, _, .int i => .int i
  | _, _, .str h => .str h
  | _, _, .lst h l r => .lst (e _ _ h) l (Rps.mono e r)
  | _, _, .tup h l r => .tup (e.t h) l (Rps.mono e r)
  | _, _, .scr h l r => .scr (e.l h) l (Rps.mono e r)
  | _, _, .tupD h o l r => .tupD (e _ _ h) o l (Rps.mono e r)
  | _, _, .dK h l r => .dK (e.rd h) l (RpK.mono e r)
  | _, _, .dT h l r => .dT (e.rd h) l (RpT.mono e r)
theorem Rps.mono {K : PySem.W.Frag} {C C' : Hp} (e : Ex C C') : ∀ {v : List V} {d : List PyData}, Rps K C v d → Rps K C' v d
  | _, _, .nil => .nil
  | _, _, .cons h r => .cons (Rp.mono e h) (Rps.mono e r)
theorem RpK.mono {K : PySem.W.Frag} {C C' : Hp} (e : Ex C C') : ∀ {v : List (Key × V)} {d : List (PyData × PyData)}, RpK K C v d → RpK K C' v d
  | _, _, .nil => .nil
  | _, _, .cons o h r => .cons o (Rp.mono e h) (RpK.mono e r)
theorem RpT.mono {K : PySem.W.Frag} {C C' : Hp} (e : Ex C C') : ∀ {v : List (List Key × V)} {d : List (PyData × PyData)}, RpT K C v d → RpT K C' v d
  | _, _, .nil => .nil
  | _, _, .cons o h r => .cons o (Rp.mono e h) (RpT.mono e r)
end
section
variable {K : PySem.W.Frag} {C : Hp}
theorem Rps.len : ∀ {vs : List V} {ds : List PyData}, Rps K C vs ds → vs.length = ds.length
  | _, _, .nil => rfl
  | _, _, .cons _ r => by simp only [List.length_cons, r.len]
theorem Rps.get : ∀ {vs : List V} {ds : List PyData} {i : Nat} {v : V}, Rps K C vs ds → vs[i]? = some v → ∃ d, ds[i]? = some d ∧ Rp K C v d
  | _, _, 0, _, .cons h _, e => by simp at e; subst e; exact ⟨_, rfl, h⟩
  | _, _, i + 1, _, .cons _ r, e => by
    obtain ⟨d, h1, h2⟩ := r.get (i := i) (by simpa using e)
    exact ⟨d, by simpa using h1, h2⟩
theorem Rps.getD : ∀ {vs : List V} {ds : List PyData} {i : Nat} {d : PyData}, Rps K C vs ds → ds[i]? = some d → ∃ v, vs[i]? = some v ∧ Rp K C v d
  | _, _, 0, _, .cons h _, e => by simp at e; subst e; exact ⟨_, rfl, h⟩
  | _, _, i + 1, _, .cons _ r, e => by
    obtain ⟨d, h1, h2⟩ := r.getD (i := i) (by simpa using e)
    exact ⟨d, by simpa using h1, h2⟩
theorem Rps.append : ∀ {vs ws : List V} {ds es : List PyData}, Rps K C vs ds → Rps K C ws es → Rps K C (vs ++ ws) (ds ++ es)
  | _, _, _, _, .nil, s => s
  | _, _, _, _, .cons h r, s => .cons h (r.append s)
theorem Rps.take : ∀ {vs : List V} {ds : List PyData} (n : Nat), Rps K C vs ds → Rps K C (vs.take n) (ds.take n)
  | _, _, 0, _ => .nil
  | _, _, _ + 1, .nil => .nil
  | _, _, n + 1, .cons h r => .cons h (r.take n)
theorem Rps.drop : ∀ {vs : List V} {ds : List PyData} (n : Nat), Rps K C vs ds → Rps K C (vs.drop n) (ds.drop n)
  | _, _, 0, r => r
  | _, _, _ + 1, .nil => .nil
  | _, _, n + 1, .cons _ r => r.drop n
theorem Rps.set : ∀ {vs : List V} {ds : List PyData} {v : V} {d : PyData} (i : Nat), Rps K C vs ds → Rp K C v d → Rps K C (vs.set i v) (ds.set i d)
  | _, _, _, _, _, .nil, _ => .nil
  | _, _, _, _, 0, .cons _ r, q => .cons q r
  | _, _, _, _, i + 1, .cons h r, q => .cons h (Rps.set i r q)
theorem Rps.int : ∀ {vs : List V} {ns : List Int}, Rps K C vs (ns.map .int) → vs = ns.map V.int
  | _, [], .nil => rfl
  | _, n :: ns, .cons h r => by cases h; rw [List.map_cons, r.int]
theorem Rps.ints : ∀ {ns : List Int}, Rps K C (ns.map V.int) (ns.map .int)
  | [] => .nil
  | n :: ns => .cons (.int n) Rps.ints
theorem Rps.bls : ∀ {vs : List V} {ns : List Bool}, Rps K C vs (ns.map .bool) → vs = ns.map V.bl
  | _, [], .nil => rfl
  | _, n :: ns, .cons h r => by cases h; rw [List.map_cons, r.bls]
theorem Rps.strs : ∀ {vs : List V} {ns : List Str}, Rps K C vs (ns.map .str) → vs = ns.map V.str
  | _, [], .nil => rfl
  | _, n :: ns, .cons h r => by cases h; rw [List.map_cons, r.strs]
theorem Rps.ofStrs : ∀ {ns : List Str}, (∀ x ∈ ns, sOk x) → Rps K C (ns.map V.str) (ns.map .str)
  | [], _ => .nil
  | n :: ns, h => .cons (.str (h n (by simp))) (Rps.ofStrs fun x hx => h x (by simp [hx]))
theorem Rps.ok : ∀ {ns : List Str} {vs : List V}, Rps K C vs (ns.map .str) → ∀ x ∈ ns, sOk x
  | [], _, .nil => by simp
  | n :: ns, _, .cons h r => fun x hx => by
    cases h with
    | str h =>
    rcases List.mem_cons.mp hx with rfl | hx
    · exact h
    · exact r.ok x hx
end
/- no dict within -/
mutual
def pure0 : PyData → Bool
  | .none => true
  | .bool _ => true
  | .int _ => true
  | .str _ => true
  | .list xs => pureAll xs
  | .tuple xs => pureAll xs
  | .dict _ => false
def pureAll : List PyData → Bool
  | [] => true
  | x :: xs => pure0 x && pureAll xs
end
mutual
theorem Rp.dp {K : PySem.W.Frag} {C : Hp} : ∀ {v : V} {d : PyData}, Rp K C v d → pure0 d = true → Dp K C v d
  | _, _, .non, _ => .non
  | _, _, .bl b, _ => .bl b
  | _, _, .int i, _ => .int i
  | _, _, .str (x := x) _, _ => .str x
  | _, _, .lst h _ r, q => .lst (.inl (.inl h)) (Rps.dps r (by simpa [pure0] using q))
  | _, _, .tup h _ r, q => .tup h (Rps.dps r (by simpa [pure0] using q))
  | _, _, .scr h _ r, q => by simp [pure0] at q
  | _, _, .tupD h _ _ r, q => by simp [pure0] at q
  | _, _, .dK h _ r, q => by simp [pure0] at q
  | _, _, .dT h _ r, q => by simp [pure0] at q
theorem Rps.dps {K : PySem.W.Frag} {C : Hp} : ∀ {v : List V} {d : List PyData}, Rps K C v d → pureAll d = true → DpAll K C v d
  | _, _, .nil, _ => .nil
  | _, _, .cons h r, q => by
    rw [pureAll, Bool.and_eq_true] at q
    exact .cons (Rp.dp h q.1) (Rps.dps r q.2)
end

/-- no dict within, nested at most n deep -/
def shN : Nat → PyData → Bool
  | _, .none => true
  | _, .bool _ => true
  | _, .int _ => true
  | _, .str _ => true
  | n + 1, .list xs => xs.all (shN n)
  | n + 1, .tuple xs => xs.all (shN n)
  | 0, .list _ => false
  | 0, .tuple _ => false
  | _, .dict _ => false
theorem depthAll_le : ∀ {n : Nat} {xs : List PyData}, (∀ x ∈ xs, x.depth ≤ n) → PyData.depthAll xs ≤ n
  | n, [], _ => by simp [PyData.depthAll]
  | n, x :: xs, h => by
    rw [PyData.depthAll]
    exact Nat.max_le.mpr ⟨h x (by simp), depthAll_le fun y hy => h y (by simp [hy])⟩
theorem pureAll_of : ∀ {xs : List PyData}, (∀ x ∈ xs, pure0 x = true) → pureAll xs = true
  | [], _ => rfl
  | x :: xs, h => by
    rw [pureAll, h x (by simp), pureAll_of fun y hy => h y (by simp [hy])]; rfl
theorem shN_of : ∀ {n : Nat} {d : PyData}, shN n d = true → pure0 d = true ∧ d.depth ≤ n
  | _, .none, _ => ⟨rfl, by simp [PyData.depth]⟩
  | _, .bool _, _ => ⟨rfl, by simp [PyData.depth]⟩
  | _, .int _, _ => ⟨rfl, by simp [PyData.depth]⟩
  | _, .str _, _ => ⟨rfl, by simp [PyData.depth]⟩
  | n + 1, .list xs, h => by
    have h' : ∀ x ∈ xs, shN n x = true := by simpa [shN] using h
    exact ⟨by rw [pure0]; exact pureAll_of fun x hx => (shN_of (h' x hx)).1, by rw [PyData.depth]; have := depthAll_le fun x hx => (shN_of (h' x hx)).2; omega⟩
  | n + 1, .tuple xs, h => by
    have h' : ∀ x ∈ xs, shN n x = true := by simpa [shN] using h
    exact ⟨by rw [pure0]; exact pureAll_of fun x hx => (shN_of (h' x hx)).1, by rw [PyData.depth]; have := depthAll_le fun x hx => (shN_of (h' x hx)).2; omega⟩
  | 0, .list _, h => by simp [shN] at h
  | 0, .tuple _, h => by simp [shN] at h
  | 0, .dict _, h => by simp [shN] at h
  | n + 1, .dict _, h => by simp [shN] at h
mutual
theorem Rp.can {K : PySem.W.Frag} {C : Hp} : ∀ {v : V} {d : PyData}, Rp K C v d → pure0 d = true → d.canLay0 = true
  | _, _, .non, _ => rfl
  | _, _, .bl b, _ => rfl
  | _, _, .int i, _ => rfl
  | _, _, .str h, _ => h.1
  | _, _, .lst h _ r, q => by rw [PyData.canLay0]; exact Rps.can r (by simpa [pure0] using q)
  | _, _, .tup h _ r, q => by rw [PyData.canLay0]; exact Rps.can r (by simpa [pure0] using q)
  | _, _, .scr h _ r, q => by simp [pure0] at q
  | _, _, .tupD h _ _ r, q => by simp [pure0] at q
  | _, _, .dK h _ r, q => by simp [pure0] at q
  | _, _, .dT h _ r, q => by simp [pure0] at q
theorem Rps.can {K : PySem.W.Frag} {C : Hp} : ∀ {v : List V} {d : List PyData}, Rps K C v d → pureAll d = true → PyData.canLayAll0 d = true
  | _, _, .nil, _ => rfl
  | _, _, .cons h r, q => by
    rw [pureAll, Bool.and_eq_true] at q
    rw [PyData.canLayAll0, Rp.can h q.1, Rps.can r q.2]; rfl
end
theorem Rp.shaped {K : PySem.W.Frag} {C : Hp} {v : V} {d : PyData} (h : Rp K C v d) (s : shN 64 d = true) : SeqAt.shaped d = true := by
  obtain ⟨p, q⟩ := shN_of s
  unfold SeqAt.shaped
  rw [h.can p, decide_eq_true q]; rfl
theorem Rp.dp' {K : PySem.W.Frag} {C : Hp} {v : V} {d : PyData} (h : Rp K C v d) (s : shN 64 d = true) : Dp K C v d := h.dp (shN_of s).1

/-- the size that everything has -/
def lenOk : PyData → Prop
  | .list ds => ds.length ≤ LN
  | .tuple ds => ds.length ≤ LN
  | .dict es => es.length ≤ LN + 1
  | .str x => sOk x
  | _ => True
theorem RpK.len {K : PySem.W.Frag} {C : Hp} : ∀ {vs : List (Key × V)} {ds : List (PyData × PyData)}, RpK K C vs ds → vs.length = ds.length
  | _, _, .nil => rfl
  | _, _, .cons _ _ r => by simp only [List.length_cons, r.len]
theorem RpT.len {K : PySem.W.Frag} {C : Hp} : ∀ {vs : List (List Key × V)} {ds : List (PyData × PyData)}, RpT K C vs ds → vs.length = ds.length
  | _, _, .nil => rfl
  | _, _, .cons _ _ r => by simp only [List.length_cons, r.len]
theorem Rp.lenOk {K : PySem.W.Frag} {C : Hp} {v : V} {d : PyData} (h : Rp K C v d) : lenOk d := by
  cases h with
  | lst _ l r => show _ ≤ LN; rw [← r.len]; exact l
  | tup _ l r => show _ ≤ LN; rw [← r.len]; exact l
  | scr _ l r => show 1 ≤ LN + 1; decide
  | tupD _ _ l r => show 1 ≤ LN + 1; decide
  | dK _ l r => show _ ≤ LN + 1; rw [← r.len]; omega
  | dT _ l r => show _ ≤ LN + 1; rw [List.length_cons, ← r.len]; omega
  | str h => exact h
  | _ => trivial

/-! ### the environment: what is known of each slot -/
inductive Sl where
  /-- nothing is known -/
  | u
  /-- the datum, for ever -/
  | d (x : PyData)
  /-- the datum, an object of the def's own that may be changed (its address, where that is told) -/
  | o (q : Option Addr) (x : PyData)
abbrev Env' := List Sl
/-- the object that bears a datum that may change -/
def Ow (K : PySem.W.Frag) (C : Hp) (ho : Option HO) : PyData → Prop
  | .list ds => ∃ vs, ho = some (.lst vs) ∧ vs.length ≤ LN ∧ Rps K C vs ds
  | .dict es => (∃ kvs, ho = some (.dK kvs) ∧ kvs.length ≤ LN ∧ RpK K C kvs es) ∨ (∃ kvs es', es = (.none, .bool true) :: es' ∧ ho = some (.dT kvs) ∧ kvs.length ≤ LN ∧ RpT K C kvs es')
  | _ => False
theorem Ow.mono {K : PySem.W.Frag} {C C' : Hp} {ho : Option HO} (e : Ex C C') {d : PyData} (h : Ow K C ho d) : Ow K C' ho d := by
  cases d with
  | list ds => obtain ⟨vs, a, l, r⟩ := h; exact ⟨vs, a, l, r.mono e⟩
  | dict es =>
    rcases h with ⟨vs, a, l, r⟩ | ⟨vs, es', q, a, l, r⟩
    · exact .inl ⟨vs, a, l, r.mono e⟩
    · exact .inr ⟨vs, es', q, a, l, r.mono e⟩
  | _ => exact h.elim
theorem Ow.there {K : PySem.W.Frag} {C : Hp} {ho : Option HO} {d : PyData} (h : Ow K C ho d) : ho ≠ none := by
  cases d with
  | list ds => obtain ⟨vs, rfl, l, r⟩ := h; simp
  | dict es => rcases h with ⟨vs, rfl, l, r⟩ | ⟨vs, es', q, rfl, l, r⟩ <;> simp
  | _ => exact h.elim
/-- a dict that is known for ever is locked -/
def lkO : HO → Prop
  | .dK _ => False
  | .dT _ => False
  | _ => True
/-- an owned object that is added to the frozen ones -/
theorem Ow.frz {K : PySem.W.Frag} {C : Hp} {p : Addr} {o : HO} {d : PyData} (h : Ow K C (some o) d) (hp : C p = none) : Rp K (upd C p o) (.ref p) d := by
  cases d with
  | list ds => obtain ⟨vs, e, l, r⟩ := h; cases e; exact .lst upd_same l (r.mono (Ex.new hp))
  | dict es =>
    rcases h with ⟨vs, e, l, r⟩ | ⟨vs, es', q, e, l, r⟩
    · cases e; exact .dK (.inl upd_same) l (r.mono (Ex.new hp))
    · cases e; subst q; exact .dT (.inl upd_same) l (r.mono (Ex.new hp))
  | _ => exact h.elim
/-- .. by an object that may be read so -/
theorem Ow.frzL {K : PySem.W.Frag} {C : Hp} {p : Addr} {o : HO} {od : Obj} {d : PyData} (h : Ow K C (some o) d) (hp : C p = none) (hd : ¬ lkO o) : Rp K (upd C p (.frz od o)) (.ref p) d := by
  cases d with
  | list ds => obtain ⟨vs, e, l, r⟩ := h; cases e; exact absurd trivial hd
  | dict es =>
    rcases h with ⟨vs, e, l, r⟩ | ⟨vs, es', q, e, l, r⟩
    · cases e; exact .dK (.inr ⟨_, upd_same⟩) l (r.mono (Ex.new hp))
    · cases e; subst q; exact .dT (.inr ⟨_, upd_same⟩) l (r.mono (Ex.new hp))
  | _ => exact h.elim
theorem Ow.mut {K : PySem.W.Frag} {C : Hp} {o : HO} {d : PyData} (h : Ow K C (some o) d) : Mut (some o) := by
  cases d with
  | list ds => obtain ⟨vs, e, l, r⟩ := h; cases e; exact trivial
  | dict es => rcases h with ⟨vs, e, l, r⟩ | ⟨vs, es', q, e, l, r⟩ <;> cases e <;> exact trivial
  | _ => exact h.elim
structure EnvC (K : PySem.W.Frag) (R C : Hp) (env : Env') (σ : L2.St) (H : Hp) : Prop where
  len : env.length = σ.length
  cH : Ex C H
  rH : Ex R H
  rc : ∀ p, R p ≠ none → C p = none
  dat : ∀ (i : Nat) (x : PyData), env[i]? = some (.d x) → ∃ v : V, σ[i]? = some (some v) ∧ Rp K C v x
  own : ∀ (i : Nat) (q : Option Addr) (x : PyData), env[i]? = some (.o q x) → ∃ p : Addr, σ[i]? = some (some (.ref p)) ∧ (∀ p', q = some p' → p' = p) ∧ C p = none ∧ R p = none ∧ Ow K C (H p) x
  apart : ∀ (i j : Nat) (q q' : Option Addr) (x y : PyData) (p : Addr), env[i]? = some (.o q x) → env[j]? = some (.o q' y) → σ[i]? = some (some (.ref p)) → σ[j]? = some (some (.ref p)) → i = j
  lk : ∀ (a : Addr) (u : HO), C a = some u → lkO u
section
variable {K : PySem.W.Frag} {R C C' H H' : Hp} {env env' : Env'} {σ : L2.St}
/-- a new object, known for ever -/
theorem lk_upd {C : Hp} {p : Addr} {o : HO} (h : ∀ (a : Addr) (u : HO), C a = some u → lkO u) (hl : lkO o) : ∀ (a : Addr) (u : HO), upd C p o a = some u → lkO u := fun a u e => by
  by_cases k : a = p
  · subst k; rw [upd_same] at e; cases e; exact hl
  · rw [upd_ne k] at e; exact h a u e
theorem EnvC.new {p : Addr} {o : HO} (E : EnvC K R C env σ H) (hp : H p = none) (hl : lkO o := by trivial) : EnvC K R (upd C p o) env σ (upd H p o) := by
  have cp : C p = none := by
    cases q : C p with
    | none => rfl
    | some u => rw [E.cH _ _ q] at hp; cases hp
  have rp : R p = none := by
    cases q : R p with
    | none => rfl
    | some u => rw [E.rH _ _ q] at hp; cases hp
  refine ⟨E.len, fun a u e => ?_, fun a u e => ?_, fun a e => ?_, fun i x e => ?_, fun i k x e => ?_, E.apart, lk_upd E.lk hl⟩
  · by_cases h : a = p
    · subst h; rw [upd_same] at e ⊢; exact e
    · rw [upd_ne h] at e ⊢; exact E.cH _ _ e
  · rw [upd_ne (ne_of_none e rp)]; exact E.rH _ _ e
  · have ha : a ≠ p := fun h => by subst h; exact e rp
    rw [upd_ne ha]; exact E.rc _ e
  · obtain ⟨v, h1, h2⟩ := E.dat i x e
    exact ⟨v, h1, h2.mono (Ex.new cp)⟩
  · obtain ⟨q, h1, h0, h2, h3, h4⟩ := E.own i k x e
    have hq : q ≠ p := fun h => by subst h; exact h4.there hp
    exact ⟨q, h1, h0, by rw [upd_ne hq]; exact h2, h3, by rw [upd_ne hq]; exact h4.mono (Ex.new cp)⟩
/-- a new object, not yet given to anybody -/
theorem EnvC.newO {p : Addr} {o : HO} (E : EnvC K R C env σ H) (hp : H p = none) : EnvC K R C env σ (upd H p o) := by
  refine ⟨E.len, E.cH.trans (Ex.new hp), E.rH.trans (Ex.new hp), E.rc, E.dat, fun i k x e => ?_, E.apart, E.lk⟩
  obtain ⟨q, h1, h0, h2, h3, h4⟩ := E.own i k x e
  have hq : q ≠ p := fun h => by subst h; exact h4.there hp
  exact ⟨q, h1, h0, h2, h3, by rw [upd_ne hq]; exact h4⟩
theorem EnvC.cN (E : EnvC K R C env σ H) {p : Addr} (hp : H p = none) : C p = none := by
  cases q : C p with
  | none => rfl
  | some u => rw [E.cH _ _ q] at hp; cases hp
theorem EnvC.rN (E : EnvC K R C env σ H) {p : Addr} (hp : H p = none) : R p = none := by
  cases q : R p with
  | none => rfl
  | some u => rw [E.rH _ _ q] at hp; cases hp
/-- a slot that is not owned may forget -/
inductive SlLe : Sl → Sl → Prop
  | u {s : Sl} : SlLe .u s
  | r {s : Sl} : SlLe s s
/-- env' knows less than env -/
def Le (env' env : Env') : Prop := env'.length = env.length ∧ ∀ (i : Nat) (s : Sl), env'[i]? = some s → s = .u ∨ env[i]? = some s
theorem Le.refl (env : Env') : Le env env := ⟨rfl, fun _ _ h => .inr h⟩
theorem Le.trans {a b c : Env'} (h : Le a b) (k : Le b c) : Le a c := ⟨h.1.trans k.1, fun i s e => by
  rcases h.2 i s e with z | z
  · exact .inl z
  · exact k.2 i s z⟩
theorem EnvC.le (E : EnvC K R C env σ H) (l : Le env' env) : EnvC K R C env' σ H := by
  refine ⟨l.1.trans E.len, E.cH, E.rH, E.rc, fun i x e => ?_, fun i k x e => ?_, fun i j k k' x y p e1 e2 s1 s2 => ?_, E.lk⟩
  · rcases l.2 i _ e with z | z
    · cases z
    · exact E.dat i x z
  · rcases l.2 i _ e with z | z
    · cases z
    · exact E.own i k x z
  · rcases l.2 i _ e1 with z | z
    · cases z
    · rcases l.2 j _ e2 with z' | z'
      · cases z'
      · exact E.apart i j k k' x y p z z' s1 s2
/-- the slot i set to a datum known for ever -/
theorem EnvC.set {v : V} {x : PyData} (E : EnvC K R C env σ H) (i : Nat) (r : Rp K C v x) : EnvC K R C (env.set i (.d x)) (σ.set i (some v)) H := by
  refine ⟨by simp [E.len], E.cH, E.rH, E.rc, fun j y e => ?_, fun j w y e => ?_, fun j k w w' y z p e1 e2 s1 s2 => ?_, E.lk⟩
  · by_cases h : i = j
    · subst h
      rw [List.getElem?_set_self'] at e ⊢
      cases q : env[i]? with
      | none => rw [q] at e; cases e
      | some w =>
        rw [q] at e
        have hl : i < σ.length := by rw [← E.len]; exact (List.getElem?_eq_some_iff.mp q).1
        rw [List.getElem?_eq_getElem hl]
        simp at e; subst e
        exact ⟨v, by simp, r⟩
    · rw [List.getElem?_set_ne h] at e ⊢; exact E.dat j y e
  · by_cases h : i = j
    · subst h
      rw [List.getElem?_set_self'] at e
      cases q : env[i]? <;> rw [q] at e <;> simp at e
    · rw [List.getElem?_set_ne h] at e ⊢; exact E.own j w y e
  · have h1 : i ≠ j := fun h => by
      subst h; rw [List.getElem?_set_self'] at e1
      cases q : env[i]? <;> rw [q] at e1 <;> simp at e1
    have h2 : i ≠ k := fun h => by
      subst h; rw [List.getElem?_set_self'] at e2
      cases q : env[i]? <;> rw [q] at e2 <;> simp at e2
    rw [List.getElem?_set_ne h1] at e1 s1
    rw [List.getElem?_set_ne h2] at e2 s2
    exact E.apart j k w w' y z p e1 e2 s1 s2
/-- not an object that the environment owns -/
def NotOwn (env : Env') (σ : L2.St) (p : Addr) : Prop := ∀ (i : Nat) (k : Option Addr) (x : PyData), env[i]? = some (.o k x) → σ[i]? ≠ some (some (.ref p))
theorem EnvC.notOwn (E : EnvC K R C env σ H) {p : Addr} (hp : H p = none) : NotOwn env σ p := fun i k x e s => by
  obtain ⟨q, h1, h0, h2, h3, h4⟩ := E.own i k x e
  rw [h1] at s; cases s
  exact h4.there hp
/-- the slot i set to an object of its own -/
theorem EnvC.setO {p : Addr} {x : PyData} (E : EnvC K R C env σ H) (i : Nat) (cp : C p = none) (rp : R p = none) (no : NotOwn env σ p) (ow : Ow K C (H p) x) : EnvC K R C (env.set i (.o none x)) (σ.set i (some (.ref p))) H := by
  refine ⟨by simp [E.len], E.cH, E.rH, E.rc, fun j y e => ?_, fun j w y e => ?_, fun j k w w' y z q e1 e2 s1 s2 => ?_, E.lk⟩
  · by_cases h : i = j
    · subst h
      rw [List.getElem?_set_self'] at e
      cases q : env[i]? <;> rw [q] at e <;> simp at e
    · rw [List.getElem?_set_ne h] at e ⊢; exact E.dat j y e
  · by_cases h : i = j
    · subst h
      rw [List.getElem?_set_self'] at e ⊢
      cases q : env[i]? with
      | none => rw [q] at e; cases e
      | some w2 =>
        rw [q] at e
        have hl : i < σ.length := by rw [← E.len]; exact (List.getElem?_eq_some_iff.mp q).1
        rw [List.getElem?_eq_getElem hl]
        simp at e; obtain ⟨e', e⟩ := e; subst e; subst e'
        exact ⟨p, by simp, fun _ z => (by cases z), cp, rp, ow⟩
    · rw [List.getElem?_set_ne h] at e ⊢; exact E.own j w y e
  · by_cases h1 : i = j
    · by_cases h2 : i = k
      · exact h1.symm.trans h2
      · subst h1
        rw [List.getElem?_set_ne h2] at e2 s2
        rw [List.getElem?_set_self'] at s1
        cases qq : σ[i]? with
        | none => rw [qq] at s1; cases s1
        | some w2 => rw [qq] at s1; simp at s1; subst s1; exact absurd s2 (no k _ z e2)
    · by_cases h2 : i = k
      · subst h2
        rw [List.getElem?_set_ne h1] at e1 s1
        rw [List.getElem?_set_self'] at s2
        cases qq : σ[i]? with
        | none => rw [qq] at s2; cases s2
        | some w2 => rw [qq] at s2; simp at s2; subst s2; exact absurd s1 (no j _ y e1)
      · rw [List.getElem?_set_ne h1] at e1 s1
        rw [List.getElem?_set_ne h2] at e2 s2
        exact E.apart j k w w' y z q e1 e2 s1 s2
/-- the object that slot i owns is changed -/
theorem EnvC.mutO {p : Addr} {x y : PyData} {o : HO} {i : Nat} {k0 : Option Addr} (E : EnvC K R C env σ H) (e : env[i]? = some (.o k0 x)) (s : σ[i]? = some (some (.ref p))) (cp : C p = none) (rp : R p = none) (ow : Ow K C (some o) y) : EnvC K R C (env.set i (.o k0 y)) σ (upd H p o) := by
  have hi : i < env.length := (List.getElem?_eq_some_iff.mp e).1
  refine ⟨by simp [E.len], fun a u q => by rw [upd_ne (ne_of_none q cp)]; exact E.cH _ _ q, fun a u q => by rw [upd_ne (ne_of_none q rp)]; exact E.rH _ _ q, E.rc, fun j z q => ?_, fun j w z q => ?_, fun j k w w' y' z q e1 e2 s1 s2 => ?_, E.lk⟩
  · by_cases h : i = j
    · subst h; rw [List.getElem?_set_self hi] at q; cases q
    · rw [List.getElem?_set_ne h] at q; exact E.dat j z q
  · by_cases h : i = j
    · subst h; rw [List.getElem?_set_self hi] at q; cases q
      obtain ⟨p2, s2, h0, _⟩ := E.own i _ x e
      rw [s] at s2; cases s2
      exact ⟨p, s, h0, cp, rp, by rw [upd_same]; exact ow⟩
    · rw [List.getElem?_set_ne h] at q
      obtain ⟨q', h1, h0, h2, h3, h4⟩ := E.own j w z q
      have hq : q' ≠ p := fun hh => by subst hh; exact h (E.apart i j _ _ x z q' e q s h1)
      exact ⟨q', h1, h0, h2, h3, by rw [upd_ne hq]; exact h4⟩
  · have f1 : ∃ k'' y'', env[j]? = some (.o k'' y'') := by
      by_cases h : i = j
      · subst h; exact ⟨_, x, e⟩
      · rw [List.getElem?_set_ne h] at e1; exact ⟨_, _, e1⟩
    have f2 : ∃ k'' y'', env[k]? = some (.o k'' y'') := by
      by_cases h : i = k
      · subst h; exact ⟨_, x, e⟩
      · rw [List.getElem?_set_ne h] at e2; exact ⟨_, _, e2⟩
    obtain ⟨_, _, f1⟩ := f1
    obtain ⟨_, _, f2⟩ := f2
    exact E.apart j k _ _ _ _ q f1 f2 s1 s2
theorem upd_self {H : Hp} {p : Addr} {o : HO} (h : H p = some o) : upd H p o = H := by
  funext b; unfold upd; split
  · rename_i e; rw [e, h]
  · rfl
/-- an object that is owned by the environment's slot i is from now on known for ever (as u) -/
theorem EnvC.frzU {x : PyData} {i : Nat} {k0 : Option Addr} {p : Addr} {u : HO} (E : EnvC K R C env σ H) (e : env[i]? = some (.o k0 x)) (s : σ[i]? = some (some (.ref p))) (hu : lkO u) (ow : Rp K (upd C p u) (.ref p) x) : EnvC K R (upd C p u) (env.set i (.d x)) σ (upd H p u) := by
  obtain ⟨p', s', _, cp, rp, _⟩ := E.own i _ x e
  rw [s] at s'; cases s'
  have hi : i < env.length := (List.getElem?_eq_some_iff.mp e).1
  refine ⟨by simp [E.len], fun a u q => ?_, fun a u q => ?_, fun a q => ?_, fun j z q => ?_, fun j w z q => ?_, fun j k w w' y' z q e1 e2 s1 s2 => ?_, lk_upd E.lk hu⟩
  · by_cases h : a = p
    · subst h; rw [upd_same] at q ⊢; exact q
    · rw [upd_ne h] at q ⊢; exact E.cH _ _ q
  · rw [upd_ne (ne_of_none q rp)]; exact E.rH _ _ q
  · have ha : a ≠ p := fun h => by subst h; exact q rp
    rw [upd_ne ha]; exact E.rc _ q
  · by_cases h : i = j
    · subst h; rw [List.getElem?_set_self hi] at q; cases q
      exact ⟨_, s, ow⟩
    · rw [List.getElem?_set_ne h] at q
      obtain ⟨v, h1, h2⟩ := E.dat j z q
      exact ⟨v, h1, h2.mono (Ex.new cp)⟩
  · by_cases h : i = j
    · subst h; rw [List.getElem?_set_self hi] at q; cases q
    · rw [List.getElem?_set_ne h] at q
      obtain ⟨q', h1, h0, h2, h3, h4⟩ := E.own j w z q
      have hq : q' ≠ p := fun hh => by subst hh; exact h (E.apart i j _ _ x z q' e q s h1)
      exact ⟨q', h1, h0, by rw [upd_ne hq]; exact h2, h3, by rw [upd_ne hq]; exact h4.mono (Ex.new cp)⟩
  · have h1 : i ≠ j := fun h => by subst h; rw [List.getElem?_set_self hi] at e1; cases e1
    have h2 : i ≠ k := fun h => by subst h; rw [List.getElem?_set_self hi] at e2; cases e2
    rw [List.getElem?_set_ne h1] at e1
    rw [List.getElem?_set_ne h2] at e2
    exact E.apart j k w w' y' z q e1 e2 s1 s2
/-- .. an object that is in nobody's slot -/
theorem EnvC.frzV {p : Addr} {u : HO} (E : EnvC K R C env σ H) (hu : lkO u) (cp : C p = none) (rp : R p = none) (no : NotOwn env σ p) : EnvC K R (upd C p u) env σ (upd H p u) := by
  refine ⟨E.len, fun a u q => ?_, fun a u q => ?_, fun a q => ?_, fun i z q => ?_, fun i w z q => ?_, E.apart, lk_upd E.lk hu⟩
  · by_cases h : a = p
    · subst h; rw [upd_same] at q ⊢; exact q
    · rw [upd_ne h] at q ⊢; exact E.cH _ _ q
  · rw [upd_ne (ne_of_none q rp)]; exact E.rH _ _ q
  · have ha : a ≠ p := fun h => by subst h; exact q rp
    rw [upd_ne ha]; exact E.rc _ q
  · obtain ⟨v, h1, h2⟩ := E.dat i z q
    exact ⟨v, h1, h2.mono (Ex.new cp)⟩
  · obtain ⟨q', h1, h0, h2, h3, h4⟩ := E.own i w z q
    have hq : q' ≠ p := fun h => by subst h; exact no i w z q h1
    exact ⟨q', h1, h0, by rw [upd_ne hq]; exact h2, h3, by rw [upd_ne hq]; exact h4.mono (Ex.new cp)⟩
/-- as it is, or with one dict locked -/
def Lkd (H : Hp) (P : Hp → Prop) : Prop := P H ∨ ∃ d u, H d = some u ∧ Mut (some u) ∧ ∀ od, P (upd H d (.frz od u))
theorem lk_of (o : HO) : lkO o ∨ (¬ lkO o ∧ Mut (some o)) := by cases o <;> first | exact .inl trivial | exact .inr ⟨fun h => h, trivial⟩
theorem EnvC.frz {x : PyData} {i : Nat} {k0 : Option Addr} {P : Hp → Prop} (E : EnvC K R C env σ H) (e : env[i]? = some (.o k0 x)) (h : ∀ C' H', Ex C C' → EnvC K R C' (env.set i (.d x)) σ H' → P H') : Lkd H P := by
  obtain ⟨p, s, _, cp, rp, ow⟩ := E.own i _ x e
  cases ho : H p with
  | none => rw [ho] at ow; exact absurd rfl ow.there
  | some o =>
    rw [ho] at ow
    rcases lk_of o with hl | ⟨hl, mu⟩
    · refine .inl ?_
      have E2 := E.frzU e s hl (ow.frz cp)
      rw [upd_self ho] at E2
      exact h _ _ (Ex.new cp) E2
    · exact .inr ⟨p, o, ho, mu, fun od => h _ _ (Ex.new cp) (E.frzU (u := .frz od o) e s trivial (ow.frzL cp hl))⟩
theorem pe_lkd {X : Cx} {e : Expr} {t : TE} (h : PE X e t) : PE X e (fun σ H Q => t σ H fun v H' => Lkd H' (Q v)) := by
  refine ⟨fun pins s σ H Q I hw => ?_⟩
  refine thn (h.run pins s σ _ _ I hw) fun v s1 ⟨x, H1, I2, r, q⟩ => ?_
  rcases q with q | ⟨d, u, hd, mu, q⟩
  · exact ⟨x, _, I2, r, q⟩
  · obtain ⟨od, I3⟩ := I2.lock hd mu
    exact ⟨x, _, I3, r, q od⟩
theorem pss_lkd {X : Cx} {e : List Stmt} {t : TS} (h : PSs X e t) : PSs X e (fun D σ H => Lkd H (t D σ)) := by
  refine ⟨fun pins s σ H D I hw => ?_⟩
  rcases hw with q | ⟨d, u, hd, mu, q⟩
  · exact h.run pins s σ H D I q
  · obtain ⟨od, I3⟩ := I.lock hd mu
    exact h.run pins s σ _ D I3 (q od)
theorem ps_lkd {X : Cx} {e : Stmt} {t : TS} (h : PS X e t) : PS X e (fun D σ H => t { D with nx := fun σ' H' => Lkd H' (D.nx σ') } σ H) := by
  refine ⟨fun pins s σ H D I hw => ?_⟩
  refine thn (h.run pins s σ H _ I hw) fun f s1 q => ?_
  cases f with
  | next =>
    obtain ⟨σ', H', I2, q⟩ := q
    rcases q with q | ⟨d, u, hd, mu, q⟩
    · exact ⟨σ', _, I2, q⟩
    · obtain ⟨od, I3⟩ := I2.lock hd mu
      exact ⟨σ', _, I3, q od⟩
  | brk => exact q
  | cont => exact q
  | ret v => exact q
end
end J
namespace J
open PySem L2 PySem.Spec PyProof.Rows

/-! ### where one stands -/
structure TC where
  P : Program
  w : World
  K : PySem.W.Frag
  mg : Str → Option Value
  base : Heap
  N : List Str
  sc : Scope
  fn : Str → Bool
  k : Nat
structure CT (X : Cx) (T : TC) : Prop where
  P : X.prog = T.P
  w : X.w = T.w
  K : X.K = T.K
  mg : X.mg = T.mg
  base : X.base = T.base
  N : X.N = T.N
  sc : X.env.scope = T.sc
  calm : X.calm = true
  room : Room T.k X.A
  fn : ∀ x, T.fn x = true → X.fn x = true
  xe : X.xe = fun _ _ => False
abbrev TC.blk (T : TC) (scope : Scope) : TC := { T with sc := relS scope T.sc, fn := fun x => scope.names.lookup x == some .cell }
theorem CT.blk {X : Cx} {T : TC} (h : CT X T) (scope : Scope) (s : Shared) (H : Hp) (C : Addr) (cl : List (Str × Addr)) (fp : List Addr) : CT (X.blk s H scope (compEnvC scope cl C X.env) fp) (T.blk scope) where
  P := h.P
  w := h.w
  K := h.K
  mg := h.mg
  base := h.base
  N := h.N
  sc := by show relS scope X.env.scope = relS scope T.sc; rw [h.sc]
  calm := h.calm
  room := h.room
  fn := fun x e => e
  xe := rfl
theorem CT.pass {X : Cx} {T : TC} (h : CT X T) : PassesOwn (model X.prog X.w) X.A X.env X.xe := by rw [h.xe]; exact PassesOwn.never

/-! ### readings of data -/
inductive Re where
  | d (x : PyData) | o (x : PyData) | b (x : PyData)
def Rr (K : PySem.W.Frag) (R C H : Hp) (env : Env') (σ : L2.St) (v : V) : Re → Prop
  | .d x => Rp K C v x
  | .o x => ∃ p, v = .ref p ∧ C p = none ∧ R p = none ∧ NotOwn env σ p ∧ Ow K C (H p) x
  | .b x => Rp K C v x ∨ ∃ (i : Nat) (k : Option Addr), env[i]? = some (.o k x) ∧ σ[i]? = some (some v)
def tJ (K : PySem.W.Frag) (env env' : Env') (r : Re) : TE := fun σ H Q => ∃ R C, EnvC K R C env σ H ∧ ∀ v C' H', Ex C C' → EnvC K R C' env' σ H' → Rr K R C' H' env' σ v r → Q v H'
/-- in env the expression e gives r, and leaves env' -/
def JE (T : TC) (e : Expr) (env env' : Env') (r : Re) : Prop := ∀ X, CT X T → PE X e (tJ X.K env env' r)
theorem _root_.L2.PE.wk {X : Cx} {e : Expr} {t t' : TE} (h : PE X e t) (hh : ∀ σ H Q, t' σ H Q → t σ H Q) : PE X e t' := ⟨fun pins s σ H Q I q => h.run pins s σ H Q I (hh σ H Q q)⟩
theorem _root_.L2.PT.wk {X : Cx} {e : Expr} {t t' : TT} (h : PT X e t) (hh : ∀ σ H Q, t' σ H Q → t σ H Q) : PT X e t' := ⟨fun pins s σ H Q I q => h.run pins s σ H Q I (hh σ H Q q)⟩
theorem _root_.L2.PW.wk {X : Cx} {e : Expr} {t t' : TT} (h : PW X e t) (hh : ∀ σ H Q, t' σ H Q → t σ H Q) : PW X e t' := ⟨fun wh pins s σ H Q I q => h.run wh pins s σ H Q I (hh σ H Q q)⟩
theorem _root_.L2.PA.wk {X : Cx} {e : List Expr} {t t' : TA} (h : PA X e t) (hh : ∀ σ H Q, t' σ H Q → t σ H Q) : PA X e t' := ⟨fun ps pins s σ H Q I q => h.run ps pins s σ H Q I (hh σ H Q q)⟩
theorem _root_.L2.PS.wk {X : Cx} {e : Stmt} {t t' : TS} (h : PS X e t) (hh : ∀ D σ H, t' D σ H → t D σ H) : PS X e t' := ⟨fun pins s σ H D I q => h.run pins s σ H D I (hh D σ H q)⟩
theorem _root_.L2.PSs.wk {X : Cx} {e : List Stmt} {t t' : TS} (h : PSs X e t) (hh : ∀ D σ H, t' D σ H → t D σ H) : PSs X e t' := ⟨fun pins s σ H D I q => h.run pins s σ H D I (hh D σ H q)⟩
theorem _root_.L2.PI.wk {X : Cx} {g e : Expr} {t t' : TI} (h : PI X g e t) (hh : ∀ σ H R, t' σ H R → t σ H R) : PI X g e t' := ⟨fun pins s σ H R I q => h.run pins s σ H R I (hh σ H R q)⟩
theorem _root_.L2.PG.wk {X : Cx} {g : Expr} {t t' : TG} (h : PG X g t) (hh : ∀ v σ H Q, t' v σ H Q → t v σ H Q) : PG X g t' := ⟨fun pins s σ H v u Q I r q => h.run pins s σ H v u Q I r (hh v σ H Q q)⟩

section
variable {T : TC} {a b e : Expr} {env e0 e1 e2 e3 : Env'} {pos : Pos} {x y : PyData}
theorem je_b (h : JE T e e0 e1 (.d x)) : JE T e e0 e1 (.b x) := fun X hX => (h X hX).wk fun σ H Q ⟨R, C, E, k⟩ => ⟨R, C, E, fun v C' H' c E' r => k v C' H' c E' (.inl r)⟩
/-- a temporary object is known for ever -/
theorem je_fz (h : JE T e e0 e1 (.o x)) : JE T e e0 e1 (.d x) := fun X hX => (pe_lkd (h X hX)).wk fun σ H Q ⟨R, C, E, k⟩ => ⟨R, C, E, fun v C' H' c E' ⟨p, ev, cp, rp, no, ow⟩ => by
  subst ev
  cases ho : H' p with
  | none => rw [ho] at ow; exact absurd rfl ow.there
  | some o =>
    rw [ho] at ow
    rcases lk_of o with hl | ⟨hl, mu⟩
    · have E2 := E'.frzV hl cp rp no
      rw [upd_self ho] at E2
      exact .inl (k _ _ _ (c.trans (Ex.new cp)) E2 (ow.frz cp))
    · exact .inr ⟨p, o, ho, mu, fun od => k _ _ _ (c.trans (Ex.new cp)) (E'.frzV (u := .frz od o) trivial cp rp no) (ow.frzL cp hl)⟩⟩
theorem je_fb (h : JE T e e0 e1 (.o x)) : JE T e e0 e1 (.b x) := je_b (je_fz h)
theorem je_le (l : Le e0 env) (h : JE T e e0 e1 (.d x)) : JE T e env e1 (.d x) := fun X hX => (h X hX).wk fun σ H Q ⟨R, C, E, k⟩ => ⟨R, C, E.le l, k⟩
theorem je_is {r r' : Re} (h : JE T e e0 e1 r) (q : r = r') : JE T e e0 e1 r' := q ▸ h

/-! ### names, constants -/
def visB (sc : Scope) (x : Str) : Bool := match sc.names.lookup x with
  | some .local => true | some .cell => true | some .free => true | _ => false
theorem vis_of {sc : Scope} {x : Str} (h : visB sc x = true) : Vis sc x := by
  unfold visB at h
  unfold Vis
  split at h <;> first | exact .inl (by assumption) | exact .inr (.inl (by assumption)) | exact .inr (.inr (by assumption)) | cases h
theorem je_var (i : Nat) {x : Str} {d : PyData} (hN : T.N[i]? = some x := by rfl) (hv : visB T.sc x = true := by rfl) (he : env[i]? = some (.d d) := by rfl) (hd : (x == ("__debug__" : Str)) = false := by decide) (hcd : (x == ("__classdict__" : Str)) = false := by decide) :
    JE T (.Name x pos) env env (.d d) := fun X hX => (pe_var (by rw [hX.N]; exact hN) (by rw [hX.sc]; exact vis_of hv) hd hcd).wk fun σ H Q ⟨R, C, E, k⟩ => by
  obtain ⟨v, h1, h2⟩ := E.dat i d he
  exact ⟨v, h1, k v C H (Ex.refl C) E h2⟩
theorem je_varB (i : Nat) {x : Str} {d : PyData} (hN : T.N[i]? = some x := by rfl) (hv : visB T.sc x = true := by rfl) {k0 : Option Addr} (he : env[i]? = some (.o k0 d) := by rfl) (hd : (x == ("__debug__" : Str)) = false := by decide) (hcd : (x == ("__classdict__" : Str)) = false := by decide) :
    JE T (.Name x pos) env env (.b d) := fun X hX => (pe_var (by rw [hX.N]; exact hN) (by rw [hX.sc]; exact vis_of hv) hd hcd).wk fun σ H Q ⟨R, C, E, k⟩ => by
  obtain ⟨p, h1, h0, h2, h3, h4⟩ := E.own i _ d he
  exact ⟨_, h1, k _ C H (Ex.refl C) E (.inr ⟨i, _, he, h1⟩)⟩
theorem je_int {i j} : JE T (.Constant (.int i) j pos) env env (.d (.int i)) := fun X hX => pe_int.wk fun σ H Q ⟨R, C, E, k⟩ => k _ C H (Ex.refl C) E (.int i)
theorem je_bl {i j} : JE T (.Constant (.bool i) j pos) env env (.d (.bool i)) := fun X hX => pe_bl.wk fun σ H Q ⟨R, C, E, k⟩ => k _ C H (Ex.refl C) E (.bl i)
theorem je_non {j} : JE T (.Constant .none j pos) env env (.d .none) := fun X hX => pe_non.wk fun σ H Q ⟨R, C, E, k⟩ => k _ C H (Ex.refl C) E .non
theorem je_str {i j} (h : sOk i := by exact ⟨by decide +kernel, by decide +kernel⟩) : JE T (.Constant (.str i) j pos) env env (.d (.str i)) := fun X hX => pe_str.wk fun σ H Q ⟨R, C, E, k⟩ => k _ C H (Ex.refl C) E (.str h)
def glB (sc : Scope) (x : Str) : Bool := match sc.names.lookup x with
  | some .globalImplicit => true | _ => false
theorem gl_of {X : Cx} (hX : CT X T) {x : Str} (h : glB T.sc x = true) : Gl X x := by
  unfold Gl Env.kindOf
  rw [hX.sc]
  unfold glB at h
  split at h <;> first | assumption | cases h
/-- a module's constant -/
theorem je_glob {x : Str} {d : PyData} {v : V} {u : Value} (hg : glB T.sc x = true) (hm : T.mg x = some u) (r : RelV v u) (hr : ∀ C, Rp T.K C v d) (hd : (x == ("__debug__" : Str)) = false := by decide) : JE T (.Name x pos) env env (.d d) :=
  fun X hX => (pe_glob (gl_of hX hg) (by rw [hX.mg]; exact hm) r hd).wk fun σ H Q ⟨R, C, E, k⟩ => k _ C H (Ex.refl C) E (by show Rp _ _ _ _; rw [hX.K]; exact hr C)

/-! ### what is read -/
variable {K : PySem.W.Frag} {R C H : Hp} {σ : L2.St} {v : V}
theorem rb_lst {ds : List PyData} (E : EnvC K R C env σ H) (h : Rr K R C H env σ v (.b (.list ds))) : ∃ p vs, v = .ref p ∧ H p = some (.lst vs) ∧ vs.length ≤ LN ∧ Rps K C vs ds := by
  rcases h with h | ⟨i, k, h1, h2⟩
  · cases h with
    | lst q l r => exact ⟨_, _, rfl, E.cH _ _ q, l, r⟩
  · obtain ⟨p, h3, _, _, _, vs, h4, l, h5⟩ := E.own i _ _ h1
    rw [h2] at h3; cases h3
    exact ⟨_, _, rfl, h4, l, h5⟩
theorem rb_tup {ds : List PyData} (E : EnvC K R C env σ H) (h : Rr K R C H env σ v (.b (.tuple ds))) : ∃ p vs, v = .ref p ∧ SqT K H p vs ∧ SqT K C p vs ∧ vs.length ≤ LN ∧ Rps K C vs ds := by
  rcases h with h | ⟨i, k, h1, h2⟩
  · cases h with
    | tup q l r => exact ⟨_, _, rfl, E.cH.t q, q, l, r⟩
  · obtain ⟨p, h3, _, _, _, h4⟩ := E.own i _ _ h1
    exact h4.elim
theorem rb_int {i : Int} (E : EnvC K R C env σ H) (h : Rr K R C H env σ v (.b (.int i))) : v = .int i := by
  rcases h with h | ⟨i, k, h1, h2⟩
  · cases h; rfl
  · obtain ⟨p, h3, _, _, _, h4⟩ := E.own i _ _ h1
    exact h4.elim
theorem rb_bl {i : Bool} (E : EnvC K R C env σ H) (h : Rr K R C H env σ v (.b (.bool i))) : v = .bl i := by
  rcases h with h | ⟨i, k, h1, h2⟩
  · cases h; rfl
  · obtain ⟨p, h3, _, _, _, h4⟩ := E.own i _ _ h1
    exact h4.elim
theorem rb_str {i : Str} (E : EnvC K R C env σ H) (h : Rr K R C H env σ v (.b (.str i))) : v = .str i := by
  rcases h with h | ⟨i, k, h1, h2⟩
  · cases h; rfl
  · obtain ⟨p, h3, _, _, _, h4⟩ := E.own i _ _ h1
    exact h4.elim
theorem rb_dK {es : List (PyData × PyData)} (E : EnvC K R C env σ H) (h : Rr K R C H env σ v (.b (.dict es))) (hn : ∀ x, es.head? = some x → x.1 ≠ .none) : ∃ p kvs, v = .ref p ∧ Rd H p (.dK kvs) ∧ kvs.length ≤ LN ∧ RpK K C kvs es := by
  rcases h with h | ⟨i, k, h1, h2⟩
  · cases h with
    | scr q l r => exact absurd rfl (hn _ rfl)
    | tupD q _ l r => exact absurd rfl (hn _ rfl)
    | dK q l r => exact ⟨_, _, rfl, E.cH.rd q, l, r⟩
    | dT q l r => exact absurd rfl (hn _ rfl)
  · obtain ⟨p, h3, _, _, _, h4⟩ := E.own i _ _ h1
    rw [h2] at h3; cases h3
    rcases h4 with ⟨kvs, e, l, r⟩ | ⟨kvs, es', q, e, l, r⟩
    · exact ⟨_, _, rfl, .inl e, l, r⟩
    · subst q; exact absurd rfl (hn _ rfl)
/-- readable in the whole heap -/
theorem rb_rp {d : PyData} (E : EnvC K R C env σ H) (h : Rr K R C H env σ v (.b d)) : Rp K H v d := by
  rcases h with h | ⟨i, k, h1, h2⟩
  · exact h.mono E.cH
  · obtain ⟨p, h3, _, _, _, h4⟩ := E.own i _ _ h1
    rw [h2] at h3; cases h3
    cases d with
    | list ds => obtain ⟨vs, e, l, r⟩ := h4; exact .lst e l (r.mono E.cH)
    | dict es =>
      rcases h4 with ⟨vs, e, l, r⟩ | ⟨vs, es', q, e, l, r⟩
      · exact .dK (.inl e) l (r.mono E.cH)
      · subst q; exact .dT (.inl e) l (r.mono E.cH)
    | _ => exact h4.elim

/-! ### operators -/
/-- what a two-place operation makes of data -/
def Op2 (T : TC) (r : PySem.W.Frag → R2) (x y : PyData) (z : Re) : Prop := ∀ R C H env σ u v Q, EnvC T.K R C env σ H → Rp T.K C u x → Rr T.K R C H env σ v (.b y) →
  (∀ w C' H', Ex C C' → EnvC T.K R C' env σ H' → Rr T.K R C' H' env σ w z → Q w H') → r T.K u v H Q
def Op2B (T : TC) (r : PySem.W.Frag → R2) (x y : PyData) (z : Re) : Prop := ∀ R C H env σ u v Q, EnvC T.K R C env σ H → Rr T.K R C H env σ u (.b x) → Rr T.K R C H env σ v (.b y) →
  (∀ w C' H', Ex C C' → EnvC T.K R C' env σ H' → Rr T.K R C' H' env σ w z → Q w H') → r T.K u v H Q
theorem Op2B.to {r : PySem.W.Frag → R2} {z : Re} (h : Op2B T r x y z) : Op2 T r x y z := fun R C H env σ u v Q E hu hv k => h R C H env σ u v Q E (.inl hu) hv k
/-- how the two operands come: the left one known for ever, or the right one leaves the environment -/
def JE2 (T : TC) (a b : Expr) (e0 e2 : Env') (x y : PyData) : Prop := (∃ e1, JE T a e0 e1 (.d x) ∧ JE T b e1 e2 (.b y)) ∨ (JE T a e0 e2 (.b x) ∧ JE T b e2 e2 (.b y))
theorem op2_run {X : Cx} (hX : CT X T) {r : PySem.W.Frag → R2} {z : Re} (h : JE2 T a b e0 e2 x y) (ho : Op2B T r x y z) :
    ∃ ta tb, PE X a ta ∧ PE X b tb ∧ ∀ σ H Q, tJ X.K e0 e2 z σ H Q → tOp (r X.K) ta tb σ H Q := by
  rcases h with ⟨e1, ha, hb⟩ | ⟨ha, hb⟩
  · refine ⟨_, _, ha X hX, hb X hX, fun σ H Q ⟨R, C, E, k⟩ => ?_⟩
    refine ⟨R, C, E, fun u C1 H1 c1 E1 r1 => ⟨R, C1, E1, fun v C2 H2 c2 E2 r2 => ?_⟩⟩
    rw [hX.K] at *
    exact ho R C2 H2 e2 σ u v Q E2 (.inl (r1.mono c2)) r2 fun w C3 H3 c3 E3 r3 => k w C3 H3 ((c1.trans c2).trans c3) E3 r3
  · refine ⟨_, _, ha X hX, hb X hX, fun σ H Q ⟨R, C, E, k⟩ => ?_⟩
    refine ⟨R, C, E, fun u C1 H1 c1 E1 r1 => ⟨R, C1, E1, fun v C2 H2 c2 E2 r2 => ?_⟩⟩
    rw [hX.K] at *
    refine ho R C2 H2 e2 σ u v Q E2 ?_ r2 fun w C3 H3 c3 E3 r3 => k w C3 H3 ((c1.trans c2).trans c3) E3 r3
    rcases r1 with r1 | r1
    · exact .inl (r1.mono c2)
    · exact .inr r1
theorem j2 (ha : JE T a e0 e1 (.d x)) (hb : JE T b e1 e2 (.b y)) : JE2 T a b e0 e2 x y := .inl ⟨e1, ha, hb⟩
theorem j2d (ha : JE T a e0 e1 (.d x)) (hb : JE T b e1 e2 (.d y)) : JE2 T a b e0 e2 x y := .inl ⟨e1, ha, je_b hb⟩
theorem j2b (ha : JE T a e0 e2 (.b x)) (hb : JE T b e2 e2 (.b y)) : JE2 T a b e0 e2 x y := .inr ⟨ha, hb⟩
theorem j2bd (ha : JE T a e0 e2 (.b x)) (hb : JE T b e2 e2 (.d y)) : JE2 T a b e0 e2 x y := .inr ⟨ha, je_b hb⟩
theorem je_bin {op : Operator} {r : PySem.W.Frag → R2} {z : Re} (hr : ∀ X, CT X T → OpR X (binaryOp op) (r X.K)) (h : JE2 T a b e0 e2 x y) (ho : Op2B T r x y z) : JE T (.BinOp a op b pos) e0 e2 z := fun X hX => by
  obtain ⟨ta, tb, pa, pb, k⟩ := op2_run hX h ho
  exact (pe_op (hr X hX) pa pb).wk k
theorem op2_I0 {g : Int → Int → Int} {i j : Int} : Op2B T (fun _ => rI0 fun i j => .int (g i j)) (.int i) (.int j) (.d (.int (g i j))) := fun R C H env σ u v Q E hu hv k =>
  ⟨i, j, rb_int E hu, rb_int E hv, k _ C H (Ex.refl C) E (.int _)⟩
theorem op2_I {P : Int → Int → Prop} {g : Int → Int → Int} {i j : Int} (h : P i j) : Op2B T (fun _ => rI P fun i j => .int (g i j)) (.int i) (.int j) (.d (.int (g i j))) := fun R C H env σ u v Q E hu hv k =>
  ⟨i, j, rb_int E hu, rb_int E hv, h, k _ C H (Ex.refl C) E (.int _)⟩
theorem op2_B0 {g : Int → Int → Bool} {i j : Int} : Op2B T (fun _ => rI0 fun i j => .bl (g i j)) (.int i) (.int j) (.d (.bool (g i j))) := fun R C H env σ u v Q E hu hv k =>
  ⟨i, j, rb_int E hu, rb_int E hv, k _ C H (Ex.refl C) E (.bl _)⟩
theorem je_add {i j : Int} (h : JE2 T a b e0 e2 (.int i) (.int j)) : JE T (.BinOp a .Add b pos) e0 e2 (.d (.int (i + j))) := je_bin (fun X _ => op_add) h op2_I0
theorem je_sub {i j : Int} (h : JE2 T a b e0 e2 (.int i) (.int j)) : JE T (.BinOp a .Sub b pos) e0 e2 (.d (.int (i - j))) := je_bin (fun X _ => op_sub) h op2_I0
theorem je_mul {i j : Int} (h : JE2 T a b e0 e2 (.int i) (.int j)) (hc : CMul i j) : JE T (.BinOp a .Mult b pos) e0 e2 (.d (.int (i * j))) := je_bin (fun X _ => op_mul) h (op2_I hc)
theorem je_fdiv {i j : Int} (h : JE2 T a b e0 e2 (.int i) (.int j)) (hc : CDivN i j) : JE T (.BinOp a .FloorDiv b pos) e0 e2 (.d (.int (i.fdiv j))) := je_bin (fun X _ => op_fdivN) h (op2_I hc)
theorem je_mod {i j : Int} (h : JE2 T a b e0 e2 (.int i) (.int j)) (hc : j ≠ 0) : JE T (.BinOp a .Mod b pos) e0 e2 (.d (.int (i.fmod j))) := je_bin (fun X _ => op_modN) h (op2_I hc)
theorem je_pow {i j : Int} (h : JE2 T a b e0 e2 (.int i) (.int j)) (hc : CPow i j) : JE T (.BinOp a .Pow b pos) e0 e2 (.d (.int (i ^ j.toNat))) := je_bin (r := fun _ => rI CPow fun i j => .int (i ^ j.toNat)) (fun X _ => op_pow) h (op2_I (g := fun i j => i ^ j.toNat) hc)
theorem je_neg {i : Int} (ha : JE T a e0 e1 (.d (.int i))) : JE T (.UnaryOp .USub a pos) e0 e1 (.d (.int (-i))) := fun X hX => (pe_un un_neg (ha X hX)).wk fun σ H Q ⟨R, C, E, k⟩ =>
  ⟨R, C, E, fun v C' H' c E' r => by cases r; exact ⟨i, rfl, k _ C' H' c E' (.int _)⟩⟩
/-- a new object of the whole -/
theorem EnvC.freshO {ds : List PyData} {vs : List V} {p : Addr} (E : EnvC K R C env σ H) (hp : H p = none) (l : vs.length ≤ LN) (r : Rps K C vs ds) : EnvC K R C env σ (upd H p (.lst vs)) ∧ Rr K R C (upd H p (.lst vs)) env σ (.ref p) (.o (.list ds)) :=
  ⟨E.newO hp, p, rfl, E.cN hp, E.rN hp, E.notOwn hp, vs, by rw [upd_same], l, r⟩
theorem EnvC.freshT {ds : List PyData} {vs : List V} {p : Addr} (E : EnvC K R C env σ H) (hp : H p = none) (l : vs.length ≤ LN) (r : Rps K C vs ds) : Ex C (upd C p (.tup vs)) ∧ EnvC K R (upd C p (.tup vs)) env σ (upd H p (.tup vs)) ∧ Rr K R (upd C p (.tup vs)) (upd H p (.tup vs)) env σ (.ref p) (.d (.tuple ds)) :=
  ⟨Ex.new (E.cN hp), E.new hp, .tup (.inl (.inl upd_same)) l (r.mono (Ex.new (E.cN hp)))⟩
theorem je_catL {xs ys : List PyData} (h : JE2 T a b e0 e2 (.list xs) (.list ys)) (hl : xs.length + ys.length ≤ 16777216) : JE T (.BinOp a .Add b pos) e0 e2 (.o (.list (xs ++ ys))) :=
  je_bin (r := fun _ => rCat) (fun X _ => op_cat) h fun R C H env σ u v Q E hu hv k => by
    obtain ⟨p, vs, rfl, h1, l1, r1⟩ := rb_lst E hu
    obtain ⟨q, ws, rfl, h2, l2, r2⟩ := rb_lst E hv
    refine ⟨p, q, vs, ws, rfl, rfl, h1, h2, by rw [sizeLine_eq, r1.len, r2.len]; exact hl, fun t ht => ?_⟩
    obtain ⟨E', r⟩ := E.freshO ht (by rw [List.length_append, r1.len, r2.len]; exact hl) (r1.append r2)
    exact k _ C _ (Ex.refl C) E' r
theorem je_catT {xs ys : List PyData} (h : JE2 T a b e0 e2 (.tuple xs) (.tuple ys)) (hl : xs.length + ys.length ≤ 16777216) : JE T (.BinOp a .Add b pos) e0 e2 (.d (.tuple (xs ++ ys))) :=
  je_bin (r := rCatA) (fun X _ => op_catA) h fun R C H env σ u v Q E hu hv k => by
    obtain ⟨p, vs, rfl, h1, c1, l1, r1⟩ := rb_tup E hu
    obtain ⟨q, ws, rfl, h2, c2, l2, r2⟩ := rb_tup E hv
    refine ⟨p, q, vs, ws, rfl, rfl, h1, h2, by rw [sizeLine_eq, r1.len, r2.len]; exact hl, fun e => ?_, fun _ e => ?_, fun _ _ t ht => ?_⟩
    · subst e; cases r1; exact k _ C H (Ex.refl C) E (.tup c2 l2 r2)
    · subst e; cases r2; rw [List.append_nil] at k; exact k _ C H (Ex.refl C) E (.tup c1 l1 r1)
    · obtain ⟨c, E', r⟩ := E.freshT ht (by rw [List.length_append, r1.len, r2.len]; exact hl) (r1.append r2)
      exact k _ _ _ c E' r
/-! ### comparisons -/
/-- a comparison of two expressions gives c -/
def CJ (T : TC) (op : CmpOp) (a b : Expr) (e0 e2 : Env') (c : Bool) : Prop := ∀ X, CT X T → ∃ r ta tb, OpR X (compareOp op) r ∧ PE X a ta ∧ PE X b tb ∧ behindInMarks op b = false ∧ ∀ σ H Q, tJ X.K e0 e2 (.d (.bool c)) σ H Q → tOp r ta tb σ H Q
theorem cj_mk {op : CmpOp} {r : PySem.W.Frag → R2} {c : Bool} (hr : ∀ X, CT X T → OpR X (compareOp op) (r X.K)) (h : JE2 T a b e0 e2 x y) (ho : Op2B T r x y (.d (.bool c))) (hm : behindInMarks op b = false := by first | exact nomark _ | rfl) : CJ T op a b e0 e2 c := fun X hX => by
  obtain ⟨ta, tb, pa, pb, k⟩ := op2_run hX h ho
  exact ⟨_, ta, tb, hr X hX, pa, pb, hm, k⟩
theorem je_c {op : CmpOp} {c : Bool} (h : CJ T op a b e0 e2 c) : JE T (.Compare a [op] [b] pos) e0 e2 (.d (.bool c)) := fun X hX => by
  obtain ⟨r, ta, tb, hr, pa, pb, hm, k⟩ := h X hX
  exact (pe_cmpR hr pa pb hm).wk k
/-- the expression as a test comes out as c -/
def tTJ (K : PySem.W.Frag) (env env' : Env') (c : Bool) : TT := fun σ H Q => ∃ R C, EnvC K R C env σ H ∧ ∀ C' H', Ex C C' → EnvC K R C' env' σ H' → Q c H'
def JT (T : TC) (e : Expr) (env env' : Env') (c : Bool) : Prop := ∀ X, CT X T → PT X e (tTJ X.K env env' c)
theorem jt_c {op : CmpOp} {c : Bool} (h : CJ T op a b e0 e2 c) : JT T (.Compare a [op] [b] pos) e0 e2 c := fun X hX => by
  obtain ⟨r, ta, tb, hr, pa, pb, hm, k⟩ := h X hX
  refine (pt_cmpR hr pa pb hm).wk fun σ H Q ⟨R, C, E, q⟩ => ?_
  exact k σ H _ ⟨R, C, E, fun v C' H' c' E' r => by cases r; exact ⟨c, rfl, q C' H' c' E'⟩⟩
theorem cj_lt {i j : Int} (h : JE2 T a b e0 e2 (.int i) (.int j)) : CJ T .Lt a b e0 e2 (decide (i < j)) := cj_mk (fun X _ => op_lt) h (op2_B0 (g := fun i j => decide (i < j)))
theorem cj_le {i j : Int} (h : JE2 T a b e0 e2 (.int i) (.int j)) : CJ T .LtE a b e0 e2 (decide (i ≤ j)) := cj_mk (fun X _ => op_le) h (op2_B0 (g := fun i j => decide (i ≤ j)))
theorem cj_gt {i j : Int} (h : JE2 T a b e0 e2 (.int i) (.int j)) : CJ T .Gt a b e0 e2 (decide (j < i)) := cj_mk (fun X _ => op_gt) h (op2_B0 (g := fun i j => decide (j < i)))
theorem cj_ge {i j : Int} (h : JE2 T a b e0 e2 (.int i) (.int j)) : CJ T .GtE a b e0 e2 (decide (j ≤ i)) := cj_mk (fun X _ => op_ge) h (op2_B0 (g := fun i j => decide (j ≤ i)))
/-- the left one, then the right one, of any data without dicts -/
theorem cj_eqD (h : JE2 T a b e0 e2 x y) (sx : shN 64 x = true := by simp [shN]) (sy : shN 64 y = true := by simp [shN]) : CJ T .Eq a b e0 e2 (PyData.eqv x y) :=
  cj_mk (r := rEqD) (fun X hX => op_eqD hX.room.units) h fun R C H env σ u v Q E hu hv k =>
    ⟨x, y, (rb_rp E hu).dp' sx, (rb_rp E hv).dp' sy, (rb_rp E hu).shaped sx, (rb_rp E hv).shaped sy, k _ C H (Ex.refl C) E (.bl _)⟩
theorem cj_neD (h : JE2 T a b e0 e2 x y) (sx : shN 64 x = true := by simp [shN]) (sy : shN 64 y = true := by simp [shN]) : CJ T .NotEq a b e0 e2 (!PyData.eqv x y) :=
  cj_mk (r := rNeD) (fun X hX => op_neD hX.room.units) h fun R C H env σ u v Q E hu hv k =>
    ⟨x, y, (rb_rp E hu).dp' sx, (rb_rp E hv).dp' sy, (rb_rp E hu).shaped sx, (rb_rp E hv).shaped sy, k _ C H (Ex.refl C) E (.bl _)⟩
theorem cj_eqI {i j : Int} (h : JE2 T a b e0 e2 (.int i) (.int j)) : CJ T .Eq a b e0 e2 (decide (i = j)) :=
  cj_mk (r := fun _ => rEq) (fun X hX => op_eq) h fun R C H env σ u v Q E hu hv k => by
    have e1 := rb_int E hu; have e2 := rb_int E hv
    subst e1; subst e2
    exact ⟨rfl, k _ C H (Ex.refl C) E (by
      have : decide (V.int i = V.int j) = decide (i = j) := by simp
      rw [this]; exact .bl _)⟩
theorem cj_neI {i j : Int} (h : JE2 T a b e0 e2 (.int i) (.int j)) : CJ T .NotEq a b e0 e2 (!decide (i = j)) :=
  cj_mk (r := fun _ => rNe) (fun X hX => op_ne) h fun R C H env σ u v Q E hu hv k => by
    have e1 := rb_int E hu; have e2 := rb_int E hv
    subst e1; subst e2
    exact ⟨rfl, k _ C H (Ex.refl C) E (by
      have : decide (V.int i = V.int j) = decide (i = j) := by simp
      rw [this]; exact .bl _)⟩
theorem cj_eqS {i j : Str} (h : JE2 T a b e0 e2 (.str i) (.str j)) : CJ T .Eq a b e0 e2 (decide (i = j)) :=
  cj_mk (r := fun _ => rEq) (fun X hX => op_eq) h fun R C H env σ u v Q E hu hv k => by
    have e1 := rb_str E hu; have e2 := rb_str E hv
    subst e1; subst e2
    exact ⟨rfl, k _ C H (Ex.refl C) E (by
      have : decide (V.str i = V.str j) = decide (i = j) := by simp
      rw [this]; exact .bl _)⟩
theorem cj_neS {i j : Str} (h : JE2 T a b e0 e2 (.str i) (.str j)) : CJ T .NotEq a b e0 e2 (!decide (i = j)) :=
  cj_mk (r := fun _ => rNe) (fun X hX => op_ne) h fun R C H env σ u v Q E hu hv k => by
    have e1 := rb_str E hu; have e2 := rb_str E hv
    subst e1; subst e2
    exact ⟨rfl, k _ C H (Ex.refl C) E (by
      have : decide (V.str i = V.str j) = decide (i = j) := by simp
      rw [this]; exact .bl _)⟩
theorem cj_eqB {i j : Bool} (h : JE2 T a b e0 e2 (.bool i) (.bool j)) : CJ T .Eq a b e0 e2 (decide (i = j)) :=
  cj_mk (r := fun _ => rEq) (fun X hX => op_eq) h fun R C H env σ u v Q E hu hv k => by
    have e1 := rb_bl E hu; have e2 := rb_bl E hv
    subst e1; subst e2
    exact ⟨rfl, k _ C H (Ex.refl C) E (by
      have : decide (V.bl i = V.bl j) = decide (i = j) := by simp
      rw [this]; exact .bl _)⟩
theorem cj_neB {i j : Bool} (h : JE2 T a b e0 e2 (.bool i) (.bool j)) : CJ T .NotEq a b e0 e2 (!decide (i = j)) :=
  cj_mk (r := fun _ => rNe) (fun X hX => op_ne) h fun R C H env σ u v Q E hu hv k => by
    have e1 := rb_bl E hu; have e2 := rb_bl E hv
    subst e1; subst e2
    exact ⟨rfl, k _ C H (Ex.refl C) E (by
      have : decide (V.bl i = V.bl j) = decide (i = j) := by simp
      rw [this]; exact .bl _)⟩
def isNoneD : PyData → Bool
  | .none => true
  | _ => false
theorem rp_non {x : PyData} {v : V} (h : Rp K C v x) : decide (v = .non) = isNoneD x := by
  cases h <;> simp [isNoneD]
theorem je_isN {j pos'} (ha : JE T a e0 e1 (.b x)) : JE T (.Compare a [.Is] [.Constant .none j pos'] pos) e0 e1 (.d (.bool (isNoneD x))) := fun X hX => (pe_cmp (pc_isN (ha X hX)) rfl).wk fun σ H Q ⟨R, C, E, k⟩ =>
  ⟨R, C, E, fun v C' H' c E' r => by
    show Q (V.bl (decide (v = V.non))) H'
    rw [rp_non (rb_rp E' r)]
    exact k _ C' H' c E' (.bl _)⟩
theorem je_notN {j pos'} (ha : JE T a e0 e1 (.b x)) : JE T (.Compare a [.IsNot] [.Constant .none j pos'] pos) e0 e1 (.d (.bool (!isNoneD x))) := fun X hX => (pe_cmp (pc_notN (ha X hX)) rfl).wk fun σ H Q ⟨R, C, E, k⟩ =>
  ⟨R, C, E, fun v C' H' c E' r => by
    show Q (V.bl (!decide (v = V.non))) H'
    rw [rp_non (rb_rp E' r)]
    exact k _ C' H' c E' (.bl _)⟩
/-- x in a list -/
theorem cj_inL {ys : List PyData} (h : JE2 T a b e0 e2 x (.list ys)) (sx : shN 64 x = true := by simp [shN]) (sy : shN 64 (.list ys) = true := by simp [shN]) (hm : behindInMarks .In b = false := by rfl) : CJ T .In a b e0 e2 (ys.any fun z => PyData.eqv z x) :=
  cj_mk (r := rInD) (fun X hX => op_inD (by have := hX.room.un; omega)) h (fun R C H env σ u v Q E hu hv k =>
    ⟨x, ys, (rb_rp E hu).dp' sx, (rb_rp E hv).dp' sy, (rb_rp E hu).shaped sx, (rb_rp E hv).shaped sy, k _ C H (Ex.refl C) E (.bl _)⟩) hm
theorem cj_notInL {ys : List PyData} (h : JE2 T a b e0 e2 x (.list ys)) (sx : shN 64 x = true := by simp [shN]) (sy : shN 64 (.list ys) = true := by simp [shN]) (hm : behindInMarks .NotIn b = false := by rfl) : CJ T .NotIn a b e0 e2 (!ys.any fun z => PyData.eqv z x) :=
  cj_mk (r := rNotInD) (fun X hX => op_notInD (by have := hX.room.un; omega)) h (fun R C H env σ u v Q E hu hv k =>
    ⟨x, ys, (rb_rp E hu).dp' sx, (rb_rp E hv).dp' sy, (rb_rp E hu).shaped sx, (rb_rp E hv).shaped sy, k _ C H (Ex.refl C) E (.bl _)⟩) hm
/-- flat things: None, bools, ints, texts -/
def flatD : PyData → Bool
  | .none => true | .bool _ => true | .int _ => true | .str _ => true | _ => false
theorem rp_flat {x : PyData} {v : V} (h : Rp K C v x) (f : flatD x = true) : flatV v = true := by
  cases h <;> first | rfl | cases f
theorem rps_flat : ∀ {xs : List PyData} {vs : List V}, Rps K C vs xs → xs.all flatD = true → vs.all flatV = true
  | _, _, .nil, _ => rfl
  | _, _, .cons h r, f => by
    rw [List.all_cons, Bool.and_eq_true] at f ⊢
    exact ⟨rp_flat h f.1, rps_flat r f.2⟩
theorem eqv_flat {x y : PyData} {u v : V} (h : Rp K C u x) (h' : Rp K C v y) (f : flatD x = true) (f' : flatD y = true) : eqV u v = PyData.eqv x y := by
  cases h <;> cases h' <;> first | rfl | (simp [eqV, PyData.eqv]; done) | cases f | cases f'
theorem any_flat {y : PyData} {v : V} (h' : Rp K C v y) (f' : flatD y = true) : ∀ {xs : List PyData} {vs : List V}, Rps K C vs xs → xs.all flatD = true → inV v vs = xs.any fun z => PyData.eqv z y
  | _, _, .nil, _ => rfl
  | _, _, .cons h r, f => by
    rw [List.all_cons, Bool.and_eq_true] at f
    have ih := any_flat h' f' r f.2
    unfold inV at ih ⊢
    rw [List.any_cons, List.any_cons, ih, eqv_flat h h' f.1 f']
theorem cj_inT {ys : List PyData} (h : JE2 T a b e0 e2 x (.tuple ys)) (fx : flatD x = true := by rfl) (fy : ys.all flatD = true := by simp [flatD]) (hm : behindInMarks .In b = false := by rfl) : CJ T .In a b e0 e2 (ys.any fun z => PyData.eqv z x) :=
  cj_mk (r := fun K => rIn K false) (fun X hX => op_in_seq) h (fun R C H env σ u v Q E hu hv k => by
    obtain ⟨p, vs, rfl, h1, c1, l1, r1⟩ := rb_tup E hv
    have hu' := rb_rp E hu
    refine ⟨p, vs, rfl, .inr h1, rp_flat hu' fx, rps_flat r1 fy, ?_⟩
    rw [any_flat hu' fx (r1.mono E.cH) fy]
    exact k _ C H (Ex.refl C) E (.bl _)) hm
theorem cj_notInT {ys : List PyData} (h : JE2 T a b e0 e2 x (.tuple ys)) (fx : flatD x = true := by rfl) (fy : ys.all flatD = true := by simp [flatD]) (hm : behindInMarks .NotIn b = false := by rfl) : CJ T .NotIn a b e0 e2 (!ys.any fun z => PyData.eqv z x) :=
  cj_mk (r := fun K => rIn K true) (fun X hX => op_notIn_seq) h (fun R C H env σ u v Q E hu hv k => by
    obtain ⟨p, vs, rfl, h1, c1, l1, r1⟩ := rb_tup E hv
    have hu' := rb_rp E hu
    refine ⟨p, vs, rfl, .inr h1, rp_flat hu' fx, rps_flat r1 fy, ?_⟩
    rw [any_flat hu' fx (r1.mono E.cH) fy]
    exact k _ C H (Ex.refl C) E (.bl _)) hm
end
end J
namespace J
open PySem L2 PySem.Spec PyProof.Rows
section
variable {T : TC} {a b e : Expr} {es : List Expr} {env e0 e1 e2 e3 : Env'} {pos p : Pos} {x y z : PyData} {ds : List PyData} {K : PySem.W.Frag} {R C H : Hp} {σ : L2.St} {v : V}

/-! ### tests -/
theorem jt_v {c : Bool} (h : JE T e e0 e1 (.d (.bool c))) (he : ∀ (v : Env) whole, isTrue e v whole = (do let v ← whole; standAt e.pos; holding [v] (truthy v)) := by intro _ _; rfl) : JT T e e0 e1 c := fun X hX =>
  (pt_val (h X hX) (he X.env)).wk fun σ H Q ⟨R, C, E, k⟩ => ⟨R, C, E, fun v C' H' c' E' r => by cases r; exact ⟨c, rfl, k C' H' c' E'⟩⟩
/-- a datum's truth -/
def truD : PyData → Bool
  | .none => false
  | .bool b => b
  | .int i => i != 0
  | .str s => (s.length : Int) != 0
  | .list xs => !xs.isEmpty
  | .tuple xs => !xs.isEmpty
  | .dict _ => false
def noDict : PyData → Bool
  | .dict _ => false
  | _ => true
theorem rps_empty {xs : List PyData} {vs : List V} (h : Rps K C vs xs) : vs.isEmpty = xs.isEmpty := by cases h <;> rfl
theorem tru_rp {d : PyData} {v : V} (h : Rp K H v d) (hn : noDict d = true) : TruV K v H (truD d) := by
  cases h with
  | non => rfl
  | bl b => rfl
  | int i => rfl
  | str h => exact ⟨lnS h.2, rfl⟩
  | lst h l r => exact .inl ⟨_, SqL.of h, by rw [rps_empty r]; rfl⟩
  | tup h l r => exact .inr (.inl ⟨_, h, by rw [rps_empty r]; rfl⟩)
  | scr h l r => cases hn
  | tupD h _ l r => cases hn
  | dK h l r => cases hn
  | dT h l r => cases hn
theorem jt_t (h : JE T e e0 e1 (.b x)) (hn : noDict x = true := by rfl) (he : ∀ (v : Env) whole, isTrue e v whole = (do let v ← whole; standAt e.pos; holding [v] (truthy v)) := by intro _ _; rfl) : JT T e e0 e1 (truD x) := fun X hX =>
  (pt_truth (h X hX) (he X.env)).wk fun σ H Q ⟨R, C, E, k⟩ => ⟨R, C, E, fun v C' H' c' E' r => ⟨truD x, tru_rp (rb_rp E' r) hn, k C' H' c' E'⟩⟩
theorem jt_isN {j pos'} (ha : JE T a e0 e1 (.b x)) : JT T (.Compare a [.Is] [.Constant .none j pos'] pos) e0 e1 (isNoneD x) := fun X hX => (pt_cmp (pc_isN (ha X hX)) rfl).wk fun σ H Q ⟨R, C, E, k⟩ =>
  ⟨R, C, E, fun v C' H' c E' r => ⟨isNoneD x, by rw [rp_non (rb_rp E' r)], k C' H' c E'⟩⟩
theorem jt_notN {j pos'} (ha : JE T a e0 e1 (.b x)) : JT T (.Compare a [.IsNot] [.Constant .none j pos'] pos) e0 e1 (!isNoneD x) := fun X hX => (pt_cmp (pc_notN (ha X hX)) rfl).wk fun σ H Q ⟨R, C, E, k⟩ =>
  ⟨R, C, E, fun v C' H' c E' r => ⟨!isNoneD x, by rw [rp_non (rb_rp E' r)], k C' H' c E'⟩⟩
theorem jt_not {c : Bool} (h : JT T a e0 e1 c) : JT T (.UnaryOp .Not a pos) e0 e1 (!c) := fun X hX => (pt_not (h X hX)).wk fun σ H Q ⟨R, C, E, k⟩ => ⟨R, C, E, k⟩
/-- a chain of and, or -/
def JW (T : TC) (e : Expr) (env env' : Env') (c : Bool) : Prop := ∀ X, CT X T → PW X e (tTJ X.K env env' c)
theorem jt_w {c : Bool} (h : JW T e e0 e1 c) : JT T e e0 e1 c := fun X hX => (h X hX).pt
theorem jw_and1 {c : Bool} (h : JT T a e0 e1 c) : JW T (.BoolOp .And [a] pos) e0 e1 c := fun X hX => pw_and1 (h X hX)
theorem jw_or1 {c : Bool} (h : JT T a e0 e1 c) : JW T (.BoolOp .Or [a] pos) e0 e1 c := fun X hX => pw_or1 (h X hX)
theorem pw_dead {X : Cx} {e : Expr} : PW X e (fun _ _ _ => False) := ⟨fun _ _ _ _ _ _ _ h => h.elim⟩
theorem jw_and {c c' : Bool} {rest : List Expr} (h : JT T a e0 e1 c) (h' : c = true → JW T (.BoolOp .And (b :: rest) pos) e1 e1 c') : JW T (.BoolOp .And (a :: b :: rest) pos) e0 e1 (c && c') := fun X hX => by
  cases c with
  | true => exact (pw_and (h X hX) (h' rfl X hX)).wk fun σ H Q ⟨R, C, E, k⟩ => ⟨R, C, E, fun C' H' c1 E' => by
      show tTJ X.K e1 e1 c' σ H' Q
      exact ⟨R, C', E', fun C2 H2 c2 E2 => k C2 H2 (c1.trans c2) E2⟩⟩
  | false => exact (pw_and (h X hX) pw_dead).wk fun σ H Q ⟨R, C, E, k⟩ => ⟨R, C, E, fun C' H' c1 E' => k C' H' c1 E'⟩
theorem jw_or {c c' : Bool} {rest : List Expr} (h : JT T a e0 e1 c) (h' : c = false → JW T (.BoolOp .Or (b :: rest) pos) e1 e1 c') : JW T (.BoolOp .Or (a :: b :: rest) pos) e0 e1 (c || c') := fun X hX => by
  cases c with
  | false => exact (pw_or (h X hX) (h' rfl X hX)).wk fun σ H Q ⟨R, C, E, k⟩ => ⟨R, C, E, fun C' H' c1 E' => by
      show tTJ X.K e1 e1 c' σ H' Q
      exact ⟨R, C', E', fun C2 H2 c2 E2 => k C2 H2 (c1.trans c2) E2⟩⟩
  | true => exact (pw_or (h X hX) pw_dead).wk fun σ H Q ⟨R, C, E, k⟩ => ⟨R, C, E, fun C' H' c1 E' => k C' H' c1 E'⟩
theorem je_one {op} {r : Re} (h : JE T a e0 e1 r) : JE T (.BoolOp op [a] pos) e0 e1 r := fun X hX => pe_one (h X hX)
theorem pe_dead {X : Cx} {e : Expr} : PE X e (fun _ _ _ => False) := ⟨fun _ _ _ _ _ _ h => h.elim⟩
theorem je_and {c c' : Bool} {rest : List Expr} (h : JE T a e0 e1 (.d (.bool c))) (h' : c = true → JE T (.BoolOp .And (b :: rest) pos) e1 e1 (.d (.bool c'))) : JE T (.BoolOp .And (a :: b :: rest) pos) e0 e1 (.d (.bool (c && c'))) := fun X hX => by
  cases c with
  | true => exact (pe_and (h X hX) (h' rfl X hX)).wk fun σ H Q ⟨R, C, E, k⟩ => ⟨R, C, E, fun v C' H' c1 E' r => by
      cases r
      exact ⟨true, rfl, R, C', E', fun v C2 H2 c2 E2 r2 => k v C2 H2 (c1.trans c2) E2 r2⟩⟩
  | false => exact (pe_and (h X hX) pe_dead).wk fun σ H Q ⟨R, C, E, k⟩ => ⟨R, C, E, fun v C' H' c1 E' r => by
      cases r
      exact ⟨false, rfl, k _ C' H' c1 E' (.bl false)⟩⟩
theorem je_or {c c' : Bool} {rest : List Expr} (h : JE T a e0 e1 (.d (.bool c))) (h' : c = false → JE T (.BoolOp .Or (b :: rest) pos) e1 e1 (.d (.bool c'))) : JE T (.BoolOp .Or (a :: b :: rest) pos) e0 e1 (.d (.bool (c || c'))) := fun X hX => by
  cases c with
  | false => exact (pe_or (h X hX) (h' rfl X hX)).wk fun σ H Q ⟨R, C, E, k⟩ => ⟨R, C, E, fun v C' H' c1 E' r => by
      cases r
      exact ⟨false, rfl, R, C', E', fun v C2 H2 c2 E2 r2 => k v C2 H2 (c1.trans c2) E2 r2⟩⟩
  | true => exact (pe_or (h X hX) pe_dead).wk fun σ H Q ⟨R, C, E, k⟩ => ⟨R, C, E, fun v C' H' c1 E' r => by
      cases r
      exact ⟨true, rfl, k _ C' H' c1 E' (.bl true)⟩⟩
theorem je_not {c : Bool} (h : JE T a e0 e1 (.d (.bool c))) : JE T (.UnaryOp .Not a pos) e0 e1 (.d (.bool (!c))) := fun X hX =>
  (pe_not (h X hX)).wk fun σ H Q ⟨R, C, E, k⟩ => ⟨R, C, E, fun v C' H' c1 E' r => by cases r; exact ⟨c, rfl, k _ C' H' c1 E' (.bl _)⟩⟩
/-- a if t else b -/
theorem je_if {t : Expr} {c : Bool} {f : Bool → Re} (ht : JT T t e0 e1 c) (ha : c = true → JE T a e1 e2 (f true)) (hb : c = false → JE T b e1 e2 (f false)) : JE T (.IfExp t a b pos) e0 e2 (f c) := fun X hX => by
  cases c with
  | true => exact (pe_ifExp (ht X hX) (ha rfl X hX) pe_dead).wk fun σ H Q ⟨R, C, E, k⟩ => ⟨R, C, E, fun C' H' c1 E' => ⟨R, C', E', fun v C2 H2 c2 E2 r2 => k v C2 H2 (c1.trans c2) E2 r2⟩⟩
  | false => exact (pe_ifExp (ht X hX) pe_dead (hb rfl X hX)).wk fun σ H Q ⟨R, C, E, k⟩ => ⟨R, C, E, fun C' H' c1 E' => ⟨R, C', E', fun v C2 H2 c2 E2 r2 => k v C2 H2 (c1.trans c2) E2 r2⟩⟩
/-- .. with the data of one kind -/
theorem je_ifc {α : Type} (enc : α → PyData) {t : Expr} {c : Bool} {u w : α} (ht : JT T t e0 e1 c) (ha : c = true → JE T a e1 e2 (.d (enc u))) (hb : c = false → JE T b e1 e2 (.d (enc w))) : JE T (.IfExp t a b pos) e0 e2 (.d (enc (if c = true then u else w))) := by
  refine je_is (je_if (f := fun c => .d (enc (if c = true then u else w))) ht (fun h => by simpa using ha h) (fun h => by simpa using hb h)) rfl
/-- .. that may change the environment -/
theorem je_ifs {α : Type} (enc : α → PyData) (Ev : α → Env') {t : Expr} {c : Bool} {u w : α} (ht : JT T t e0 e1 c) (ha : c = true → JE T a e1 (Ev u) (.d (enc u))) (hb : c = false → JE T b e1 (Ev w) (.d (enc w))) : JE T (.IfExp t a b pos) e0 (Ev (if c = true then u else w)) (.d (enc (if c = true then u else w))) := by
  cases c with
  | true => exact je_if (f := fun c => .d (enc (if c = true then u else w))) ht (fun h => ha h) (fun h => by cases h)
  | false => exact je_if (f := fun c => .d (enc (if c = true then u else w))) ht (fun h => by cases h) (fun h => hb h)

/-! ### arguments, displays -/
def tAJ (K : PySem.W.Frag) (env env' : Env') (ds : List PyData) : TA := fun σ H Q => ∃ R C, EnvC K R C env σ H ∧ ∀ vs C' H', Ex C C' → EnvC K R C' env' σ H' → Rps K C' vs ds → Q vs H'
def JA (T : TC) (es : List Expr) (env env' : Env') (ds : List PyData) : Prop := ∀ X, CT X T → PA X es (tAJ X.K env env' ds)
theorem ja_nil : JA T [] env env [] := fun X hX => pa_nil.wk fun σ H Q ⟨R, C, E, k⟩ => k [] C H (Ex.refl C) E .nil
theorem ja_cons (h : JE T e e0 e1 (.d x)) (h' : JA T es e1 e2 ds) (hs : ∀ v : Env, starEach (e :: es) v = (false, eval e v) :: starEach es v := by intro _; rfl) : JA T (e :: es) e0 e2 (x :: ds) := fun X hX =>
  (pa_cons (h X hX) (h' X hX) (hs X.env)).wk fun σ H Q ⟨R, C, E, k⟩ => ⟨R, C, E, fun v C1 H1 c1 E1 r1 => ⟨R, C1, E1, fun vs C2 H2 c2 E2 r2 => k (v :: vs) C2 H2 (c1.trans c2) E2 (.cons (r1.mono c2) r2)⟩⟩
theorem je_tup {k : Nat} (h : JA T es e0 e1 ds) (hl : ds.length ≤ LN := by exact Nat.le_of_ble_eq_true rfl) : JE T (.Tuple es k pos) e0 e1 (.d (.tuple ds)) := fun X hX =>
  (pe_tup (h X hX)).wk fun σ H Q ⟨R, C, E, k⟩ => ⟨R, C, E, fun vs C1 H1 c1 E1 r1 => ⟨lnS (by rw [r1.len]; exact hl), fun p hp => by
    obtain ⟨c, E', r⟩ := E1.freshT hp (by rw [r1.len]; exact hl) r1
    exact k _ _ _ (c1.trans c) E' r⟩⟩
theorem je_lst (h : JA T es e0 e1 ds) (hl : ds.length ≤ LN := by exact Nat.le_of_ble_eq_true rfl) : JE T (.List es pos) e0 e1 (.o (.list ds)) := fun X hX =>
  (pe_lst (h X hX)).wk fun σ H Q ⟨R, C, E, k⟩ => ⟨R, C, E, fun vs C1 H1 c1 E1 r1 => ⟨lnS (by rw [r1.len]; exact hl), fun p hp => by
    obtain ⟨E', r⟩ := E1.freshO hp (by rw [r1.len]; exact hl) r1
    exact k _ _ _ c1 E' r⟩⟩

/-! ### subscripts -/
theorem je_ix {r : PySem.W.Frag → R2} {w : Re} (hr : ∀ X, CT X T → IxR X (r X.K)) (h : JE2 T a b e0 e2 x y) (ho : Op2B T r x y w) (hs : PlainIx b := by intro _ _; rfl) : JE T (.Subscript a b pos) e0 e2 w := fun X hX => by
  obtain ⟨ta, tb, pa, pb, k⟩ := op2_run hX h ho
  exact (pe_ix (hr X hX) pa pb hs).wk k
theorem atI_rps {vs : List V} {xs : List PyData} {i : Int} {z : PyData} (r : Rps K C vs xs) (h : atI xs i = some z) : ∃ v, atI vs i = some v ∧ Rp K C v z := by
  unfold atI at h ⊢
  rw [r.len]
  cases q : ixN xs.length i with
  | none => rw [q] at h; cases h
  | some j =>
    rw [q] at h
    exact r.getD h
theorem je_ixL {xs : List PyData} {i : Int} {z : PyData} (h : JE2 T a b e0 e2 (.list xs) (.int i)) (hz : atI xs i = some z) (hs : PlainIx b := by intro _ _; rfl) : JE T (.Subscript a b pos) e0 e2 (.d z) :=
  je_ix (r := rIxL) (fun X _ => ix_list) h (fun R C H env σ u v Q E hu hv k => by
    obtain ⟨p, vs, rfl, h1, l1, r1⟩ := rb_lst E hu
    have e1 := rb_int E hv
    subst e1
    obtain ⟨w, hw, rw⟩ := atI_rps r1 hz
    exact ⟨p, vs, i, w, rfl, rfl, SqL.of h1, hw, k _ C H (Ex.refl C) E rw⟩) hs
theorem je_ixT {xs : List PyData} {i : Int} {z : PyData} (h : JE2 T a b e0 e2 (.tuple xs) (.int i)) (hz : atI xs i = some z) (hs : PlainIx b := by intro _ _; rfl) : JE T (.Subscript a b pos) e0 e2 (.d z) :=
  je_ix (r := rIxT) (fun X _ => ix_tup) h (fun R C H env σ u v Q E hu hv k => by
    obtain ⟨p, vs, rfl, h1, c1, l1, r1⟩ := rb_tup E hu
    have e1 := rb_int E hv
    subst e1
    obtain ⟨w, hw, rw⟩ := atI_rps r1 hz
    exact ⟨p, vs, i, w, rfl, rfl, h1, hw, k _ C H (Ex.refl C) E rw⟩) hs
theorem sOk_one {s : Str} (h : sOk s) {i : Nat} {c : Nat} (hc : s.cps.toList[i]? = some c) : sOk ⟨#[c]⟩ := by
  refine ⟨?_, by show (1 : Nat) ≤ LN; decide⟩
  have h1 := h.1
  unfold PyData.strOk at h1 ⊢
  rw [Array.all_eq_true] at h1
  have hi : i < s.cps.size := by
    have := (List.getElem?_eq_some_iff.mp hc).1
    simpa using this
  have e : s.cps[i] = c := by
    have := (List.getElem?_eq_some_iff.mp hc).2
    simpa using this
  have := h1 i hi
  rw [e] at this
  simpa using this
theorem je_ixS {s : Str} {i : Int} {c : Nat} (h : JE2 T a b e0 e2 (.str s) (.int i)) (hz : atI s.cps.toList i = some c) (hs : PlainIx b := by intro _ _; rfl) : JE T (.Subscript a b pos) e0 e2 (.d (.str ⟨#[c]⟩)) :=
  je_ix (r := fun _ => rIxS) (fun X _ => ix_str) h (fun R C H env σ u v Q E hu hv k => by
    have hu' := rb_rp E hu
    have e0 := rb_str E hu
    subst e0
    have e1 := rb_int E hv
    subst e1
    cases hu' with
    | str ok =>
    obtain ⟨j, h1, h2⟩ : ∃ j, ixN s.cps.toList.length i = some j ∧ s.cps.toList[j]? = some c := by
      unfold atI at hz
      cases q : ixN s.cps.toList.length i with
      | none => rw [q] at hz; cases hz
      | some j => rw [q] at hz; exact ⟨j, rfl, hz⟩
    exact ⟨s, i, c, rfl, rfl, lnS ok.2, hz, k _ C H (Ex.refl C) E (.str (sOk_one ok h2))⟩) hs
/-- a slice's part -/
def tOJ (K : PySem.W.Frag) (env env' : Env') (o : Option Int) : TO := fun σ H Q => ∃ R C, EnvC K R C env σ H ∧ ∀ C' H', Ex C C' → EnvC K R C' env' σ H' → Q o H'
def JO (T : TC) (e : Option Expr) (env env' : Env') (o : Option Int) : Prop := ∀ X, CT X T → PO X e (tOJ X.K env env' o)
theorem _root_.L2.PO.wk {X : Cx} {e : Option Expr} {t t' : TO} (h : PO X e t) (hh : ∀ σ H Q, t' σ H Q → t σ H Q) : PO X e t' := ⟨fun pins s σ H Q I q => h.run pins s σ H Q I (hh σ H Q q)⟩
theorem jo_none : JO T none env env none := fun X hX => po_none.wk fun σ H Q ⟨R, C, E, k⟩ => k C H (Ex.refl C) E
theorem jo_some {i : Int} (h : JE T e e0 e1 (.d (.int i))) : JO T (some e) e0 e1 (some i) := fun X hX => (po_some (h X hX)).wk fun σ H Q ⟨R, C, E, k⟩ => ⟨R, C, E, fun v C' H' c E' r => by cases r; exact ⟨i, rfl, k C' H' c E'⟩⟩
/-- the items of a slice -/
def cutL {α : Type} (xs : List α) (lo hi : Option Int) : List α := (xs.drop (HT.sIx xs.length 0 lo)).take (HT.sIx xs.length xs.length hi - HT.sIx xs.length 0 lo)
theorem cutL_map {α β : Type} (f : α → β) (xs : List α) (lo hi : Option Int) : cutL (xs.map f) lo hi = (cutL xs lo hi).map f := by
  unfold cutL
  rw [List.length_map, List.map_take, List.map_drop]
theorem cutV_cutL (xs : List V) (lo hi : Option Int) : cutV xs lo hi = cutL xs lo hi := rfl
theorem cutL_len {α : Type} (xs : List α) (lo hi : Option Int) : (cutL xs lo hi).length ≤ xs.length := by
  unfold cutL
  rw [List.length_take, List.length_drop]; omega
theorem rps_cut {vs : List V} {xs : List PyData} (r : Rps K C vs xs) (lo hi : Option Int) : Rps K C (cutV vs lo hi) (cutL xs lo hi) := by
  unfold cutV cutL
  rw [r.len]
  exact (r.drop _).take _
theorem je_slL {xs : List PyData} {lo hi : Option Int} {l u : Option Expr} {p2 : Pos} (h : JE T a e0 e1 (.d (.list xs))) (hl : JO T l e1 e2 lo) (hu : JO T u e2 e3 hi) : JE T (.Subscript a (.Slice l u none p2) pos) e0 e3 (.o (.list (cutL xs lo hi))) := fun X hX =>
  (pe_slice sl_list (h X hX) (hl X hX) (hu X hX)).wk fun σ H Q ⟨R, C, E, k⟩ => ⟨R, C, E, fun v C1 H1 c1 E1 r1 => ⟨R, C1, E1, fun C2 H2 c2 E2 => ⟨R, C2, E2, fun C3 H3 c3 E3 => by
    obtain ⟨p, vs, rfl, h1, l1, r1⟩ := rb_lst E3 (.inl (r1.mono (c2.trans c3)))
    refine ⟨p, vs, rfl, SqL.of h1, fun q hq => ?_⟩
    obtain ⟨E', r⟩ := E3.freshO hq (Nat.le_trans (cutV_length _ _ _) l1) (rps_cut r1 lo hi)
    exact k _ _ _ ((c1.trans c2).trans c3) E' r⟩⟩⟩
theorem je_slLb {xs : List PyData} {lo hi : Option Int} {l u : Option Expr} {p2 : Pos} (h : JE T a e0 e1 (.b (.list xs))) (hl : JO T l e1 e1 lo) (hu : JO T u e1 e1 hi) : JE T (.Subscript a (.Slice l u none p2) pos) e0 e1 (.o (.list (cutL xs lo hi))) := fun X hX =>
  (pe_slice sl_list (h X hX) (hl X hX) (hu X hX)).wk fun σ H Q ⟨R, C, E, k⟩ => ⟨R, C, E, fun v C1 H1 c1 E1 r1 => ⟨R, C1, E1, fun C2 H2 c2 E2 => ⟨R, C2, E2, fun C3 H3 c3 E3 => by
    have r1' : Rr X.K R C3 H3 e1 σ v (.b (.list xs)) := by
      rcases r1 with r1 | r1
      · exact .inl (r1.mono (c2.trans c3))
      · exact .inr r1
    obtain ⟨p, vs, rfl, h1, l1, r1⟩ := rb_lst E3 r1'
    refine ⟨p, vs, rfl, SqL.of h1, fun q hq => ?_⟩
    obtain ⟨E', r⟩ := E3.freshO hq (Nat.le_trans (cutV_length _ _ _) l1) (rps_cut r1 lo hi)
    exact k _ _ _ ((c1.trans c2).trans c3) E' r⟩⟩⟩
theorem je_slT {xs : List PyData} {lo hi : Option Int} {l u : Option Expr} {p2 : Pos} (h : JE T a e0 e1 (.d (.tuple xs))) (hl : JO T l e1 e2 lo) (hu : JO T u e2 e3 hi) : JE T (.Subscript a (.Slice l u none p2) pos) e0 e3 (.d (.tuple (cutL xs lo hi))) := fun X hX =>
  (pe_slice sl_tupA (h X hX) (hl X hX) (hu X hX)).wk fun σ H Q ⟨R, C, E, k⟩ => ⟨R, C, E, fun v C1 H1 c1 E1 r1 => ⟨R, C1, E1, fun C2 H2 c2 E2 => ⟨R, C2, E2, fun C3 H3 c3 E3 => by
    obtain ⟨p, vs, rfl, h1, q1, l1, r1⟩ := rb_tup E3 (.inl (r1.mono (c2.trans c3)))
    refine ⟨p, vs, rfl, h1, fun ⟨z1, z2⟩ => ?_, fun _ q hq => ?_⟩
    · refine k _ C3 H3 ((c1.trans c2).trans c3) E3 ?_
      have e : cutL xs lo hi = xs := by
        unfold cutL
        rw [← r1.len, z1, z2, List.drop_zero, Nat.sub_zero, r1.len, List.take_length]
      rw [e]
      exact .tup q1 l1 r1
    · obtain ⟨c, E', r⟩ := E3.freshT hq (Nat.le_trans (cutV_length _ _ _) l1) (rps_cut r1 lo hi)
      exact k _ _ _ (((c1.trans c2).trans c3).trans c) E' r⟩⟩⟩

/-! ### calls of built-ins -/
/-- what a call makes of data -/
def CallOk (T : TC) (r : PySem.W.Frag → List V → Hp → VK → Prop) (ds : List PyData) (w : Re) : Prop := ∀ R C H env σ vs Q, EnvC T.K R C env σ H → Rps T.K C vs ds →
  (∀ w' C' H', Ex C C' → EnvC T.K R C' env σ H' → Rr T.K R C' H' env σ w' w → Q w' H') → r T.K vs H Q
def CallOk1 (T : TC) (r : PySem.W.Frag → List V → Hp → VK → Prop) (x : PyData) (w : Re) : Prop := ∀ R C H env σ v Q, EnvC T.K R C env σ H → Rr T.K R C H env σ v (.b x) →
  (∀ w' C' H', Ex C C' → EnvC T.K R C' env σ H' → Rr T.K R C' H' env σ w' w → Q w' H') → r T.K [v] H Q
/-- facts of written arguments -/
structure Plain (e : Expr) (es : List Expr) (pos : Pos) : Prop where
  he : ∀ v : Env, starEach (e :: es) v = (false, eval e v) :: starEach es v
  hp : ∀ v : Env, (backTo pos (starEach es v)).any (·.1) = false
theorem je_bi {id : String} {nm : Str} {r : PySem.W.Frag → List V → Hp → VK → Prop} {w : Re} (hc : ∀ X, CT X T → CallR X (.builtin id) (r X.K)) (hg : glB T.sc nm = true) (hm : T.mg nm = none) (hv : bootBuiltins nm = some (.builtin id))
    (ha : JA T (e :: es) e0 e1 ds) (ho : CallOk T r ds w) (hp : Plain e es pos := by exact ⟨fun _ => rfl, fun _ => rfl⟩) (hn : nm ≠ "__name__" := by decide) (hdb : (nm == ("__debug__" : Str)) = false := by decide) : JE T (.Call (.Name nm p) (e :: es) [] pos) e0 e1 w := fun X hX =>
  (pe_callB (hc X hX) (gl_of hX hg) (by rw [hX.mg]; exact hm) hv (ha X hX) hn hdb (hp.he X.env) (hp.hp X.env)).wk fun σ H Q ⟨R, C, E, k⟩ => by
    rw [hX.K] at *
    exact ⟨R, C, E, fun vs C1 H1 c1 E1 r1 => ho R C1 H1 e1 σ vs Q E1 r1 fun w' C2 H2 c2 E2 r2 => k w' C2 H2 (c1.trans c2) E2 r2⟩
theorem je_bi1 {id : String} {nm : Str} {r : PySem.W.Frag → List V → Hp → VK → Prop} {w : Re} (hc : ∀ X, CT X T → CallR X (.builtin id) (r X.K)) (hg : glB T.sc nm = true) (hm : T.mg nm = none) (hv : bootBuiltins nm = some (.builtin id))
    (ha : JE T e e0 e1 (.b x)) (ho : CallOk1 T r x w) (hp : Plain e [] pos := by exact ⟨fun _ => rfl, fun _ => rfl⟩) (hn : nm ≠ "__name__" := by decide) (hdb : (nm == ("__debug__" : Str)) = false := by decide) : JE T (.Call (.Name nm p) [e] [] pos) e0 e1 w := fun X hX =>
  (pe_callB (hc X hX) (gl_of hX hg) (by rw [hX.mg]; exact hm) hv (pa_cons (ha X hX) pa_nil (hp.he X.env)) hn hdb (hp.he X.env) (hp.hp X.env)).wk fun σ H Q ⟨R, C, E, k⟩ => by
    rw [hX.K] at *
    exact ⟨R, C, E, fun v C1 H1 c1 E1 r1 => ho R C1 H1 e1 σ v Q E1 r1 fun w' C2 H2 c2 E2 r2 => k w' C2 H2 (c1.trans c2) E2 r2⟩
theorem je_ty {id : String} {nm : Str} {r : PySem.W.Frag → List V → Hp → VK → Prop} {w : Re} (hc : ∀ X, CT X T → CallR X (.type id) (r X.K)) (hg : glB T.sc nm = true) (hm : T.mg nm = none) (hv : bootBuiltins nm = some (.type id))
    (ha : JA T (e :: es) e0 e1 ds) (ho : CallOk T r ds w) (hp : Plain e es pos := by exact ⟨fun _ => rfl, fun _ => rfl⟩) (hn : nm ≠ "__name__" := by decide) (hdb : (nm == ("__debug__" : Str)) = false := by decide) : JE T (.Call (.Name nm p) (e :: es) [] pos) e0 e1 w := fun X hX =>
  (pe_callTy (hc X hX) (gl_of hX hg) (by rw [hX.mg]; exact hm) hv (ha X hX) hn hdb (hp.he X.env) (hp.hp X.env)).wk fun σ H Q ⟨R, C, E, k⟩ => by
    rw [hX.K] at *
    exact ⟨R, C, E, fun vs C1 H1 c1 E1 r1 => ho R C1 H1 e1 σ vs Q E1 r1 fun w' C2 H2 c2 E2 r2 => k w' C2 H2 (c1.trans c2) E2 r2⟩
theorem je_ty1 {id : String} {nm : Str} {r : PySem.W.Frag → List V → Hp → VK → Prop} {w : Re} (hc : ∀ X, CT X T → CallR X (.type id) (r X.K)) (hg : glB T.sc nm = true) (hm : T.mg nm = none) (hv : bootBuiltins nm = some (.type id))
    (ha : JE T e e0 e1 (.b x)) (ho : CallOk1 T r x w) (hp : Plain e [] pos := by exact ⟨fun _ => rfl, fun _ => rfl⟩) (hn : nm ≠ "__name__" := by decide) (hdb : (nm == ("__debug__" : Str)) = false := by decide) : JE T (.Call (.Name nm p) [e] [] pos) e0 e1 w := fun X hX =>
  (pe_callTy (hc X hX) (gl_of hX hg) (by rw [hX.mg]; exact hm) hv (pa_cons (ha X hX) pa_nil (hp.he X.env)) hn hdb (hp.he X.env) (hp.hp X.env)).wk fun σ H Q ⟨R, C, E, k⟩ => by
    rw [hX.K] at *
    exact ⟨R, C, E, fun v C1 H1 c1 E1 r1 => ho R C1 H1 e1 σ v Q E1 r1 fun w' C2 H2 c2 E2 r2 => k w' C2 H2 (c1.trans c2) E2 r2⟩
section
variable {nm : Str}
/-- len -/
def lenD : PyData → Option Int
  | .list xs => some xs.length
  | .tuple xs => some xs.length
  | .str s => some s.length
  | .dict es => some es.length
  | _ => none
theorem je_lenL {xs : List PyData} (hg : glB T.sc "len" = true) (hm : T.mg "len" = none) (ha : JE T e e0 e1 (.b (.list xs))) (hp : Plain e [] pos := by exact ⟨fun _ => rfl, fun _ => rfl⟩) : JE T (.Call (.Name "len" p) [e] [] pos) e0 e1 (.d (.int xs.length)) :=
  je_bi1 (r := fun K xs H Q => ∃ p ys, xs = [.ref p] ∧ (SqL K H p ys ∨ SqT K H p ys) ∧ Q (.int ys.length) H) (fun X _ => call_len_seq) hg hm PySem.boot_len ha (fun R C H env σ v Q E hv k => by
    obtain ⟨p, vs, rfl, h1, l1, r1⟩ := rb_lst E hv
    exact ⟨p, vs, rfl, .inl (SqL.of h1), by rw [r1.len]; exact k _ C H (Ex.refl C) E (.int _)⟩) hp
theorem je_lenT {xs : List PyData} (hg : glB T.sc "len" = true) (hm : T.mg "len" = none) (ha : JE T e e0 e1 (.b (.tuple xs))) (hp : Plain e [] pos := by exact ⟨fun _ => rfl, fun _ => rfl⟩) : JE T (.Call (.Name "len" p) [e] [] pos) e0 e1 (.d (.int xs.length)) :=
  je_bi1 (r := fun K xs H Q => ∃ p ys, xs = [.ref p] ∧ (SqL K H p ys ∨ SqT K H p ys) ∧ Q (.int ys.length) H) (fun X _ => call_len_seq) hg hm PySem.boot_len ha (fun R C H env σ v Q E hv k => by
    obtain ⟨p, vs, rfl, h1, q1, l1, r1⟩ := rb_tup E hv
    exact ⟨p, vs, rfl, .inr h1, by rw [r1.len]; exact k _ C H (Ex.refl C) E (.int _)⟩) hp
theorem je_lenS {s : Str} (hg : glB T.sc "len" = true) (hm : T.mg "len" = none) (ha : JE T e e0 e1 (.b (.str s))) (hp : Plain e [] pos := by exact ⟨fun _ => rfl, fun _ => rfl⟩) : JE T (.Call (.Name "len" p) [e] [] pos) e0 e1 (.d (.int s.length)) :=
  je_bi1 (r := fun _ vs H Q => ∃ z, vs = [.str z] ∧ z.length ≤ sizeLine ∧ Q (.int z.length) H) (fun X _ => call_len_str) hg hm PySem.boot_len ha (fun R C H env σ v Q E hv k => by
    have hv' := rb_rp E hv
    have e0 := rb_str E hv
    subst e0
    cases hv' with
    | str ok => exact ⟨s, rfl, lnS ok.2, k _ C H (Ex.refl C) E (.int _)⟩) hp
theorem je_abs {i : Int} (hg : glB T.sc "abs" = true) (hm : T.mg "abs" = none) (ha : JE T e e0 e1 (.d (.int i))) (hp : Plain e [] pos := by exact ⟨fun _ => rfl, fun _ => rfl⟩) : JE T (.Call (.Name "abs" p) [e] [] pos) e0 e1 (.d (.int (if i < 0 then -i else i))) :=
  je_bi1 (r := fun _ xs H Q => ∃ i, xs = [.int i] ∧ Q (.int (if i < 0 then -i else i)) H) (fun X _ => call_abs) hg hm (by decide +kernel) (je_b ha) (fun R C H env σ v Q E hv k =>
    ⟨i, by rw [rb_int E hv], k _ C H (Ex.refl C) E (.int _)⟩) hp
theorem je_max2 {i j : Int} (hg : glB T.sc "max" = true) (hm : T.mg "max" = none) (ha : JA T [a, b] e0 e1 [.int i, .int j]) (hp : Plain a [b] pos := by exact ⟨fun _ => rfl, fun _ => rfl⟩) : JE T (.Call (.Name "max" p) [a, b] [] pos) e0 e1 (.d (.int (max i j))) :=
  je_bi (r := fun _ xs H Q => ∃ i j, xs = [.int i, .int j] ∧ Q (.int (if j > i then j else i)) H) (fun X hX => call_max2 hX.calm) hg hm (by decide +kernel) ha (fun R C H env σ vs Q E hv k => by
    cases hv with
    | cons h1 r => cases h1; cases r with
      | cons h2 r => cases h2; cases r; exact ⟨i, j, rfl, k _ C H (Ex.refl C) E (by
          have : (if j > i then j else i) = max i j := by rw [Int.max_def]; split <;> split <;> omega
          rw [this]; exact .int _)⟩) hp
theorem je_min2 {i j : Int} (hg : glB T.sc "min" = true) (hm : T.mg "min" = none) (ha : JA T [a, b] e0 e1 [.int i, .int j]) (hp : Plain a [b] pos := by exact ⟨fun _ => rfl, fun _ => rfl⟩) : JE T (.Call (.Name "min" p) [a, b] [] pos) e0 e1 (.d (.int (min i j))) :=
  je_bi (r := fun _ xs H Q => ∃ i j, xs = [.int i, .int j] ∧ Q (.int (if j < i then j else i)) H) (fun X hX => call_min2 hX.calm) hg hm (by decide +kernel) ha (fun R C H env σ vs Q E hv k => by
    cases hv with
    | cons h1 r => cases h1; cases r with
      | cons h2 r => cases h2; cases r; exact ⟨i, j, rfl, k _ C H (Ex.refl C) E (by
          have : (if j < i then j else i) = min i j := by rw [Int.min_def]; split <;> split <;> omega
          rw [this]; exact .int _)⟩) hp
theorem je_sum {ns : List Int} (hg : glB T.sc "sum" = true) (hm : T.mg "sum" = none) (ha : JE T e e0 e1 (.b (.list (ns.map .int)))) (hp : Plain e [] pos := by exact ⟨fun _ => rfl, fun _ => rfl⟩) : JE T (.Call (.Name "sum" p) [e] [] pos) e0 e1 (.d (.int ns.sum)) :=
  je_bi1 (r := rSum) (fun X hX => cr_sum hX.calm) hg hm (by decide +kernel) ha (fun R C H env σ v Q E hv k => by
    obtain ⟨p, vs, rfl, h1, l1, r1⟩ := rb_lst E hv
    have e := r1.int
    subst e
    exact ⟨p, ns, rfl, SqL.of h1, k _ C H (Ex.refl C) E (.int _)⟩) hp
theorem je_all {bs : List Bool} (hg : glB T.sc "all" = true) (hm : T.mg "all" = none) (ha : JE T e e0 e1 (.b (.list (bs.map .bool)))) (hp : Plain e [] pos := by exact ⟨fun _ => rfl, fun _ => rfl⟩) : JE T (.Call (.Name "all" p) [e] [] pos) e0 e1 (.d (.bool (bs.all id))) :=
  je_bi1 (r := rAll) (fun X hX => cr_all hX.calm) hg hm (by decide +kernel) ha (fun R C H env σ v Q E hv k => by
    obtain ⟨p, vs, rfl, h1, l1, r1⟩ := rb_lst E hv
    have e := r1.bls
    subst e
    exact ⟨p, bs, rfl, SqL.of h1, k _ C H (Ex.refl C) E (.bl _)⟩) hp
theorem je_any {bs : List Bool} (hg : glB T.sc "any" = true) (hm : T.mg "any" = none) (ha : JE T e e0 e1 (.b (.list (bs.map .bool)))) (hp : Plain e [] pos := by exact ⟨fun _ => rfl, fun _ => rfl⟩) : JE T (.Call (.Name "any" p) [e] [] pos) e0 e1 (.d (.bool (bs.any id))) :=
  je_bi1 (r := rAny) (fun X hX => cr_any hX.calm) hg hm (by decide +kernel) ha (fun R C H env σ v Q E hv k => by
    obtain ⟨p, vs, rfl, h1, l1, r1⟩ := rb_lst E hv
    have e := r1.bls
    subst e
    exact ⟨p, bs, rfl, SqL.of h1, k _ C H (Ex.refl C) E (.bl _)⟩) hp
/-- list(..), tuple(..) -/
theorem je_listL {xs : List PyData} (hg : glB T.sc "list" = true) (hm : T.mg "list" = none) (ha : JE T e e0 e1 (.b (.list xs))) (hp : Plain e [] pos := by exact ⟨fun _ => rfl, fun _ => rfl⟩) : JE T (.Call (.Name "list" p) [e] [] pos) e0 e1 (.o (.list xs)) :=
  je_ty1 (r := fun K xs H Q => ∃ p ys, xs = [.ref p] ∧ (SqL K H p ys ∨ SqT K H p ys) ∧ ∀ l, H l = none → Q (.ref l) (upd H l (.lst ys))) (fun X hX => call_list_of) hg hm (by decide +kernel) ha (fun R C H env σ v Q E hv k => by
    obtain ⟨p, vs, rfl, h1, l1, r1⟩ := rb_lst E hv
    refine ⟨p, vs, rfl, .inl (SqL.of h1), fun l hl => ?_⟩
    obtain ⟨E', r⟩ := E.freshO hl l1 r1
    exact k _ C _ (Ex.refl C) E' r) hp
theorem je_listT {xs : List PyData} (hg : glB T.sc "list" = true) (hm : T.mg "list" = none) (ha : JE T e e0 e1 (.b (.tuple xs))) (hp : Plain e [] pos := by exact ⟨fun _ => rfl, fun _ => rfl⟩) : JE T (.Call (.Name "list" p) [e] [] pos) e0 e1 (.o (.list xs)) :=
  je_ty1 (r := fun K xs H Q => ∃ p ys, xs = [.ref p] ∧ (SqL K H p ys ∨ SqT K H p ys) ∧ ∀ l, H l = none → Q (.ref l) (upd H l (.lst ys))) (fun X hX => call_list_of) hg hm (by decide +kernel) ha (fun R C H env σ v Q E hv k => by
    obtain ⟨p, vs, rfl, h1, q1, l1, r1⟩ := rb_tup E hv
    refine ⟨p, vs, rfl, .inr h1, fun l hl => ?_⟩
    obtain ⟨E', r⟩ := E.freshO hl l1 r1
    exact k _ C _ (Ex.refl C) E' r) hp
theorem je_tupL {xs : List PyData} (hg : glB T.sc "tuple" = true) (hm : T.mg "tuple" = none) (ha : JE T e e0 e1 (.b (.list xs))) (hp : Plain e [] pos := by exact ⟨fun _ => rfl, fun _ => rfl⟩) : JE T (.Call (.Name "tuple" p) [e] [] pos) e0 e1 (.d (.tuple xs)) :=
  je_ty1 (r := fun K xs H Q => ∃ p ys, xs = [.ref p] ∧ ((SqL K H p ys ∧ ∀ l, H l = none → Q (.ref l) (upd H l (.tup ys))) ∨ (SqT K H p ys ∧ Q (.ref p) H))) (fun X hX => call_tuple_of) hg hm (by decide +kernel) ha (fun R C H env σ v Q E hv k => by
    obtain ⟨p, vs, rfl, h1, l1, r1⟩ := rb_lst E hv
    refine ⟨p, vs, rfl, .inl ⟨SqL.of h1, fun l hl => ?_⟩⟩
    obtain ⟨c, E', r⟩ := E.freshT hl l1 r1
    exact k _ _ _ c E' r) hp
theorem je_tupT {xs : List PyData} (hg : glB T.sc "tuple" = true) (hm : T.mg "tuple" = none) (ha : JE T e e0 e1 (.b (.tuple xs))) (hp : Plain e [] pos := by exact ⟨fun _ => rfl, fun _ => rfl⟩) : JE T (.Call (.Name "tuple" p) [e] [] pos) e0 e1 (.d (.tuple xs)) :=
  je_ty1 (r := fun K xs H Q => ∃ p ys, xs = [.ref p] ∧ ((SqL K H p ys ∧ ∀ l, H l = none → Q (.ref l) (upd H l (.tup ys))) ∨ (SqT K H p ys ∧ Q (.ref p) H))) (fun X hX => call_tuple_of) hg hm (by decide +kernel) ha (fun R C H env σ v Q E hv k => by
    obtain ⟨p, vs, rfl, h1, q1, l1, r1⟩ := rb_tup E hv
    exact ⟨p, vs, rfl, .inr ⟨h1, k _ C H (Ex.refl C) E (.tup q1 l1 r1)⟩⟩) hp
/-- a list that is only read, taken over -/
theorem je_listS {xs : List PyData} (hg : glB T.sc "list" = true) (hm : T.mg "list" = none) (ha : JE T e e0 e1 (.d (.dict [(.none, .list xs)]))) (hp : Plain e [] pos := by exact ⟨fun _ => rfl, fun _ => rfl⟩) : JE T (.Call (.Name "list" p) [e] [] pos) e0 e1 (.o (.list xs)) :=
  je_ty (r := fun K xs H Q => ∃ p ys, xs = [.ref p] ∧ (SqL K H p ys ∨ SqT K H p ys) ∧ ∀ l, H l = none → Q (.ref l) (upd H l (.lst ys))) (fun X hX => call_list_of) hg hm (by decide +kernel) (ja_cons ha ja_nil hp.he) (fun R C H env σ vs Q E hv k => by
    cases hv with
    | cons h1 r =>
    cases r
    have key : ∀ (es : List (PyData × PyData)), es = [(.none, .list xs)] → ∀ v, Rp T.K C v (.dict es) → ∃ a ws, v = .ref a ∧ SqL T.K C a ws ∧ ws.length ≤ LN ∧ Rps T.K C ws xs := fun es he v h => by
      cases h with
      | scr q l r => cases he; exact ⟨_, _, rfl, q, l, r⟩
      | tupD q _ l r => cases he
      | dK q l r =>
        subst he
        generalize hk : [(PyData.none, PyData.list xs)] = es at r
        cases r with
        | nil => cases hk
        | @cons k v r d es h1 h2 => cases k <;> simp [kD] at hk
      | dT q l r => cases he
    obtain ⟨a, ws, rfl, q, l, r⟩ := key _ rfl _ h1
    refine ⟨a, ws, rfl, .inl (E.cH.l q), fun t ht => ?_⟩
    obtain ⟨E', r⟩ := E.freshO ht l r
    exact k _ C _ (Ex.refl C) E' r) hp
theorem je_intI {i : Int} (hg : glB T.sc "int" = true) (hm : T.mg "int" = none) (ha : JE T e e0 e1 (.d (.int i))) (hp : Plain e [] pos := by exact ⟨fun _ => rfl, fun _ => rfl⟩) : JE T (.Call (.Name "int" p) [e] [] pos) e0 e1 (.d (.int i)) :=
  je_ty1 (r := fun _ xs H Q => (∃ i, xs = [.int i] ∧ Q (.int i) H) ∨ ∃ k, xs = [.bl k] ∧ Q (.int (if k then 1 else 0)) H) (fun X hX => call_int1) hg hm (by decide +kernel) (je_b ha) (fun R C H env σ v Q E hv k =>
    .inl ⟨i, by rw [rb_int E hv], k _ C H (Ex.refl C) E (.int _)⟩) hp
end
end
end J
namespace J
open PySem L2 PySem.Spec PyProof.Rows
section
variable {T : TC} {a b e : Expr} {es : List Expr} {env e0 e1 e2 e3 : Env'} {pos p : Pos} {x y z : PyData} {ds : List PyData} {K : PySem.W.Frag} {R C C' H H' : Hp} {σ : L2.St} {v : V}

/-! ### calls of the text's own defs -/
/-- what a def promises: with such arguments it returns res, and leaves what stood -/
abbrev Lk (C : Hp) : Prop := ∀ (a : Addr) (u : HO), C a = some u → lkO u
/-- .. with such arguments it returns res, and leaves what stood -/
def SpD {A : Type} (K : PySem.W.Frag) (pre : A → Prop) (args : A → List PyData) (res : A → PyData) : Sp := fun vs H Q _ => ∃ (a : A) (C : Hp), pre a ∧ (Ex C H ∧ Lk C) ∧ Rps K C vs (args a) ∧
  ∀ v C' H', Ex C C' → (Ex C' H' ∧ Lk C') → (∀ p o, H p = some o → C p = none → H' p = some o ∧ C' p = none) → Rp K C' v (res a) → Q v H'
/-- .. whose first argument is an object that it may change -/
def SpO {A : Type} (K : PySem.W.Frag) (pre : A → Prop) (d0 d1 : A → PyData) (args : A → List PyData) (res : A → PyData) : Sp := fun vs H Q _ => ∃ (a : A) (C : Hp) (p : Addr) (vs' : List V), vs = .ref p :: vs' ∧ pre a ∧ (Ex C H ∧ Lk C) ∧ C p = none ∧ Ow K C (H p) (d0 a) ∧ Rps K C vs' (args a) ∧
  ∀ v C' H', Ex C C' → (Ex C' H' ∧ Lk C') → (∀ q o, q ≠ p → H q = some o → C q = none → H' q = some o ∧ C' q = none) → C' p = none → Ow K C' (H' p) (d1 a) → Rp K C' v (res a) → Q v H'
/-- .. that hands back a new object that may be changed -/
def SpF {A : Type} (K : PySem.W.Frag) (pre : A → Prop) (args : A → List PyData) (res : A → PyData) : Sp := fun vs H Q _ => ∃ (a : A) (C : Hp), pre a ∧ (Ex C H ∧ Lk C) ∧ Rps K C vs (args a) ∧
  ∀ p C' H', Ex C C' → (Ex C' H' ∧ Lk C') → (∀ p o, H p = some o → C p = none → H' p = some o ∧ C' p = none) → H p = none → C' p = none → Ow K C' (H' p) (res a) → Q (.ref p) H'
theorem EnvC.call (E : EnvC K R C env σ H) (c : Ex C C') (ch : Ex C' H' ∧ Lk C') (k : ∀ p o, H p = some o → C p = none → H' p = some o ∧ C' p = none) : EnvC K R C' env σ H' := by
  refine ⟨E.len, ch.1, fun p o e => ?_, fun p e => ?_, fun i x e => ?_, fun i q x e => ?_, E.apart, ch.2⟩
  · exact (k p o (E.rH _ _ e) (E.rc p (by rw [e]; simp))).1
  · cases q : R p with
    | none => exact absurd q e
    | some o => exact (k p o (E.rH _ _ q) (E.rc p e)).2
  · obtain ⟨v, h1, h2⟩ := E.dat i x e
    exact ⟨v, h1, h2.mono c⟩
  · obtain ⟨p, h1, h0, h2, h3, h4⟩ := E.own i q x e
    cases ho : H p with
    | none => rw [ho] at h4; exact absurd rfl h4.there
    | some o =>
      obtain ⟨k1, k2⟩ := k p o ho h2
      refine ⟨p, h1, h0, k2, h3, ?_⟩
      rw [k1, ← ho]
      exact h4.mono c
theorem EnvC.callO {i : Nat} {k0 : Option Addr} {d0 d1 : PyData} {p : Addr} (E : EnvC K R C env σ H) (hi : env[i]? = some (.o k0 d0)) (hs : σ[i]? = some (some (.ref p))) (c : Ex C C') (ch : Ex C' H' ∧ Lk C')
    (k : ∀ q o, q ≠ p → H q = some o → C q = none → H' q = some o ∧ C' q = none) (cp : C' p = none) (ow : Ow K C' (H' p) d1) : EnvC K R C' (env.set i (.o k0 d1)) σ H' := by
  have hil : i < env.length := (List.getElem?_eq_some_iff.mp hi).1
  obtain ⟨p', s', hq, _, rp, _⟩ := E.own i k0 d0 hi
  rw [hs] at s'; cases s'
  refine ⟨by simp [E.len], ch.1, fun q o e => ?_, fun q e => ?_, fun j x e => ?_, fun j w x e => ?_, fun j k w w' y z q e1 e2 s1 s2 => ?_, ch.2⟩
  · exact (k q o (fun h => by subst h; rw [rp] at e; cases e) (E.rH _ _ e) (E.rc q (by rw [e]; simp))).1
  · cases q' : R q with
    | none => exact absurd q' e
    | some o => exact (k q o (fun h => by subst h; exact e rp) (E.rH _ _ q') (E.rc q e)).2
  · by_cases h : i = j
    · subst h; rw [List.getElem?_set_self hil] at e; cases e
    · rw [List.getElem?_set_ne h] at e
      obtain ⟨v, h1, h2⟩ := E.dat j x e
      exact ⟨v, h1, h2.mono c⟩
  · by_cases h : i = j
    · subst h; rw [List.getElem?_set_self hil] at e; cases e
      exact ⟨p, hs, hq, cp, rp, ow⟩
    · rw [List.getElem?_set_ne h] at e
      obtain ⟨q, h1, h0, h2, h3, h4⟩ := E.own j w x e
      have hqp : q ≠ p := fun hh => by subst hh; exact h (E.apart i j _ _ _ x q hi e hs h1)
      cases ho : H q with
      | none => rw [ho] at h4; exact absurd rfl h4.there
      | some o =>
        obtain ⟨k1, k2⟩ := k q o hqp ho h2
        refine ⟨q, h1, h0, k2, h3, ?_⟩
        rw [k1, ← ho]
        exact h4.mono c
  · have f : ∀ {j : Nat} {w : Option Addr} {y : PyData}, (env.set i (.o k0 d1))[j]? = some (.o w y) → ∃ w y, env[j]? = some (.o w y) := fun {j w y} e => by
      by_cases h : i = j
      · subst h; exact ⟨_, _, hi⟩
      · rw [List.getElem?_set_ne h] at e; exact ⟨_, _, e⟩
    obtain ⟨_, _, f1⟩ := f e1
    obtain ⟨_, _, f2⟩ := f e2
    exact E.apart j k _ _ _ _ q f1 f2 s1 s2
/-- a def that is known -/
structure Kn {A : Type} (T : TC) (nm : Str) (k : Nat) (f : Addr) (fd : FuncData) (ps : List Str) (sp : Sp) : Prop where
  ok : FnOk T.P T.w T.K T.mg T.base CX0 k f fd ps sp
  mg : T.mg nm = some (.ref f)
  kp : PySem.W.keepIn T.K (.ref f) = true
  b : Binds T.K fd ps []
theorem CT.fn_ok {X : Cx} {k : Nat} {f : Addr} {fd : FuncData} {ps : List Str} {sp : Sp} (hX : CT X T) (h : FnOk T.P T.w T.K T.mg T.base CX0 k f fd ps sp) : FnOk X.prog X.w X.K X.mg X.base CX0 k f fd ps sp := by
  rw [hX.P, hX.w, hX.K, hX.mg, hX.base]; exact h
theorem je_call {A : Type} {nm : Str} {k : Nat} {f : Addr} {fd : FuncData} {ps : List Str} {pre : A → Prop} {args : A → List PyData} {res : A → PyData} (F : FnOk T.P T.w T.K T.mg T.base CX0 k f fd ps (SpD T.K pre args res)) (a : A) (hm : T.mg nm = some (.ref f)) (kp : PySem.W.keepIn T.K (.ref f) = true) (bi : Binds T.K fd ps [])
    (hg : glB T.sc nm = true) (hk : k ≤ T.k) (ha : JA T (e :: es) e0 e1 (args a)) (hpre : pre a) (hp : Plain e es pos := by exact ⟨fun _ => rfl, fun _ => rfl⟩) (hdb : (nm == ("__debug__" : Str)) = false := by decide) : JE T (.Call (.Name nm p) (e :: es) [] pos) e0 e1 (.d (res a)) := fun X hX =>
  (pe_call (E := E0) (dvs := []) (ds := []) (hX.fn_ok F) (hX.room.mono hk) (gl_of hX hg) (by rw [hX.mg]; exact hm) (by rw [hX.K]; exact kp) (by rw [hX.K]; exact bi) .nil pass0 (ha X hX) hdb (hp.he X.env) (hp.hp X.env)).wk fun σ H Q ⟨R, C, E, k⟩ => by
    rw [hX.K] at *
    refine ⟨R, C, E, fun vs C1 H1 c1 E1 r1 => ?_⟩
    show SpD T.K pre args res (vs ++ []) H1 Q E0
    rw [List.append_nil]
    exact ⟨a, C1, hpre, ⟨E1.cH, E1.lk⟩, r1, fun v C2 H2 c2 ch kk r2 => k v C2 H2 (c1.trans c2) (E1.call c2 ch kk) r2⟩
theorem je_callF {A : Type} {nm : Str} {k : Nat} {f : Addr} {fd : FuncData} {ps : List Str} {pre : A → Prop} {args : A → List PyData} {res : A → PyData} (F : FnOk T.P T.w T.K T.mg T.base CX0 k f fd ps (SpF T.K pre args res)) (a : A) (hm : T.mg nm = some (.ref f)) (kp : PySem.W.keepIn T.K (.ref f) = true) (bi : Binds T.K fd ps [])
    (hg : glB T.sc nm = true) (hk : k ≤ T.k) (ha : JA T (e :: es) e0 e1 (args a)) (hpre : pre a) (hp : Plain e es pos := by exact ⟨fun _ => rfl, fun _ => rfl⟩) (hdb : (nm == ("__debug__" : Str)) = false := by decide) : JE T (.Call (.Name nm p) (e :: es) [] pos) e0 e1 (.o (res a)) := fun X hX =>
  (pe_call (E := E0) (dvs := []) (ds := []) (hX.fn_ok F) (hX.room.mono hk) (gl_of hX hg) (by rw [hX.mg]; exact hm) (by rw [hX.K]; exact kp) (by rw [hX.K]; exact bi) .nil pass0 (ha X hX) hdb (hp.he X.env) (hp.hp X.env)).wk fun σ H Q ⟨R, C, E, k⟩ => by
    rw [hX.K] at *
    refine ⟨R, C, E, fun vs C1 H1 c1 E1 r1 => ?_⟩
    show SpF T.K pre args res (vs ++ []) H1 Q E0
    rw [List.append_nil]
    refine ⟨a, C1, hpre, ⟨E1.cH, E1.lk⟩, r1, fun p C2 H2 c2 ch kk hp0 cp ow => k (.ref p) C2 H2 (c1.trans c2) (E1.call c2 ch kk) ⟨p, rfl, cp, E1.rN hp0, fun i q x e s => ?_, ow⟩⟩
    obtain ⟨q', s', _, _, _, o'⟩ := E1.own i q x e
    rw [s] at s'; cases s'
    exact o'.there hp0
theorem je_callO {A : Type} {nm x : Str} {k i : Nat} {f : Addr} {fd : FuncData} {ps : List Str} {pre : A → Prop} {d0 d1 : A → PyData} {args : A → List PyData} {res : A → PyData} {k0 : Option Addr} {px : Pos} (F : FnOk T.P T.w T.K T.mg T.base CX0 k f fd ps (SpO T.K pre d0 d1 args res)) (a : A) (hm : T.mg nm = some (.ref f)) (kp : PySem.W.keepIn T.K (.ref f) = true) (bi : Binds T.K fd ps [])
    (hg : glB T.sc nm = true) (hk : k ≤ T.k) (hN : T.N[i]? = some x) (hv : visB T.sc x = true) (hi0 : ∃ d, e0[i]? = some (.o k0 d)) (ha : JA T es e0 e1 (args a)) (hi : e1[i]? = some (.o k0 (d0 a))) (hpre : pre a) (hp : Plain (.Name x px) es pos := by exact ⟨fun _ => rfl, fun _ => rfl⟩) (hdb : (nm == ("__debug__" : Str)) = false := by decide)
    (hd : (x == ("__debug__" : Str)) = false := by decide) (hcd : (x == ("__classdict__" : Str)) = false := by decide) :
    JE T (.Call (.Name nm p) (.Name x px :: es) [] pos) e0 (e1.set i (.o k0 (d1 a))) (.d (res a)) := fun X hX =>
  (pe_call (E := E0) (dvs := []) (ds := []) (hX.fn_ok F) (hX.room.mono hk) (gl_of hX hg) (by rw [hX.mg]; exact hm) (by rw [hX.K]; exact kp) (by rw [hX.K]; exact bi) .nil pass0 (pa_cons (pe_var (i := i) (by rw [hX.N]; exact hN) (by rw [hX.sc]; exact vis_of hv) hd hcd) (ha X hX) (hp.he X.env)) hdb (hp.he X.env) (hp.hp X.env)).wk fun σ H Q ⟨R, C, E, k⟩ => by
    rw [hX.K] at *
    obtain ⟨d, hi0⟩ := hi0
    obtain ⟨p, s0, _⟩ := E.own i k0 d hi0
    refine ⟨.ref p, s0, R, C, E, fun vs C1 H1 c1 E1 r1 => ?_⟩
    show SpO T.K pre d0 d1 args res ((.ref p :: vs) ++ []) H1 Q E0
    rw [List.append_nil]
    obtain ⟨p', s1, h0, h2, h3, h4⟩ := E1.own i k0 _ hi
    rw [s0] at s1; cases s1
    exact ⟨a, C1, p, vs, rfl, hpre, ⟨E1.cH, E1.lk⟩, h2, h4, r1, fun v C2 H2 c2 ch kk cp ow r2 => k v C2 H2 (c1.trans c2) (E1.callO hi s0 c2 ch kk cp ow) r2⟩

/-! ### targets -/
def tGJ (K : PySem.W.Frag) (js : List Nat) (d : PyData) (env env' : Env') : TG := fun v σ H Q => ∃ R C, EnvC K R C env σ H ∧ Rp K C v d ∧ ∀ σ' : L2.St, (∀ j : Nat, j ∉ js → σ'[j]? = σ[j]?) → σ'.length = σ.length → EnvC K R C env' σ' H → Q σ' H
def JG (T : TC) (g : Expr) (js : List Nat) (d : PyData) (env env' : Env') : Prop := ∀ X, CT X T → PG X g (tGJ X.K js d env env')
def locB (sc : Scope) (x : Str) : Bool := match sc.names.lookup x with
  | some .local => true | some .cell => true | _ => false
theorem loc_of {sc : Scope} {x : Str} (h : locB sc x = true) : L2.Loc sc x := by
  unfold locB at h
  unfold L2.Loc
  split at h <;> first | exact .inl (by assumption) | exact .inr (by assumption) | cases h
theorem jg_name (i : Nat) {x : Str} {d : PyData} (hnd : T.N.Nodup) (hN : T.N[i]? = some x := by rfl) (hl : locB T.sc x = true := by rfl) (hf : T.fn x = true ∨ T.sc.names.lookup x = some .local := by first | exact .inl rfl | exact .inr rfl) : JG T (.Name x pos) [i] d env (env.set i (.d d)) := fun X hX =>
  (pg_name (i := i) (by rw [hX.N]; exact hnd) (by rw [hX.N]; exact hN) (by rw [hX.sc]; exact loc_of hl) (by rcases hf with h | h; exact .inl (hX.fn x h); exact .inr (by rw [hX.sc]; exact h))).wk fun v σ H Q ⟨R, C, E, r, k⟩ =>
    k _ (fun j hj => by rw [List.getElem?_set_ne]; intro h; exact hj (by simp [h])) (by simp) (E.set i r)
def tGsJ (K : PySem.W.Frag) (js : List Nat) (ds : List PyData) (env env' : Env') : TGs := fun vs σ H Q => ∃ R C, EnvC K R C env σ H ∧ Rps K C vs ds ∧ ∀ σ' : L2.St, (∀ j : Nat, j ∉ js → σ'[j]? = σ[j]?) → σ'.length = σ.length → EnvC K R C env' σ' H → Q σ' H
def JGs (T : TC) (g : List Expr) (js : List Nat) (ds : List PyData) (env env' : Env') : Prop := ∀ X, CT X T → PGs X g (tGsJ X.K js ds env env')
theorem _root_.L2.PGs.wk {X : Cx} {g : List Expr} {t t' : TGs} (h : PGs X g t) (hh : ∀ v σ H Q, t' v σ H Q → t v σ H Q) : PGs X g t' := ⟨fun pins s σ H v u Q I r q => h.run pins s σ H v u Q I r (hh v σ H Q q)⟩
theorem jgs_nil : JGs T [] [] [] env env := fun X hX => pgs_nil.wk fun vs σ H Q ⟨R, C, E, r, k⟩ => by
  cases r; exact ⟨rfl, k σ (fun _ _ => rfl) rfl E⟩
theorem jgs_cons {g : Expr} {gs : List Expr} {js js' : List Nat} (h : JG T g js x e0 e1) (h' : JGs T gs js' ds e1 e2) (hs : ∀ v : Env, (assignEach (g :: gs) v).map (·.2) = assign g v :: (assignEach gs v).map (·.2) := by intro _; rfl) : JGs T (g :: gs) (js ++ js') (x :: ds) e0 e2 := fun X hX =>
  (pgs_cons (h X hX) (h' X hX) (hs X.env)).wk fun vs σ H Q ⟨R, C, E, r, k⟩ => by
    cases r with
    | cons r1 r2 =>
    refine ⟨_, _, rfl, R, C, E, r1, fun σ1 s1 l1 E1 => ⟨R, C, E1, r2, fun σ2 s2 l2 E2 => k σ2 (fun j hj => ?_) (l2.trans l1) E2⟩⟩
    rw [List.mem_append, not_or] at hj
    rw [s2 j hj.2, s1 j hj.1]
theorem jg_tup {gs : List Expr} {js : List Nat} {kk : Nat} (h : JGs T gs js ds e0 e1) (hn : ∀ v : Env, (assignEach gs v).length = ds.length := by intro _; rfl) (hst : ∀ v : Env, (assignEach gs v).findIdx? (·.1) = none := by intro _; rfl) : JG T (.Tuple gs kk pos) js (.tuple ds) e0 e1 := fun X hX =>
  (pg_tup hX.calm (h X hX) (hn X.env) (hst X.env)).wk fun v σ H Q ⟨R, C, E, r, k⟩ => by
    cases r with
    | tup q l r => exact ⟨_, _, rfl, E.cH.t q, r.len, R, C, E, r, k⟩
/-- a list taken apart -/
theorem jg_is {g : Expr} {js : List Nat} {d d' : PyData} (h : JG T g js d e0 e1) (q : d = d') : JG T g js d' e0 e1 := q ▸ h

/-! ### what is walked -/
/-- J yields the items, whatever is made meanwhile -/
def ItOk (K : PySem.W.Frag) (R C : Hp) (J : It) (items : List PyData) : Prop := ∀ C' env σ H, Ex C C' → EnvC K R C' env σ H →
  J.stop items.length H ∧ ∀ i d, items[i]? = some d → J.go i H ∧ ∀ x H', J.yld i H x H' → ∃ C2, Ex C' C2 ∧ EnvC K R C2 env σ H' ∧ (∀ D, H' D = none → H D = none) ∧ (∀ D o, H D = some o → H' D = some o) ∧ (∀ D o, H D = some o → C' D = none → C2 D = none) ∧ Rp K C2 x d
def tIJ (K : PySem.W.Frag) (env env' : Env') (items : List PyData) : TI := fun σ H Rr' => ∃ R C, EnvC K R C env σ H ∧ ∀ J C' H', Ex C C' → EnvC K R C' env' σ H' → items.length ≤ LN → ItOk K R C' J items → Rr' J H'
def JI (T : TC) (tg iter : Expr) (env env' : Env') (items : List PyData) : Prop := ∀ X, CT X T → PI X tg iter (tIJ X.K env env' items)
variable {tg : Expr}
theorem ji_list {xs : List PyData} (h : JE T e e0 e1 (.d (.list xs))) : JI T tg e e0 e1 xs := fun X hX => (pi_list (h X hX)).wk fun σ H Rr' ⟨R, C, E, k⟩ => ⟨R, C, E, fun v C1 H1 c1 E1 r1 => by
  cases r1 with
  | lst q l r =>
  refine ⟨_, rfl, ⟨_, SqL.of (E1.cH _ _ q)⟩, k _ C1 H1 c1 E1 (by rw [← r.len]; exact l) fun C2 env σ H2 c2 E2 => ⟨⟨_, SqL.of (E2.cH _ _ (c2 _ _ q)), by rw [r.len]; exact Nat.le_refl _⟩, fun i d hd => ?_⟩⟩
  obtain ⟨w, hw, rw⟩ := r.getD hd
  refine ⟨⟨_, w, SqL.of (E2.cH _ _ (c2 _ _ q)), hw⟩, fun x H3 hy => ?_⟩
  obtain ⟨rfl, hx⟩ := hy
  have := hx _ (SqL.of (E2.cH _ _ (c2 _ _ q)))
  rw [hw] at this; cases this
  exact ⟨C2, Ex.refl C2, E2, fun _ h => h, fun _ _ h => h, fun _ _ _ h => h, rw.mono c2⟩⟩
theorem ji_tup {xs : List PyData} (h : JE T e e0 e1 (.d (.tuple xs))) : JI T tg e e0 e1 xs := fun X hX => (pi_tup (h X hX)).wk fun σ H Rr' ⟨R, C, E, k⟩ => ⟨R, C, E, fun v C1 H1 c1 E1 r1 => by
  cases r1 with
  | tup q l r =>
  refine ⟨_, rfl, ⟨_, E1.cH.t q⟩, k _ C1 H1 c1 E1 (by rw [← r.len]; exact l) fun C2 env σ H2 c2 E2 => ⟨⟨_, E2.cH.t (c2.t q), by rw [r.len]; exact Nat.le_refl _⟩, fun i d hd => ?_⟩⟩
  obtain ⟨w, hw, rw⟩ := r.getD hd
  refine ⟨⟨_, w, E2.cH.t (c2.t q), hw⟩, fun x H3 hy => ?_⟩
  obtain ⟨rfl, hx⟩ := hy
  have := hx _ (E2.cH.t (c2.t q))
  rw [hw] at this; cases this
  exact ⟨C2, Ex.refl C2, E2, fun _ h => h, fun _ _ h => h, fun _ _ _ h => h, rw.mono c2⟩⟩
/-- the ints lo, lo + 1, .. -/
def rgI (lo hi : Int) : List Int := (List.range (hi - lo).toNat).map fun i => lo + (i : Nat)
theorem rgI_len (lo hi : Int) : (rgI lo hi).length = (hi - lo).toNat := by unfold rgI; simp
theorem rgI_get {lo hi : Int} {i : Nat} {d : PyData} (h : ((rgI lo hi).map PyData.int)[i]? = some d) : i < (hi - lo).toNat ∧ d = .int (lo + (i : Nat)) := by
  unfold rgI at h
  rw [List.getElem?_map, List.getElem?_map] at h
  by_cases hi : i < (hi - lo).toNat
  · rw [List.getElem?_range hi] at h
    simp at h
    exact ⟨hi, h.symm⟩
  · rw [List.getElem?_eq_none (by simpa using hi)] at h
    cases h
theorem ji_range1 {n : Int} (hg : glB T.sc "range" = true) (hm : T.mg "range" = none) (h : JE T e e0 e1 (.d (.int n))) (hn : -(2 ^ 62) ≤ n ∧ n ≤ 16777216) (hs : ∀ v : Env, starEach [e] v = [(false, eval e v)] := by intro _; rfl) : JI T tg (.Call (.Name "range" p) [e] [] pos) e0 e1 ((rgI 0 n).map .int) := fun X hX =>
  (pi_range1 (gl_of hX hg) (by rw [hX.mg]; exact hm) (pa_cons (h X hX) pa_nil (hs X.env)) (hs X.env)).wk fun σ H Rr' ⟨R, C, E, k⟩ => ⟨R, C, E, fun v C1 H1 c1 E1 r1 => by
    cases r1
    refine ⟨n, rfl, hn.1, by omega, k _ C1 H1 c1 E1 (by rw [List.length_map, rgI_len]; show _ ≤ 16777216; omega) fun C2 env σ H2 c2 E2 => ⟨by show n.toNat ≤ _; rw [List.length_map, rgI_len]; omega, fun i d hd => ?_⟩⟩
    obtain ⟨h1, rfl⟩ := rgI_get hd
    refine ⟨by show i < n.toNat; omega, fun x H3 ⟨e1, e2⟩ => ?_⟩
    subst e1; subst e2
    exact ⟨C2, Ex.refl C2, E2, fun _ h => h, fun _ _ h => h, fun _ _ _ h => h, .int _⟩⟩
theorem ji_range2 {m n : Int} (hg : glB T.sc "range" = true) (hm : T.mg "range" = none) (h : JA T [a, b] e0 e1 [.int m, .int n]) (hn : -(2 ^ 62) ≤ m ∧ m < 2 ^ 62 ∧ -(2 ^ 62) ≤ n ∧ n < 2 ^ 62 ∧ n - m ≤ 16777216) (hs : ∀ v : Env, starEach [a, b] v = [(false, eval a v), (false, eval b v)] := by intro _; rfl) (hs2 : ∀ v : Env, starEach [b] v = [(false, eval b v)] := by intro _; rfl) : JI T tg (.Call (.Name "range" p) [a, b] [] pos) e0 e1 ((rgI m n).map .int) := fun X hX =>
  (pi_range2 (gl_of hX hg) (by rw [hX.mg]; exact hm) (h X hX) (hs X.env) (hs2 X.env)).wk fun σ H Rr' ⟨R, C, E, k⟩ => ⟨R, C, E, fun vs C1 H1 c1 E1 r1 => by
    cases r1 with
    | cons r1 r2 => cases r1; cases r2 with
      | cons r2 r3 =>
      cases r2; cases r3
      refine ⟨m, n, rfl, ⟨hn.1, hn.2.1, hn.2.2.1, hn.2.2.2.1⟩, k _ C1 H1 c1 E1 (by rw [List.length_map, rgI_len]; show _ ≤ 16777216; omega) fun C2 env σ H2 c2 E2 => ⟨by show (n - m).toNat ≤ _; rw [List.length_map, rgI_len]; omega, fun i d hd => ?_⟩⟩
      obtain ⟨h1, rfl⟩ := rgI_get hd
      refine ⟨by show i < (n - m).toNat; omega, fun x H3 ⟨e1, e2⟩ => ?_⟩
      subst e1; subst e2
      exact ⟨C2, Ex.refl C2, E2, fun _ h => h, fun _ _ h => h, fun _ _ _ h => h, .int _⟩⟩
end
end J
namespace J
open PySem L2 PySem.Spec PyProof.Rows
section
variable {T : TC} {a b e : Expr} {es : List Expr} {env e0 e1 e2 e3 : Env'} {pos p : Pos} {x y z : PyData} {ds : List PyData} {K : PySem.W.Frag} {R C C' H H' : Hp} {σ σ' : L2.St} {v : V}

/-! ### comprehensions -/
theorem EnvC.resig (E : EnvC K R C env σ H) (l : σ'.length = σ.length) (s : ∀ (i : Nat) (x : Sl), env[i]? = some x → x ≠ .u → σ'[i]? = σ[i]?) : EnvC K R C env σ' H := by
  refine ⟨E.len.trans l.symm, E.cH, E.rH, E.rc, fun i x e => ?_, fun i k x e => ?_, fun i j k k' x y p e1 e2 s1 s2 => ?_, E.lk⟩
  · rw [s i _ e (by simp)]; exact E.dat i x e
  · rw [s i _ e (by simp)]; exact E.own i k x e
  · rw [s i _ e1 (by simp)] at s1
    rw [s j _ e2 (by simp)] at s2
    exact E.apart i j k k' x y p e1 e2 s1 s2
theorem wipe_get : ∀ (σ : L2.St) (vs : List Nat) (i : Nat), (wipe σ vs)[i]? = if i ∈ vs then (σ[i]?).map (fun _ => none) else σ[i]?
  | σ, [], i => by simp [wipe]
  | σ, v :: vs, i => by
    unfold wipe
    by_cases h : v = i
    · subst h
      rw [List.getElem?_set_self', wipe_get σ vs v, if_pos (by simp : v ∈ v :: vs)]
      split
      · cases σ[v]? <;> rfl
      · rfl
    · rw [List.getElem?_set_ne h, wipe_get σ vs i]
      have e : (i ∈ v :: vs) = (i ∈ vs) := by simp [Ne.symm h]
      simp only [e]
theorem wipe_eq {vs : List Nat} (l : σ'.length = σ.length) (s : ∀ j : Nat, j ∉ vs → σ'[j]? = σ[j]?) : wipe σ' vs = wipe σ vs := by
  apply List.ext_getElem?
  intro i
  rw [wipe_get, wipe_get]
  by_cases h : i ∈ vs
  · rw [if_pos h, if_pos h]
    by_cases hi : i < σ.length
    · rw [List.getElem?_eq_getElem hi, List.getElem?_eq_getElem (by omega)]; rfl
    · rw [List.getElem?_eq_none (by omega), List.getElem?_eq_none (by omega)]
  · rw [if_neg h, if_neg h, s i h]
/-- the slots of js are not known -/
def unk (env : Env') (js : List Nat) : Prop := ∀ i ∈ js, ∀ x : Sl, env[i]? = some x → x = .u
theorem unk_of {env : Env'} {js : List Nat} (h : (js.all fun i => match env[i]? with | some .u => true | none => true | _ => false) = true) : unk env js := by
  intro i hi x e
  have := List.all_eq_true.mp h i hi
  rw [e] at this
  cases x <;> simp at this ⊢
theorem EnvC.wipe {vs : List Nat} (E : EnvC K R C env σ H) (u : unk env vs) : EnvC K R C env (wipe σ vs) H := E.resig (wipe_length σ vs) fun i x e hx => by
  rw [wipe_get, if_neg]
  intro h
  exact hx (u i h x e)
theorem EnvC.unwipe {vs : List Nat} (E : EnvC K R C env (L2.wipe σ vs) H) (u : unk env vs) : EnvC K R C env σ H := E.resig (wipe_length σ vs).symm fun i x e hx => by
  rw [wipe_get, if_neg]
  intro h
  exact hx (u i h x e)
/-- a clause's tests -/
def JTs (T : TC) (ifs : List Expr) (env env' : Env') (c : Bool) : Prop := ∀ X, CT X T → PTs X ifs (tTJ X.K env env' c)
theorem _root_.L2.PTs.wk {X : Cx} {e : List Expr} {t t' : TT} (h : PTs X e t) (hh : ∀ σ H Q, t' σ H Q → t σ H Q) : PTs X e t' := ⟨fun pins s σ H Q I q => h.run pins s σ H Q I (hh σ H Q q)⟩
theorem jts_nil : JTs T [] env env true := fun X hX => pts_nil.wk fun σ H Q ⟨R, C, E, k⟩ => k C H (Ex.refl C) E
theorem jts_one {c : Bool} (h : JT T a e0 e1 c) : JTs T [a] e0 e1 c := fun X hX => pts_one (h X hX)
def tIfsJ (T : TC) (K : PySem.W.Frag) (ifs : List Expr) : TT := fun σ H Q => ∃ E1 E2 c, JTs T ifs E1 E2 c ∧ tTJ K E1 E2 c σ H Q
def tEltJ (T : TC) (K : PySem.W.Frag) (elt : Expr) : TE := fun σ H Q => ∃ E1 E2 r, JE T elt E1 E2 r ∧ tJ K E1 E2 r σ H Q
def tTgJ (T : TC) (K : PySem.W.Frag) (tg : Expr) : TG := fun v σ H Q => ∃ js d E1 E2, JG T tg js d E1 E2 ∧ tGJ K js d E1 E2 v σ H Q
/-- a turn of a comprehension: from ev with the item d to ev', the list grown from outs to outs' -/
structure LcTurn (T : TC) (scope : Scope) (tg elt : Expr) (ifs : List Expr) (vs : List Nat) (d : PyData) (ev ev' : Env') (outs outs' : List PyData) : Prop where
  ex : ∃ (js : List Nat) (E1 E2 : Env') (c : Bool), js ⊆ vs ∧ JG (T.blk scope) tg js d ev E1 ∧ JTs (T.blk scope) ifs E1 E2 c ∧
    (c = true → ∃ E3 z, JE (T.blk scope) elt E2 E3 (.d z) ∧ Le ev' E3 ∧ outs' = outs ++ [z]) ∧ (c = false → Le ev' E2 ∧ outs' = outs)
theorem Rps.snoc {vs : List V} (r : Rps K C vs ds) (h : Rp K C v x) : Rps K C (vs ++ [v]) (ds ++ [x]) := r.append (.cons h .nil)
/-- the reading of a comprehension -/
theorem lc_run {X : Cx} (hX : CT X T) {tg elt : Expr} {ifs : List Expr} {scope : Scope} {own : List (Str × Nat)} {xs : List PyData} (ev : Nat → Env') (outs : Nat → List PyData) (h0 : ev 0 = e1) (o0 : outs 0 = [])
    (hu : ∀ i, i ≤ xs.length → unk (ev i) (own.map (·.2))) (turn : ∀ i d, xs[i]? = some d → LcTurn T scope tg elt ifs (own.map (·.2)) d (ev i) (ev (i + 1)) (outs i) (outs (i + 1))) :
    ∀ (σ : L2.St) (H : Hp) (Q : VK), tJ X.K e0 (ev xs.length) (.o (.list (outs xs.length))) σ H Q → tLc (tIJ X.K e0 e1 xs) (tTgJ (T.blk scope) X.K tg) (tIfsJ (T.blk scope) X.K ifs) (tEltJ (T.blk scope) X.K elt) (own.map (·.2)) σ H Q := by
  rintro σ H Q ⟨R, C, E, k⟩
  refine ⟨R, C, E, fun J C1 H1 c1 E1 hln io D hD => ?_⟩
  subst h0
  have olen : ∀ i, i ≤ xs.length → (outs i).length ≤ i := by
    intro i
    induction i with
    | zero => intro _; rw [o0]; exact Nat.le_refl _
    | succ i ih =>
      intro hi
      have hi' : i < xs.length := hi
      obtain ⟨js, F1, F2, c, _, _, _, ht, hf⟩ := (turn i _ (List.getElem?_eq_getElem hi')).ex
      cases c with
      | true =>
        obtain ⟨_, z, _, _, e⟩ := ht rfl
        rw [e, List.length_append]
        have := ih (Nat.le_of_lt hi')
        simp; omega
      | false =>
        rw [(hf rfl).2]
        have := ih (Nat.le_of_lt hi')
        omega
  refine ⟨fun i m H' => i + m = xs.length ∧ ∃ C' acc, Ex C1 C' ∧ EnvC X.K R C' (ev i) σ H' ∧ H' D = some (.lst acc) ∧ C' D = none ∧ R D = none ∧ NotOwn (ev i) σ D ∧ Rps X.K C' acc (outs i), ⟨xs.length, by omega, C1, [], Ex.refl _, E1.newO hD, upd_same, E1.cN hD, E1.rN hD, E1.notOwn hD, by rw [o0]; exact .nil⟩, ?_⟩
  rintro i m H' ⟨him, C', acc, cc, E', hHD, cD, rD, nD, rp⟩
  obtain ⟨st, go⟩ := io C' (ev i) σ H' cc E'
  by_cases hi : i < xs.length
  · right
    obtain ⟨g1, g2⟩ := go i xs[i] (List.getElem?_eq_getElem hi)
    refine ⟨g1, fun H2 => ∃ C2 acc2, Ex C1 C2 ∧ EnvC X.K R C2 (ev (i + 1)) σ H2 ∧ H2 D = some (.lst acc2) ∧ C2 D = none ∧ R D = none ∧ NotOwn (ev (i + 1)) σ D ∧ Rps X.K C2 acc2 (outs (i + 1)), fun H2 ⟨C2, acc2, h⟩ => ⟨m - 1, by omega, by omega, C2, acc2, h⟩, fun w H2 hy => ?_⟩
    obtain ⟨C2, c2, E2, n1, n2, n3, rw⟩ := g2 w H2 hy
    have hH2D := n2 D _ hHD
    have cD2 : C2 D = none := n3 D _ hHD cD
    obtain ⟨js, F1, F2, c, hjs, jg, jt, ht, hf⟩ := (turn i xs[i] (List.getElem?_eq_getElem hi)).ex
    -- with the new list as a part of what stands
    have lift : ∀ {R0 C0 : Hp} {en : Env'} {s0 : L2.St} {H0 : Hp} {o : HO}, EnvC X.K R0 C0 en s0 H0 → H0 D = some o → C0 D = none → NotOwn en s0 D → EnvC X.K (upd R0 D o) C0 en s0 H0 := fun {R0 C0 en s0 H0 o} E0 h1 h2 h3 => by
      refine ⟨E0.len, E0.cH, fun q u e => ?_, fun q e => ?_, E0.dat, fun j w x e => ?_, E0.apart, E0.lk⟩
      · by_cases h : q = D
        · subst h; rw [upd_same] at e; cases e; exact h1
        · rw [upd_ne h] at e; exact E0.rH _ _ e
      · by_cases h : q = D
        · subst h; exact h2
        · rw [upd_ne h] at e; exact E0.rc _ e
      · obtain ⟨q, k1, k0, k2, k3, k4⟩ := E0.own j w x e
        have hq : q ≠ D := fun h => by subst h; exact h3 j w x e k1
        exact ⟨q, k1, k0, k2, by rw [upd_ne hq]; exact k3, k4⟩
    have unlift : ∀ {C0 : Hp} {en : Env'} {s0 : L2.St} {H0 : Hp} {o : HO}, EnvC X.K (upd R D o) C0 en s0 H0 → EnvC X.K R C0 en s0 H0 ∧ H0 D = some o ∧ C0 D = none ∧ NotOwn en s0 D := fun {C0 en s0 H0 o} E0 => by
      refine ⟨⟨E0.len, E0.cH, fun q u e => ?_, fun q e => ?_, E0.dat, fun j w x e => ?_, E0.apart, E0.lk⟩, E0.rH D o upd_same, E0.rc D (by rw [upd_same]; simp), fun j w x e s1 => ?_⟩
      · by_cases h : q = D
        · subst h; rw [rD] at e; cases e
        · exact E0.rH q u (by rw [upd_ne h]; exact e)
      · by_cases h : q = D
        · subst h; exact absurd rD e
        · exact E0.rc q (by rw [upd_ne h]; exact e)
      · obtain ⟨q, k1, k0, k2, k3, k4⟩ := E0.own j w x e
        have hq : q ≠ D := fun h => by subst h; rw [upd_same] at k3; cases k3
        exact ⟨q, k1, k0, k2, by rw [upd_ne hq] at k3; exact k3, k4⟩
      · obtain ⟨q, k1, k0, k2, k3, k4⟩ := E0.own j w x e
        rw [k1] at s1; cases s1
        rw [upd_same] at k3; cases k3
    have E2' := lift (E2.wipe (hu i (Nat.le_of_lt hi))) hH2D cD2 (fun j w x e s1 => nD j w x e (by
      rw [wipe_get] at s1
      split at s1
      · cases q : σ[j]? <;> rw [q] at s1 <;> cases s1
      · exact s1))
    refine ⟨js, xs[i], ev i, F1, jg, _, C2, E2', rw, fun σ3 s3 l3 E3 => ⟨?_, F1, F2, c, jt, _, C2, E3, fun C4 H4 c4 E4 => ?_⟩⟩
    · have := wipe_eq (σ := L2.wipe σ (own.map (·.2))) (σ' := σ3) (vs := own.map (·.2)) l3 fun j hj => s3 j fun h => hj (hjs h)
      rw [this]
      apply List.ext_getElem?
      intro q
      rw [wipe_get, wipe_get]
      split
      · cases σ[q]? <;> rfl
      · rfl
    have fin : ∀ {C5 H5 : Hp} {en : Env'}, Le (ev (i + 1)) en → EnvC X.K (upd R D (.lst acc)) C5 en σ3 H5 → EnvC X.K R C5 (ev (i + 1)) σ H5 ∧ H5 D = some (.lst acc) ∧ C5 D = none ∧ NotOwn (ev (i + 1)) σ D := fun {C5 H5 en} le E5 => by
      have hU := hu (i + 1) hi
      have E5' := (E5.le le).resig (σ' := σ) (by rw [l3, wipe_length]) fun j x e hx => by
        have hj : j ∉ own.map (·.2) := fun h => hx (hU j h x e)
        rw [s3 j (fun h => hj (hjs h)), wipe_get, if_neg hj]
      exact unlift E5'
    cases c with
    | true =>
      dsimp only
      rw [if_pos rfl]
      obtain ⟨F3, z, je, le, eo⟩ := ht rfl
      refine ⟨F2, F3, .d z, je, _, C4, E4, fun y C5 H5 c5 E5 r5 => ?_⟩
      obtain ⟨E6, h6, cD6, no6⟩ := fin le E5
      refine ⟨acc, h6, lnS' (by rw [rp.len]; have := olen i (Nat.le_of_lt hi); have : LN = 16777216 := rfl; have hln' : xs.length ≤ LN := hln; omega), C5, acc ++ [y], (cc.trans c2).trans (c4.trans c5), ?_, upd_same, cD6, rD, no6, by rw [eo]; exact (rp.mono ((c2.trans c4).trans c5)).snoc r5⟩
      -- the list grown: nobody else looks at it
      refine ⟨E6.len, fun q u e => by rw [upd_ne (ne_of_none e cD6)]; exact E6.cH _ _ e, fun q u e => by rw [upd_ne (ne_of_none e rD)]; exact E6.rH _ _ e, E6.rc, E6.dat, fun j w x e => ?_, E6.apart, E6.lk⟩
      obtain ⟨q, k1, k0, k2, k3, k4⟩ := E6.own j w x e
      have hq : q ≠ D := fun h => by subst h; exact no6 j w x e k1
      exact ⟨q, k1, k0, k2, k3, by rw [upd_ne hq]; exact k4⟩
    | false =>
      dsimp only
      rw [if_neg Bool.false_ne_true]
      obtain ⟨le, eo⟩ := hf rfl
      obtain ⟨E6, h6, cD6, no6⟩ := fin le E4
      exact ⟨C4, acc, (cc.trans c2).trans c4, E6, h6, cD6, rD, no6, by rw [eo]; exact rp.mono (c2.trans c4)⟩
  · left
    have ei : i = xs.length := by omega
    subst ei
    exact ⟨st, k (.ref D) C' H' (c1.trans cc) E' ⟨D, rfl, cD, rD, nD, acc, hHD, by rw [rp.len]; exact Nat.le_trans (olen _ (Nat.le_refl _)) hln, rp⟩⟩
theorem je_lcG {tg iter elt : Expr} {ifs : List Expr} {scope : Scope} {xs : List PyData} (own : List (Str × Nat)) (ev : Nat → Env') (outs : Nat → List PyData) (hi : JI T tg iter e0 e1 xs) (hnd : T.N.Nodup) (ok : blkC T.N T.sc scope own = true) (h0 : ev 0 = e1) (o0 : outs 0 = [])
    (hu : ∀ i, i ≤ xs.length → unk (ev i) (own.map (·.2))) (turn : ∀ i d, xs[i]? = some d → LcTurn T scope tg elt ifs (own.map (·.2)) d (ev i) (ev (i + 1)) (outs i) (outs (i + 1))) (hs : ∀ (v : Env) x, foldedSetIterable iter v x = pure x := by intro _ _; rfl) :
    JE T (.ListComp elt [⟨tg, iter, ifs, 0⟩] scope pos) e0 (ev xs.length) (.o (.list (outs xs.length))) := fun X hX =>
  (pe_lc (own := own) (wi := tIJ X.K e0 e1 xs) (g := tTgJ (T.blk scope) X.K tg) (tt := tIfsJ (T.blk scope) X.K ifs) (te := tEltJ (T.blk scope) X.K elt) hX.calm (by rw [hX.N]; exact hnd) (hi X hX) (by rw [hX.N, hX.sc]; exact blkOk_by ok)
    (fun s H C cl fp => ⟨fun pins s1 σ H1 v u Q I r ⟨js, d, F1, F2, jg, q⟩ => (jg _ (hX.blk scope s H C cl fp)).run pins s1 σ H1 v u Q I r q⟩)
    (fun s H C cl fp => ⟨fun pins s1 σ H1 Q I ⟨F1, F2, c, jt, q⟩ => (jt _ (hX.blk scope s H C cl fp)).run pins s1 σ H1 Q I q⟩)
    (fun s H C cl fp => ⟨fun pins s1 σ H1 Q I ⟨F1, F2, r, je, q⟩ => (je _ (hX.blk scope s H C cl fp)).run pins s1 σ H1 Q I q⟩) (hs X.env)).wk (lc_run hX ev outs h0 o0 hu turn)

/-! ### statements -/
inductive Oc where
  | nx (e : Env') | ct (e : Env') | bk (e : Env') | rt (d : Re) (e : Env')
def SatS (K : PySem.W.Frag) (R C : Hp) (D : Ends) : Oc → Prop
  | .nx e => ∀ σ' C' H', Ex C C' → EnvC K R C' e σ' H' → D.nx σ' H'
  | .ct e => ∀ σ' C' H', Ex C C' → EnvC K R C' e σ' H' → D.ct σ' H'
  | .bk e => ∀ σ' C' H', Ex C C' → EnvC K R C' e σ' H' → D.bk σ' H'
  | .rt d e => ∀ v σ' C' H', Ex C C' → EnvC K R C' e σ' H' → Rr K R C' H' e σ' v d → D.rt v H'
theorem SatS.mono {D : Ends} {oc : Oc} (c : Ex C C') (h : SatS K R C D oc) : SatS K R C' D oc := by
  cases oc with
  | nx e => exact fun σ' C2 H' c' E => h σ' C2 H' (c.trans c') E
  | ct e => exact fun σ' C2 H' c' E => h σ' C2 H' (c.trans c') E
  | bk e => exact fun σ' C2 H' c' E => h σ' C2 H' (c.trans c') E
  | rt d e => exact fun v σ' C2 H' c' E => h v σ' C2 H' (c.trans c') E
def tSJ (K : PySem.W.Frag) (env : Env') (oc : Oc) : TS := fun D σ H => ∃ R C, EnvC K R C env σ H ∧ SatS K R C D oc
def JS (T : TC) (st : Stmt) (env : Env') (oc : Oc) : Prop := ∀ X, CT X T → PS X st (tSJ X.K env oc)
def JSs (T : TC) (st : List Stmt) (env : Env') (oc : Oc) : Prop := ∀ X, CT X T → PSs X st (tSJ X.K env oc)
variable {st : Stmt} {rest body : List Stmt} {oc : Oc}
theorem js_le (l : Le e0 env) (h : JSs T rest e0 oc) : JSs T rest env oc := fun X hX => (h X hX).wk fun D σ H ⟨R, C, E, k⟩ => ⟨R, C, E.le l, k⟩
theorem jss_nil : JSs T [] env (.nx env) := fun X hX => pss_nil.wk fun D σ H ⟨R, C, E, k⟩ => k σ C H (Ex.refl C) E
theorem jss_cons (h : JS T st e0 (.nx e1)) (h' : JSs T rest e1 oc) : JSs T (st :: rest) e0 oc := fun X hX => (pss_cons (h X hX) (h' X hX)).wk fun D σ H ⟨R, C, E, k⟩ => ⟨R, C, E, fun σ' C' H' c E' => ⟨R, C', E', k.mono c⟩⟩
theorem jss_rt {d : Re} (h : JS T st e0 (.rt d e1)) : JSs T (st :: rest) e0 (.rt d e1) := fun X hX => (pss_cons (h X hX) pss_never).wk fun D σ H ⟨R, C, E, k⟩ => ⟨R, C, E, k⟩
theorem jss_bk (h : JS T st e0 (.bk e1)) : JSs T (st :: rest) e0 (.bk e1) := fun X hX => (pss_cons (h X hX) pss_never).wk fun D σ H ⟨R, C, E, k⟩ => ⟨R, C, E, k⟩
theorem jss_ct (h : JS T st e0 (.ct e1)) : JSs T (st :: rest) e0 (.ct e1) := fun X hX => (pss_cons (h X hX) pss_never).wk fun D σ H ⟨R, C, E, k⟩ => ⟨R, C, E, k⟩
/-- the end of a block may forget -/
theorem jss_nxle (h : JSs T rest e0 (.nx e1)) (l : Le e2 e1) : JSs T rest e0 (.nx e2) := fun X hX => (h X hX).wk fun D σ H ⟨R, C, E, k⟩ => ⟨R, C, E, fun σ' C' H' c E' => k σ' C' H' c (E'.le l)⟩
theorem js_nxle (h : JS T st e0 (.nx e1)) (l : Le e2 e1) : JS T st e0 (.nx e2) := fun X hX => (h X hX).wk fun D σ H ⟨R, C, E, k⟩ => ⟨R, C, E, fun σ' C' H' c E' => k σ' C' H' c (E'.le l)⟩
theorem jss_rtle {d : PyData} (h : JSs T rest e0 (.rt (.d d) e1)) (l : Le e2 e1) : JSs T rest e0 (.rt (.d d) e2) := fun X hX => (h X hX).wk fun D σ H ⟨R, C, E, k⟩ => ⟨R, C, E, fun v σ' C' H' c E' r => k v σ' C' H' c (E'.le l) r⟩
/-- slot i is known for ever from here on -/
theorem jss_frz {i : Nat} {k0 : Option Addr} (he : env[i]? = some (.o k0 x)) (h : JSs T rest (env.set i (.d x)) oc) : JSs T rest env oc := fun X hX => (pss_lkd (h X hX)).wk fun D σ H ⟨R, C, E, k⟩ => E.frz he fun C' H' c E' => ⟨R, C', E', k.mono c⟩
/-- what is known of a datum's size -/
theorem jss_len {i : Nat} (he : env[i]? = some (.d x)) (h : lenOk x → JSs T rest env oc) : JSs T rest env oc := fun X hX => by
  by_cases q : lenOk x
  · exact h q X hX
  · exact pss_never.wk fun D σ H ⟨R, C, E, k⟩ => by
      obtain ⟨v, _, r⟩ := E.dat i x he
      exact absurd r.lenOk q
theorem js_ret {d : Re} (h : JE T e e0 e1 d) : JS T (.Return (some e) pos) e0 (.rt d e1) := fun X hX => (ps_ret (h X hX)).wk fun D σ H ⟨R, C, E, k⟩ => ⟨R, C, E, fun v C' H' c E' r => k v σ C' H' c E' r⟩
theorem js_retN : JS T (.Return none pos) env (.rt (.d .none) env) := fun X hX => ps_retN.wk fun D σ H ⟨R, C, E, k⟩ => k _ σ C H (Ex.refl C) E .non
theorem js_pass : JS T (.Pass pos) env (.nx env) := fun X hX => ps_pass.wk fun D σ H ⟨R, C, E, k⟩ => k σ C H (Ex.refl C) E
theorem js_break : JS T (.Break pos) env (.bk env) := fun X hX => ps_break.wk fun D σ H ⟨R, C, E, k⟩ => k σ C H (Ex.refl C) E
theorem js_continue : JS T (.Continue pos) env (.ct env) := fun X hX => ps_continue.wk fun D σ H ⟨R, C, E, k⟩ => k σ C H (Ex.refl C) E
theorem js_expr {r : Re} (h : JE T e e0 e1 r) (hs : ∀ (v : Env) l, swapsWith e none l v = pure false := by intro _ _; rfl) : JS T (.Expr e pos) e0 (.nx e1) := fun X hX => (ps_expr (h X hX) (hs X.env pos.line)).wk fun D σ H ⟨R, C, E, k⟩ => ⟨R, C, E, fun v C' H' c E' _ => k σ C' H' c E'⟩
/-- name = value -/
theorem js_set (i : Nat) {nm : Str} {pos' : Pos} {d : PyData} (hnd : T.N.Nodup) (h : JE T e e0 e1 (.d d)) (hN : T.N[i]? = some nm := by rfl) (hl : locB T.sc nm = true := by rfl) (hf : T.fn nm = true ∨ T.sc.names.lookup nm = some .local := by first | exact .inl rfl | exact .inr rfl) (hs : ∀ (v : Env) l, swapsWith e (some (.Name nm pos')) l v = pure false := by intro _ _; rfl) :
    JS T (.Assign [.Name nm pos'] e pos) e0 (.nx (e1.set i (.d d))) := fun X hX =>
  (ps_set (i := i) (by rw [hX.N]; exact hnd) (by rw [hX.N]; exact hN) (by rw [hX.sc]; exact loc_of hl) (h X hX) (hs X.env pos.line) (by rcases hf with h | h; exact .inl (hX.fn _ h); exact .inr (by rw [hX.sc]; exact h))).wk fun D σ H ⟨R, C, E, k⟩ => ⟨R, C, E, fun v C' H' c E' r => k _ C' H' c (E'.set i r)⟩
theorem js_setO (i : Nat) {nm : Str} {pos' : Pos} {d : PyData} (hnd : T.N.Nodup) (h : JE T e e0 e1 (.o d)) (hN : T.N[i]? = some nm := by rfl) (hl : locB T.sc nm = true := by rfl) (hf : T.fn nm = true ∨ T.sc.names.lookup nm = some .local := by first | exact .inl rfl | exact .inr rfl) (hs : ∀ (v : Env) l, swapsWith e (some (.Name nm pos')) l v = pure false := by intro _ _; rfl) :
    JS T (.Assign [.Name nm pos'] e pos) e0 (.nx (e1.set i (.o none d))) := fun X hX =>
  (ps_set (i := i) (by rw [hX.N]; exact hnd) (by rw [hX.N]; exact hN) (by rw [hX.sc]; exact loc_of hl) (h X hX) (hs X.env pos.line) (by rcases hf with h | h; exact .inl (hX.fn _ h); exact .inr (by rw [hX.sc]; exact h))).wk fun D σ H ⟨R, C, E, k⟩ => ⟨R, C, E, fun v C' H' c E' ⟨p, ev, cp, rp, no, ow⟩ => by
    subst ev
    exact k _ C' H' c (E'.setO i cp rp no ow)⟩
/-- name = [..], the name a local -/
theorem js_setLcG (i : Nat) {nm : Str} {py : Pos} {tg iter elt : Expr} {ifs : List Expr} {scope : Scope} {xs : List PyData} {spos : Pos} (own : List (Str × Nat)) (ev : Nat → Env') (outs : Nat → List PyData) (hi : JI T tg iter e0 e1 xs) (hnd : T.N.Nodup) (ok : blkC T.N T.sc scope own = true) (h0 : ev 0 = e1) (o0 : outs 0 = [])
    (hu : ∀ i, i ≤ xs.length → unk (ev i) (own.map (·.2))) (turn : ∀ i d, xs[i]? = some d → LcTurn T scope tg elt ifs (own.map (·.2)) d (ev i) (ev (i + 1)) (outs i) (outs (i + 1))) (hN : T.N[i]? = some nm := by rfl) (hl : T.sc.names.lookup nm = some .local := by rfl) (hk : T.sc.kind = .function := by rfl) (hpl : (py.line == pos.line) = true := by rfl) (ha : (scope.names.any fun (n, k) => n == nm && (k == .local || k == .cell)) = false := by decide +kernel) (hs : ∀ (v : Env) x, foldedSetIterable iter v x = pure x := by intro _ _; rfl) :
    JS T (.Assign [.Name nm py] (.ListComp elt [⟨tg, iter, ifs, 0⟩] scope pos) spos) e0 (.nx ((ev xs.length).set i (.o none (.list (outs xs.length))))) := fun X hX =>
  (ps_setLc (i := i) (own := own) (wi := tIJ X.K e0 e1 xs) (g := tTgJ (T.blk scope) X.K tg) (tt := tIfsJ (T.blk scope) X.K ifs) (te := tEltJ (T.blk scope) X.K elt) hX.calm (by rw [hX.N]; exact hnd) (by rw [hX.N]; exact hN) (by rw [hX.sc]; exact hl)
    (sw_true (by rw [hX.sc]; exact hk) (by rw [hX.sc]; exact hl) hpl ha) (hi X hX) (by rw [hX.N, hX.sc]; exact blkOk_by ok)
    (fun s H C cl fp => ⟨fun pins s1 σ H1 v u Q I r ⟨js, d, F1, F2, jg, q⟩ => (jg _ (hX.blk scope s H C cl fp)).run pins s1 σ H1 v u Q I r q⟩)
    (fun s H C cl fp => ⟨fun pins s1 σ H1 Q I ⟨F1, F2, c, jt, q⟩ => (jt _ (hX.blk scope s H C cl fp)).run pins s1 σ H1 Q I q⟩)
    (fun s H C cl fp => ⟨fun pins s1 σ H1 Q I ⟨F1, F2, r, je, q⟩ => (je _ (hX.blk scope s H C cl fp)).run pins s1 σ H1 Q I q⟩) (hs X.env)).wk fun D σ H ⟨R, C, E, k⟩ =>
      lc_run hX ev outs h0 o0 hu turn σ H _ ⟨R, C, E, fun v C' H' c E' ⟨p, evv, cp, rp, no, ow⟩ => by
        subst evv
        exact k _ C' H' c (E'.setO i cp rp no ow)⟩
end
end J
namespace J
open PySem L2 PySem.Spec PyProof.Rows
section
variable {T : TC} {a b e : Expr} {es : List Expr} {env e0 e1 e2 e3 : Env'} {pos p : Pos} {x y z : PyData} {ds : List PyData} {K : PySem.W.Frag} {R C C' H H' : Hp} {σ σ' : L2.St} {v : V} {st : Stmt} {rest body A B : List Stmt} {oc : Oc}

/-! ### if -/
theorem js_if {c : Bool} (ht : JT T e e0 e1 c) (ha : c = true → JSs T A e1 oc) (hb : c = false → JSs T B e1 oc) : JS T (.If e A B pos) e0 oc := fun X hX => by
  cases c with
  | true => exact (ps_if (ht X hX) (ha rfl X hX) pss_never).wk fun D σ H ⟨R, C, E, k⟩ => ⟨R, C, E, fun C' H' c E' => ⟨R, C', E', k.mono c⟩⟩
  | false => exact (ps_if (ht X hX) pss_never (hb rfl X hX)).wk fun D σ H ⟨R, C, E, k⟩ => ⟨R, C, E, fun C' H' c E' => ⟨R, C', E', k.mono c⟩⟩
/-- both ways meet -/
theorem js_ifn {L : Type} (E : L → Env') {c : Bool} {l l' : L} (ht : JT T e e0 e1 c) (ha : c = true → ∃ eA, JSs T A e1 (.nx eA) ∧ Le (E l) eA) (hb : c = false → ∃ eB, JSs T B e1 (.nx eB) ∧ Le (E l') eB) : JS T (.If e A B pos) e0 (.nx (E (if c = true then l else l'))) := by
  refine js_if ht (fun h => ?_) (fun h => ?_)
  · obtain ⟨eA, h1, h2⟩ := ha h
    rw [if_pos h]; exact jss_nxle h1 h2
  · obtain ⟨eA, h1, h2⟩ := hb h
    rw [if_neg (by rw [h]; exact Bool.false_ne_true)]; exact jss_nxle h1 h2
/-- a block that returns: its result r, told by cr and er -/
def JB (T : TC) {ρ : Type} (cr : ρ → PyData) (er : ρ → Env') (sts : List Stmt) (env : Env') (r : ρ) : Prop := JSs T sts env (.rt (.d (cr r)) (er r))
section
variable {ρ : Type} {cr : ρ → PyData} {er : ρ → Env'}
theorem jb_ret {r : ρ} (h : JE T e e0 e1 (.d (cr r))) (l : Le (er r) e1) : JB T cr er (.Return (some e) pos :: rest) e0 r := jss_rt (fun X hX => (js_ret h X hX).wk fun D σ H ⟨R, C, E, k⟩ => ⟨R, C, E, fun v σ' C' H' c E' r' => k v σ' C' H' c (E'.le l) r'⟩)
theorem jb_cons {r : ρ} (h : JS T st e0 (.nx e1)) (h' : JB T cr er rest e1 r) : JB T cr er (st :: rest) e0 r := jss_cons h h'
theorem jb_le {r : ρ} (l : Le e0 env) (h : JB T cr er rest e0 r) : JB T cr er rest env r := js_le l h
theorem jb_is {r r' : ρ} (h : JB T cr er rest e0 r) (q : r = r') : JB T cr er rest e0 r' := q ▸ h
/-- if t: .. return, then the rest -/
theorem jb_ifr {c : Bool} {r r' : ρ} (ht : JT T e e0 e1 c) (ha : c = true → JB T cr er A e1 r) (hb : c = false → JB T cr er rest e1 r') : JB T cr er (.If e A [] pos :: rest) e0 (if c = true then r else r') := by
  cases c with
  | true =>
    rw [if_pos rfl]
    exact jss_rt (js_if ht (fun _ => ha rfl) (fun h => by cases h))
  | false =>
    rw [if_neg Bool.false_ne_true]
    exact jss_cons (js_if ht (fun h => by cases h) (fun _ => jss_nil)) (hb rfl)
/-- both ways return -/
theorem jb_if2 {c : Bool} {r r' : ρ} (ht : JT T e e0 e1 c) (ha : c = true → JB T cr er A e1 r) (hb : c = false → JB T cr er B e1 r') : JB T cr er (.If e A B pos :: rest) e0 (if c = true then r else r') := by
  refine jss_rt (js_if ht (fun h => ?_) (fun h => ?_))
  · rw [if_pos h]; exact ha h
  · rw [if_neg (by rw [h]; exact Bool.false_ne_true)]; exact hb h
end

/-! ### loops -/
def LoopGo (oc : Oc) (e : Env') : Prop := ∃ e', Le e e' ∧ (oc = .nx e' ∨ oc = .ct e')
theorem LoopGo.nx {e e' : Env'} (l : Le e e') : LoopGo (.nx e') e := ⟨e', l, .inl rfl⟩
theorem LoopGo.ct {e e' : Env'} (l : Le e e') : LoopGo (.ct e') e := ⟨e', l, .inr rfl⟩
def tBodyJ (T : TC) (K : PySem.W.Frag) (body : List Stmt) : TS := fun D σ H => ∃ E1 oc, JSs T body E1 oc ∧ tSJ K E1 oc D σ H
theorem body_ps {X : Cx} (hX : CT X T) : PSs X body (tBodyJ T X.K body) := ⟨fun pins s σ H D I ⟨E1, oc, h, q⟩ => (h X hX).run pins s σ H D I q⟩
/-- the loop: n whole turns, then the end, a break or a return -/
theorem js_forG {tg iter : Expr} {xs : List PyData} (ev : Nat → Env') (n : Nat) (hi : JI T tg iter e0 e1 xs) (h0 : Le (ev 0) e1) (hn : n ≤ xs.length)
    (turn : ∀ i d, i < n → xs[i]? = some d → ∃ js E1 oc, JG T tg js d (ev i) E1 ∧ JSs T body E1 oc ∧ LoopGo oc (ev (i + 1)))
    (fin : (n = xs.length ∧ oc = .nx (ev n)) ∨ ∃ d js E1 oc', xs[n]? = some d ∧ JG T tg js d (ev n) E1 ∧ JSs T body E1 oc' ∧ ((∃ r e, oc' = .rt r e ∧ oc = .rt r e) ∨ ∃ e, oc' = .bk e ∧ oc = .nx e))
    (hs : ∀ (v : Env) x, foldedSetIterable iter v x = pure x := by intro _ _; rfl) : JS T (.For tg iter body [] pos) e0 oc := fun X hX =>
  (ps_for (g := tTgJ T X.K tg) (tb := tBodyJ T X.K body) hX.pass hX.calm (hi X hX) ⟨fun pins s1 σ H1 v u Q I r ⟨js, d, F1, F2, jg, q⟩ => (jg _ hX).run pins s1 σ H1 v u Q I r q⟩ (body_ps hX) (hs X.env)).wk fun D σ H ⟨R, C, E, k⟩ => ⟨R, C, E, fun J C1 H1 c1 E1 hln io => by
    refine ⟨fun i m σ' H' => i + m = xs.length ∧ i ≤ n ∧ ∃ C', Ex C1 C' ∧ EnvC X.K R C' (ev i) σ' H', ⟨xs.length, by omega, Nat.zero_le _, C1, Ex.refl _, E1.le h0⟩, ?_⟩
    rintro i m σ' H' ⟨him, hin, C', cc, E'⟩
    obtain ⟨st, go⟩ := io C' (ev i) σ' H' cc E'
    by_cases hi : i < n
    · right
      have hx : i < xs.length := by omega
      obtain ⟨g1, g2⟩ := go i xs[i] (List.getElem?_eq_getElem hx)
      refine ⟨g1, fun σ2 H2 => ∃ C2, Ex C1 C2 ∧ EnvC X.K R C2 (ev (i + 1)) σ2 H2, fun σ2 H2 ⟨C2, c2, E2⟩ => ⟨m - 1, by omega, by omega, by omega, C2, c2, E2⟩, fun w H2 hy => ?_⟩
      obtain ⟨C2, c2, E2, n1, n2, n3, rw⟩ := g2 w H2 hy
      obtain ⟨js, F1, oc1, jg, jb, lg⟩ := turn i xs[i] hi (List.getElem?_eq_getElem hx)
      refine ⟨js, xs[i], ev i, F1, jg, R, C2, E2, rw, fun σ3 s3 l3 E3 => ⟨F1, oc1, jb, R, C2, E3, ?_⟩⟩
      obtain ⟨e', le, h | h⟩ := lg
      · subst h
        exact fun σ4 C4 H4 c4 E4 => ⟨C4, (cc.trans c2).trans c4, E4.le le⟩
      · subst h
        exact fun σ4 C4 H4 c4 E4 => ⟨C4, (cc.trans c2).trans c4, E4.le le⟩
    · have ei : i = n := by omega
      subst ei
      rcases fin with ⟨hl, ho⟩ | ⟨d, js, F1, oc', hd, jg, jb, h⟩
      · left
        subst ho
        exact ⟨by rw [hl]; exact st, k σ' C' H' (c1.trans cc) E'⟩
      · right
        obtain ⟨g1, g2⟩ := go i d hd
        refine ⟨g1, fun _ _ => False, fun _ _ h => h.elim, fun w H2 hy => ?_⟩
        obtain ⟨C2, c2, E2, n1, n2, n3, rw⟩ := g2 w H2 hy
        refine ⟨js, d, ev i, F1, jg, R, C2, E2, rw, fun σ3 s3 l3 E3 => ⟨F1, oc', jb, R, C2, E3, ?_⟩⟩
        have cc3 : Ex C C2 := (c1.trans cc).trans c2
        rcases h with ⟨r, e, h1, h2⟩ | ⟨e, h1, h2⟩
        · subst h1; subst h2
          exact fun v σ4 C4 H4 c4 E4 r4 => k v σ4 C4 H4 (cc3.trans c4) E4 r4
        · subst h1; subst h2
          exact fun σ4 C4 H4 c4 E4 => k σ4 C4 H4 (cc3.trans c4) E4⟩
theorem take_get {α : Type} {xs : List α} {i : Nat} {x : α} (h : xs[i]? = some x) : xs.take (i + 1) = xs.take i ++ [x] := by
  rw [List.take_add_one, h]; rfl
/-- a loop that goes through -/
theorem js_for {α L : Type} {enc : α → PyData} {tg iter : Expr} {xs : List α} (E : L → Env') (step : L → α → L) (l0 : L) (hi : JI T tg iter e0 e1 (xs.map enc)) (h0 : Le (E l0) e1)
    (turn : ∀ i x l, xs[i]? = some x → l = (xs.take i).foldl step l0 → ∃ js E1 oc, JG T tg js (enc x) (E l) E1 ∧ JSs T body E1 oc ∧ LoopGo oc (E (step l x)))
    (hs : ∀ (v : Env) x, foldedSetIterable iter v x = pure x := by intro _ _; rfl) : JS T (.For tg iter body [] pos) e0 (.nx (E (xs.foldl step l0))) := by
  refine js_forG (fun i => E ((xs.take i).foldl step l0)) (xs.map enc).length hi (by simpa using h0) (Nat.le_refl _) (fun i d hn hd => ?_) (.inl ⟨rfl, ?_⟩) hs
  · rw [List.getElem?_map] at hd
    cases q : xs[i]? with
    | none => rw [q] at hd; cases hd
    | some x =>
      rw [q] at hd
      cases hd
      obtain ⟨js, E1, oc, h1, h2, h3⟩ := turn i x _ q rfl
      refine ⟨js, E1, oc, h1, h2, ?_⟩
      rw [take_get q, List.foldl_append]
      exact h3
  · rw [List.length_map, List.take_length]
/-- a loop that may return -/
def forR {α L ρ : Type} (step : L → α → L ⊕ ρ) : L → List α → L ⊕ ρ
  | l, [] => .inl l
  | l, x :: xs => match step l x with
    | .inl l' => forR step l' xs
    | .inr r => .inr r
theorem forR_snoc {α L ρ : Type} (step : L → α → L ⊕ ρ) : ∀ (xs : List α) (l : L) (x : α), forR step l (xs ++ [x]) = match forR step l xs with
    | .inl l' => step l' x
    | .inr r => .inr r
  | [], l, x => by
    simp only [List.nil_append, forR]
    cases step l x <;> rfl
  | y :: xs, l, x => by
    simp only [List.cons_append, forR]
    cases step l y with
    | inl l' => exact forR_snoc step xs l' x
    | inr r => rfl
theorem forR_ret {α L ρ : Type} (step : L → α → L ⊕ ρ) : ∀ (xs : List α) (l : L) (r : ρ), forR step l xs = .inr r → ∃ n x l', xs[n]? = some x ∧ forR step l (xs.take n) = .inl l' ∧ step l' x = .inr r
  | [], l, r, h => by simp [forR] at h
  | y :: xs, l, r, h => by
    simp only [forR] at h
    cases q : step l y with
    | inl l' =>
      rw [q] at h
      obtain ⟨n, x, l2, h1, h2, h3⟩ := forR_ret step xs l' r h
      refine ⟨n + 1, x, l2, by simpa using h1, ?_, h3⟩
      simp only [List.take_succ_cons, forR, q]
      exact h2
    | inr r' =>
      rw [q] at h
      cases h
      exact ⟨0, y, l, rfl, rfl, q⟩
theorem forR_take {α L ρ : Type} (step : L → α → L ⊕ ρ) : ∀ (xs : List α) (l l' : L) (n : Nat), forR step l xs = .inl l' → ∃ l2, forR step l (xs.take n) = .inl l2
  | [], l, l', n, h => ⟨l, by rw [List.take_nil]; rfl⟩
  | y :: xs, l, l', 0, h => ⟨l, rfl⟩
  | y :: xs, l, l', n + 1, h => by
    simp only [forR, List.take_succ_cons] at h ⊢
    cases q : step l y with
    | inl l2 => rw [q] at h; exact forR_take step xs l2 l' n h
    | inr r => rw [q] at h; cases h
def ocR {L ρ : Type} (E : L → Env') (cr : ρ → PyData) (er : ρ → Env') : L ⊕ ρ → Oc
  | .inl l => .nx (E l)
  | .inr r => .rt (.d (cr r)) (er r)
theorem js_forR {α L ρ : Type} {enc : α → PyData} {tg iter : Expr} {xs : List α} (cr : ρ → PyData) (er : ρ → Env') (E : L → Env') (step : L → α → L ⊕ ρ) (l0 : L) (hi : JI T tg iter e0 e1 (xs.map enc)) (h0 : Le (E l0) e1)
    (turn : ∀ i x l, xs[i]? = some x → forR step l0 (xs.take i) = .inl l → ∃ js E1 oc, JG T tg js (enc x) (E l) E1 ∧ JSs T body E1 oc ∧ ((∃ l', step l x = .inl l' ∧ LoopGo oc (E l')) ∨ ∃ r, step l x = .inr r ∧ oc = .rt (.d (cr r)) (er r)))
    (hs : ∀ (v : Env) x, foldedSetIterable iter v x = pure x := by intro _ _; rfl) : JS T (.For tg iter body [] pos) e0 (ocR E cr er (forR step l0 xs)) := by
  have main : ∀ n, n ≤ xs.length → (∃ l, forR step l0 (xs.take n) = .inl l) → ∀ i d, i < n → (xs.map enc)[i]? = some d → ∃ js E1 oc, JG T tg js d ((fun i => match forR step l0 (xs.take i) with | .inl l => E l | .inr _ => []) i) E1 ∧ JSs T body E1 oc ∧ LoopGo oc ((fun i => match forR step l0 (xs.take i) with | .inl l => E l | .inr _ => []) (i + 1)) := fun n hn ⟨ln, hl⟩ i d hi hd => by
    rw [List.getElem?_map] at hd
    cases q : xs[i]? with
    | none => rw [q] at hd; cases hd
    | some x =>
      rw [q] at hd
      cases hd
      obtain ⟨l2, h2⟩ := forR_take step (xs.take n) l0 ln i hl
      rw [List.take_take, Nat.min_eq_left (Nat.le_of_lt hi)] at h2
      obtain ⟨l3, h3⟩ := forR_take step (xs.take n) l0 ln (i + 1) hl
      rw [List.take_take, Nat.min_eq_left hi] at h3
      have e3 := h3
      rw [take_get q, forR_snoc, h2] at e3
      obtain ⟨js, E1, oc, k1, k2, k3⟩ := turn i x l2 q h2
      refine ⟨js, E1, oc, by simp only [h2]; exact k1, k2, ?_⟩
      simp only [h3]
      rcases k3 with ⟨l', k4, k5⟩ | ⟨r, k4, _⟩
      · simp only at e3
        rw [k4] at e3; cases e3; exact k5
      · simp only at e3
        rw [k4] at e3; cases e3
  cases q : forR step l0 xs with
  | inl l =>
    refine js_forG (fun i => match forR step l0 (xs.take i) with | .inl l => E l | .inr _ => []) xs.length hi (by simpa [forR] using h0) (by simp) (main xs.length (Nat.le_refl _) ⟨l, by rw [List.take_length]; exact q⟩) (.inl ⟨by simp, ?_⟩) hs
    simp only [List.take_length, q]
    rfl
  | inr r =>
    obtain ⟨n, x, l', h1, h2, h3⟩ := forR_ret step xs l0 r q
    have hn : n < xs.length := (List.getElem?_eq_some_iff.mp h1).1
    refine js_forG (fun i => match forR step l0 (xs.take i) with | .inl l => E l | .inr _ => []) n hi (by simpa [forR] using h0) (by simp; omega) (main n (Nat.le_of_lt hn) ⟨l', h2⟩) (.inr ?_) hs
    obtain ⟨js, E1, oc, k1, k2, k3⟩ := turn n x l' h1 h2
    refine ⟨enc x, js, E1, oc, by rw [List.getElem?_map, h1]; rfl, by simp only [h2]; exact k1, k2, .inl ?_⟩
    rcases k3 with ⟨l2, k4, _⟩ | ⟨r', k4, k5⟩
    · rw [h3] at k4; cases k4
    · rw [h3] at k4; cases k4
      exact ⟨.d (cr r), er r, k5, rfl⟩
section
variable {ρ L : Type} {cr : ρ → PyData} {er : ρ → Env'}
/-- behind a statement that may return -/
def orR {L ρ : Type} (o : L ⊕ ρ) (k : L → ρ) : ρ := match o with
  | .inl l => k l
  | .inr r => r
theorem jb_or {E : L → Env'} {o : L ⊕ ρ} {k : L → ρ} (h : JS T st e0 (ocR E cr er o)) (h' : ∀ l, o = .inl l → JB T cr er rest (E l) (k l)) : JB T cr er (st :: rest) e0 (orR o k) := by
  cases o with
  | inl l => exact jss_cons h (h' l rfl)
  | inr r => exact jss_rt h
/-- blocks that may return: the body of a loop -/
def JM (T : TC) (E : L → Env') (cr : ρ → PyData) (er : ρ → Env') (sts : List Stmt) (env : Env') (o : L ⊕ ρ) : Prop := ∃ oc, JSs T sts env oc ∧ ((∃ l', o = .inl l' ∧ ∃ e', oc = .nx e' ∧ Le (E l') e') ∨ ∃ r, o = .inr r ∧ oc = .rt (.d (cr r)) (er r))
variable {E : L → Env'}
theorem jm_nil {l : L} (h : Le (E l) env) : JM T E cr er [] env (.inl l) := ⟨_, jss_nil, .inl ⟨l, rfl, _, rfl, h⟩⟩
theorem jm_cons {o : L ⊕ ρ} (h : JS T st e0 (.nx e1)) (h' : JM T E cr er rest e1 o) : JM T E cr er (st :: rest) e0 o := by
  obtain ⟨oc, h1, h2⟩ := h'
  exact ⟨oc, jss_cons h h1, h2⟩
theorem jm_b {r : ρ} (h : JB T cr er rest e0 r) : JM T E cr er rest e0 (.inr r) := ⟨_, h, .inr ⟨r, rfl, rfl⟩⟩
theorem jm_le {o : L ⊕ ρ} (l : Le e0 env) (h : JM T E cr er rest e0 o) : JM T E cr er rest env o := by
  obtain ⟨oc, h1, h2⟩ := h
  exact ⟨oc, js_le l h1, h2⟩
theorem jm_is {o o' : L ⊕ ρ} (h : JM T E cr er rest e0 o) (q : o = o') : JM T E cr er rest e0 o' := q ▸ h
theorem jm_ifr {c : Bool} {r : ρ} {o : L ⊕ ρ} (ht : JT T e e0 e1 c) (ha : c = true → JB T cr er A e1 r) (hb : c = false → JM T E cr er rest e1 o) : JM T E cr er (.If e A [] pos :: rest) e0 (if c = true then .inr r else o) := by
  cases c with
  | true =>
    rw [if_pos rfl]
    exact jm_b (jss_rt (js_if ht (fun _ => ha rfl) (fun h => by cases h)))
  | false =>
    rw [if_neg Bool.false_ne_true]
    exact jm_cons (js_if ht (fun h => by cases h) (fun _ => jss_nil)) (hb rfl)
/-- the last statement of a loop's body -/
theorem jm_if2 {c : Bool} {o o' : L ⊕ ρ} (ht : JT T e e0 e1 c) (ha : c = true → JM T E cr er A e1 o) (hb : c = false → JM T E cr er B e1 o') : JM T E cr er [.If e A B pos] e0 (if c = true then o else o') := by
  cases c with
  | true =>
    rw [if_pos rfl]
    obtain ⟨oc, h1, h2⟩ := ha rfl
    refine ⟨oc, ?_, h2⟩
    rcases h2 with ⟨l', _, e', h, _⟩ | ⟨r, _, h⟩
    · subst h; exact jss_cons (js_if ht (fun _ => h1) (fun h => by cases h)) jss_nil
    · subst h; exact jss_rt (js_if ht (fun _ => h1) (fun h => by cases h))
  | false =>
    rw [if_neg Bool.false_ne_true]
    obtain ⟨oc, h1, h2⟩ := hb rfl
    refine ⟨oc, ?_, h2⟩
    rcases h2 with ⟨l', _, e', h, _⟩ | ⟨r, _, h⟩
    · subst h; exact jss_cons (js_if ht (fun h => by cases h) (fun _ => h1)) jss_nil
    · subst h; exact jss_rt (js_if ht (fun h => by cases h) (fun _ => h1))
/-- an if that may return -/
theorem js_ifM {c : Bool} {o o' : L ⊕ ρ} (ht : JT T e e0 e1 c) (ha : c = true → JM T E cr er A e1 o) (hb : c = false → JM T E cr er B e1 o') : JS T (.If e A B pos) e0 (ocR E cr er (if c = true then o else o')) := by
  cases c with
  | true =>
    rw [if_pos rfl]
    obtain ⟨oc, h1, h2⟩ := ha rfl
    rcases h2 with ⟨l', h3, e', h, le⟩ | ⟨r, h3, h⟩
    · subst h; subst h3; exact js_nxle (js_if ht (fun _ => h1) (fun h => by cases h)) le
    · subst h; subst h3; exact js_if ht (fun _ => h1) (fun h => by cases h)
  | false =>
    rw [if_neg Bool.false_ne_true]
    obtain ⟨oc, h1, h2⟩ := hb rfl
    rcases h2 with ⟨l', h3, e', h, le⟩ | ⟨r, h3, h⟩
    · subst h; subst h3; exact js_nxle (js_if ht (fun h => by cases h) (fun _ => h1)) le
    · subst h; subst h3; exact js_if ht (fun h => by cases h) (fun _ => h1)
/-- a statement that may return, within such a block -/
theorem jm_or {L' : Type} {E' : L' → Env'} {o : L' ⊕ ρ} {k : L' → L ⊕ ρ} (h : JS T st e0 (ocR E' cr er o)) (h' : ∀ l, o = .inl l → JM T E cr er rest (E' l) (k l)) : JM T E cr er (st :: rest) e0 (match o with | .inl l => k l | .inr r => .inr r) := by
  cases o with
  | inl l => exact jm_cons h (h' l rfl)
  | inr r => exact jm_b (jss_rt h)
end

/-! ### while -/
def whileR {L ρ : Type} (c : L → Bool) (step : L → L ⊕ ρ) : Nat → L → L ⊕ ρ
  | 0, l => .inl l
  | n + 1, l => if c l = true then (match step l with
    | .inl l' => whileR c step n l'
    | .inr r => .inr r) else .inl l
/-- it ends within n turns -/
def whileEnds {L ρ : Type} (c : L → Bool) (step : L → L ⊕ ρ) : Nat → L → Prop
  | 0, l => c l = false
  | n + 1, l => c l = true → ∀ l', step l = .inl l' → whileEnds c step n l'
/-- what a loop comes to -/
inductive Reach {L ρ : Type} (c : L → Bool) (step : L → L ⊕ ρ) (l0 : L) : L → Prop
  | z : Reach c step l0 l0
  | s {l l' : L} : Reach c step l0 l → c l = true → step l = .inl l' → Reach c step l0 l'
theorem js_whileR {L ρ : Type} {test : Expr} (cr : ρ → PyData) (er : ρ → Env') (E : L → Env') (c : L → Bool) (step : L → L ⊕ ρ) (n : Nat) (l0 : L) (h0 : Le (E l0) env) (ends : whileEnds c step n l0)
    (ht : ∀ l, Reach c step l0 l → JT T test (E l) (E l) (c l))
    (turn : ∀ l, Reach c step l0 l → c l = true → JM T E cr er body (E l) (step l)) : JS T (.While test body [] pos) env (ocR E cr er (whileR c step n l0)) := fun X hX =>
  (ps_while (tc := fun σ H Q => ∃ l, (JT T test (E l) (E l) (c l)) ∧ tTJ X.K (E l) (E l) (c l) σ H Q) (tb := tBodyJ T X.K body) hX.pass ⟨fun pins s σ H Q I ⟨l, h, q⟩ => (h X hX).run pins s σ H Q I q⟩ (body_ps hX)).wk fun D σ H ⟨R, C, E', k⟩ => by
    refine ⟨fun m σ' H' => ∃ l C', Ex C C' ∧ EnvC X.K R C' (E l) σ' H' ∧ Reach c step l0 l ∧ whileEnds c step m l ∧ whileR c step m l = whileR c step n l0, ⟨n, l0, C, Ex.refl C, E'.le h0, .z, ends, rfl⟩, ?_⟩
    rintro m σ' H' ⟨l, C', cc, E1, hr, he, ew⟩
    refine ⟨l, ht l hr, R, C', E1, fun C2 H2 c2 E2 => ?_⟩
    cases q : c l with
    | false =>
      rw [if_neg Bool.false_ne_true]
      have : whileR c step m l = .inl l := by
        cases m with
        | zero => rfl
        | succ m => simp only [whileR, q]; rfl
      rw [← ew, this] at k
      exact k σ' C2 H2 (cc.trans c2) E2
    | true =>
      rw [if_pos rfl]
      cases m with
      | zero => have he' : c l = false := he; rw [he'] at q; cases q
      | succ m =>
        obtain ⟨oc, jb, h⟩ := turn l hr q
        simp only [whileR, q, if_true] at ew
        refine ⟨fun σ3 H3 => ∃ l2 C3, Ex C C3 ∧ EnvC X.K R C3 (E l2) σ3 H3 ∧ Reach c step l0 l2 ∧ whileEnds c step m l2 ∧ whileR c step m l2 = whileR c step n l0, fun σ3 H3 h3 => ⟨m, Nat.lt_succ_self m, h3⟩, E l, oc, jb, R, C2, E2, ?_⟩
        rcases h with ⟨l', hs, e', h, le⟩ | ⟨r, hs, h⟩
        · subst h
          rw [hs] at ew
          exact fun σ4 C4 H4 c4 E4 => ⟨l', C4, (cc.trans c2).trans c4, E4.le le, hr.s q hs, he q l' hs, ew⟩
        · subst h
          rw [hs] at ew
          rw [← ew] at k
          exact fun v σ4 C4 H4 c4 E4 r4 => k v σ4 C4 H4 ((cc.trans c2).trans c4) E4 r4
/-- a while that only goes on -/
def whileL {L : Type} (c : L → Bool) (step : L → L) : Nat → L → L
  | 0, l => l
  | n + 1, l => if c l = true then whileL c step n (step l) else l
theorem whileR_L {L ρ : Type} (c : L → Bool) (step : L → L) : ∀ (n : Nat) (l : L), whileR (ρ := ρ) c (fun l => .inl (step l)) n l = .inl (whileL c step n l)
  | 0, l => rfl
  | n + 1, l => by
    simp only [whileR, whileL]
    split
    · exact whileR_L c step n (step l)
    · rfl
theorem js_while {L : Type} {test : Expr} (E : L → Env') (c : L → Bool) (step : L → L) (n : Nat) (l0 : L) (h0 : Le (E l0) env) (ends : whileEnds (ρ := PyData) c (fun l => .inl (step l)) n l0)
    (ht : ∀ l, Reach (ρ := PyData) c (fun l => .inl (step l)) l0 l → JT T test (E l) (E l) (c l))
    (turn : ∀ l, Reach (ρ := PyData) c (fun l => .inl (step l)) l0 l → c l = true → JM T E (fun d : PyData => d) (fun _ => []) body (E l) (.inl (step l))) : JS T (.While test body [] pos) env (.nx (E (whileL c step n l0))) := by
  have := js_whileR (ρ := PyData) (pos := pos) (fun d => d) (fun _ => []) E c (fun l => .inl (step l)) n l0 h0 ends ht turn
  rw [whileR_L] at this
  exact this
end
end J
namespace J
open PySem L2 PySem.Spec PyProof.Rows
section
variable {T : TC} {a b e : Expr} {es : List Expr} {env e0 e1 e2 e3 : Env'} {pos p : Pos} {x y z : PyData} {ds : List PyData} {K : PySem.W.Frag} {R C C' H H' : Hp} {σ σ' : L2.St} {v : V} {st : Stmt} {rest body : List Stmt} {oc : Oc}

/-! ### lists that change -/
/-- the facts of a method call's arguments -/
structure PlainM (o : Expr) (nm : Str) (apos : Pos) (e : Expr) (es : List Expr) (cpos : Pos) : Prop where
  base : ∀ v : Env, attributeBase o nm v (eval o v) = eval o v
  few : ∀ v : Env, ((backTo cpos (starEach (e :: es) v)).all (fun x => !x.1) && (backToKw cpos (keywordEach [] v)).all (fun x => x.1.isSome)
      && decide ((e :: es).length + ([] : List Keyword).length + (if ([] : List Keyword).isEmpty then 0 else 1) < 30)) = true
  line : (apos.endLine == cpos.line) = true
  hs : ∀ v : Env, starEach (e :: es) v = (false, eval e v) :: starEach es v
  plain : ∀ v : Env, (backTo cpos (starEach es v)).any (·.1) = false
/-- a method of a built-in type that changes the object that slot i owns -/
theorem je_mo {Ty id : String} {nm mt : Str} {r : V → List V → Hp → VK → Prop} {apos np : Pos} (i : Nat) {d d' : PyData} {w : PyData} {k0 : Option Addr} (pa : PlainAttrs Ty) (slot : Slot Ty mt id) (hty : typeOf (.builtin id) = pure (.type "method_descriptor")) (hm : ∀ X, CT X T → MtR X id r)
    (hN : T.N[i]? = some nm) (hv : visB T.sc nm = true) (h0 : ∃ d0, e0[i]? = some (.o k0 d0)) (ha : JA T (e :: es) e0 e1 ds) (he : e1[i]? = some (.o k0 d)) (ty : ∀ C H p, Ow T.K C (H p) d → tyV T.K Ty (.ref p) H)
    (ho : ∀ R C H σ p vs (Q : VK), EnvC T.K R C e1 σ H → σ[i]? = some (some (.ref p)) → C p = none → R p = none → Ow T.K C (H p) d → Rps T.K C vs ds →
      (∀ w' C' H', Ex C C' → EnvC T.K R C' (e1.set i (.o k0 d')) σ H' → Rp T.K C' w' w → Q w' H') → r (.ref p) vs H Q)
    (hp : PlainM (.Name nm np) mt apos e es pos := by exact ⟨fun _ => rfl, fun _ => rfl, rfl, fun _ => rfl, fun _ => rfl⟩) (ty0 : ∀ (H : Hp) p d0, (∃ C, Ow T.K C (H p) d0) → tyV T.K Ty (.ref p) H)
    (hd : (nm == ("__debug__" : Str)) = false := by decide) (hcd : (nm == ("__classdict__" : Str)) = false := by decide) :
    JE T (.Call (.Attribute (.Name nm np) mt apos) (e :: es) [] pos) e0 (e1.set i (.o k0 d')) (.d w) := fun X hX =>
  (pe_bm pa slot hty (hm X hX) (pe_var (i := i) (by rw [hX.N]; exact hN) (by rw [hX.sc]; exact vis_of hv) hd hcd) (ha X hX) (hp.base X.env) (hp.few X.env) hp.line (hp.hs X.env) (hp.plain X.env)).wk fun σ H Q ⟨R, C, E, k⟩ => by
    rw [hX.K] at *
    obtain ⟨d0, h0⟩ := h0
    obtain ⟨p, s0, _, _, _, ow0⟩ := E.own i k0 d0 h0
    refine ⟨.ref p, s0, ty0 H p d0 ⟨C, ow0⟩, R, C, E, fun vs C1 H1 c1 E1 r1 => ?_⟩
    obtain ⟨p', s1, hq, cp, rp, ow⟩ := E1.own i k0 d he
    rw [s0] at s1; cases s1
    exact ho R C1 H1 σ p vs Q E1 s0 cp rp ow r1 fun w' C2 H2 c2 E2 r2 => k w' C2 H2 (c1.trans c2) E2 r2
theorem tyL {K : PySem.W.Frag} {H : Hp} {p : Addr} {xs : List PyData} (h : ∃ C, Ow K C (H p) (.list xs)) : tyV K "list" (.ref p) H := by
  obtain ⟨C, vs, h, _⟩ := h
  exact .inl ⟨rfl, vs, SqL.of h⟩
theorem je_append {nm : Str} {apos np : Pos} (i : Nat) {xs : List PyData} {k0 : Option Addr} (hN : T.N[i]? = some nm := by rfl) (hv : visB T.sc nm = true := by rfl) (h : JE T e e0 e1 (.d x)) (h0 : ∃ xs0, e0[i]? = some (.o k0 (.list xs0)) := by exact ⟨_, rfl⟩) (he : e1[i]? = some (.o k0 (.list xs)) := by rfl) (hl : xs.length < LN)
    (hp : PlainM (.Name nm np) "append" apos e [] pos := by exact ⟨fun _ => rfl, fun _ => rfl, rfl, fun _ => rfl, fun _ => rfl⟩)
    (hd : (nm == ("__debug__" : Str)) = false := by decide) (hcd : (nm == ("__classdict__" : Str)) = false := by decide) :
    JE T (.Call (.Attribute (.Name nm np) "append" apos) [e] [] pos) e0 (e1.set i (.o k0 (.list (xs ++ [x])))) (.d .none) := fun X hX =>
  (pe_bm PySem.F.plainAttrs_list PySem.F.slot_list_append PySem.F.type_list_append mt_append (pe_var (i := i) (by rw [hX.N]; exact hN) (by rw [hX.sc]; exact vis_of hv) hd hcd) (pa_cons (h X hX) pa_nil (hp.hs X.env)) (hp.base X.env) (hp.few X.env) hp.line (hp.hs X.env) (hp.plain X.env)).wk fun σ H Q ⟨R, C, E, k⟩ => by
    obtain ⟨xs0, h0⟩ := h0
    obtain ⟨p, s0, _, _, _, ow0⟩ := E.own i k0 _ h0
    refine ⟨.ref p, s0, tyL ⟨C, ow0⟩, R, C, E, fun v C1 H1 c1 E1 r1 => ?_⟩
    obtain ⟨p', s1, hq, cp, rp, vs, hh, l, rr⟩ := E1.own i k0 _ he
    rw [s0] at s1; cases s1
    refine ⟨p, vs, v, rfl, rfl, hh, lnS' (by rw [rr.len]; exact hl), ?_⟩
    refine k _ C1 _ c1 (E1.mutO he s0 cp rp ⟨vs ++ [v], rfl, ?_, rr.append (.cons r1 .nil)⟩) .non
    have e := rr.len
    have : xs.length < LN := hl
    rw [List.length_append, e]
    show xs.length + 1 ≤ LN
    omega
/-- xs[i] = e -/
theorem js_setIx {nm : Str} {np tp : Pos} {ix : Expr} (j : Nat) {xs : List PyData} {k0 : Option Addr} {i : Int} {m : Nat} (hN : T.N[j]? = some nm := by rfl) (hv : visB T.sc nm = true := by rfl) (h : JE T e e0 e1 (.d x)) (hi : JE T ix e1 e2 (.d (.int i))) (h1 : ∃ xs0, e1[j]? = some (.o k0 (.list xs0)) := by exact ⟨_, rfl⟩) (h2 : e2[j]? = some (.o k0 (.list xs)) := by rfl) (hm : ixN xs.length i = some m)
    (hs : ∀ (v : Env) l, swapsWithSole [.Subscript (.Name nm np) ix tp] e l v = pure false := by intro _ _; rfl) (hw : ∀ v : Env, swappedStores [.Subscript (.Name nm np) ix tp] e v = pure none := by intro _; rfl) (ha1 : ∀ v : Env, (assignEach [.Subscript (.Name nm np) ix tp] v).map (·.2) = [assign (.Subscript (.Name nm np) ix tp) v] := by intro _; rfl)
    (ha : ∀ (env : Env) v, assign (.Subscript (.Name nm np) ix tp) env v = (do
      let ov ← holding [v] (eval (.Name nm np) env)
      let iv ← holding [v, ov] (eval ix env)
      standAt tp
      holding [v, ov, iv] (setItem ov iv v)
      release [v, ov, iv] []) := by intro _ _; rfl)
    (hd : (nm == ("__debug__" : Str)) = false := by decide) (hcd : (nm == ("__classdict__" : Str)) = false := by decide) :
    JS T (.Assign [.Subscript (.Name nm np) ix tp] e pos) e0 (.nx (e2.set j (.o k0 (.list (xs.set m x))))) := fun X hX =>
  (ps_asg (h X hX) (pg_sub (pe_var (i := j) (by rw [hX.N]; exact hN) (by rw [hX.sc]; exact vis_of hv) hd hcd) (hi X hX) set_list (ha X.env)) (hs X.env pos.line) (hw X.env) (ha1 X.env)).wk fun D σ H ⟨R, C, E, k⟩ => ⟨R, C, E, fun v C1 H1 c1 E1 r1 => by
    obtain ⟨xs0, h1⟩ := h1
    obtain ⟨p, s0, _, _, _, _⟩ := E1.own j k0 _ h1
    refine ⟨.ref p, s0, R, C1, E1, fun iv C2 H2 c2 E2 r2 => ?_⟩
    cases r2
    obtain ⟨p', s1, hq, cp, rp, vs, hh, l, rr⟩ := E2.own j k0 _ h2
    rw [s0] at s1; cases s1
    refine ⟨p, vs, i, m, rfl, rfl, hh, by rw [rr.len]; exact hm, ?_⟩
    exact k σ C2 _ (c1.trans c2) (E2.mutO h2 s0 cp rp ⟨vs.set m v, rfl, by rw [List.length_set]; exact l, rr.set m (r1.mono c2)⟩)⟩

/-! ### several targets, a written tuple -/
/-- the values of a written tuple: known for ever, or objects of their own -/
inductive Rrs (K : PySem.W.Frag) (R C H : Hp) (env : Env') (σ : L2.St) : List V → List Re → Prop
  | nil : Rrs K R C H env σ [] []
  | d {v : V} {x : PyData} {vs : List V} {rs : List Re} : Rp K C v x → Rrs K R C H env σ vs rs → Rrs K R C H env σ (v :: vs) (.d x :: rs)
  | o {p : Addr} {x : PyData} {vs : List V} {rs : List Re} : C p = none → R p = none → NotOwn env σ p → Ow K C (H p) x → (∀ (i : Nat) y, rs[i]? = some (.o y) → vs[i]? ≠ some (.ref p)) → Rrs K R C H env σ vs rs → Rrs K R C H env σ (.ref p :: vs) (.o x :: rs)
def tAoJ (K : PySem.W.Frag) (env env' : Env') (rs : List Re) : TA := fun σ H Q => ∃ R C, EnvC K R C env σ H ∧ ∀ vs C' H', Ex C C' → EnvC K R C' env' σ H' → Rrs K R C' H' env' σ vs rs → Q vs H'
def JAo (T : TC) (es : List Expr) (env env' : Env') (rs : List Re) : Prop := ∀ X, CT X T → PA X es (tAoJ X.K env env' rs)
theorem jao_nil : JAo T [] env env [] := fun X hX => pa_nil.wk fun σ H Q ⟨R, C, E, k⟩ => k [] C H (Ex.refl C) E .nil
theorem jao_d {rs : List Re} (h : JE T e e0 e1 (.d x)) (h' : JAo T es e1 e2 rs) (hs : ∀ v : Env, starEach (e :: es) v = (false, eval e v) :: starEach es v := by intro _; rfl) : JAo T (e :: es) e0 e2 (.d x :: rs) := fun X hX =>
  (pa_cons (h X hX) (h' X hX) (hs X.env)).wk fun σ H Q ⟨R, C, E, k⟩ => ⟨R, C, E, fun v C1 H1 c1 E1 r1 => ⟨R, C1, E1, fun vs C2 H2 c2 E2 r2 => k (v :: vs) C2 H2 (c1.trans c2) E2 (.d (r1.mono c2) r2)⟩⟩
/-- with a further object as a part of what stands -/
theorem EnvC.lift {D : Addr} {o : HO} (E0 : EnvC K R C env σ H) (h1 : H D = some o) (h2 : C D = none) (h3 : NotOwn env σ D) : EnvC K (upd R D o) C env σ H := by
  refine ⟨E0.len, E0.cH, fun q u e => ?_, fun q e => ?_, E0.dat, fun j w x e => ?_, E0.apart, E0.lk⟩
  · by_cases h : q = D
    · subst h; rw [upd_same] at e; cases e; exact h1
    · rw [upd_ne h] at e; exact E0.rH _ _ e
  · by_cases h : q = D
    · subst h; exact h2
    · rw [upd_ne h] at e; exact E0.rc _ e
  · obtain ⟨q, k1, k0, k2, k3, k4⟩ := E0.own j w x e
    have hq : q ≠ D := fun h => by subst h; exact h3 j w x e k1
    exact ⟨q, k1, k0, k2, by rw [upd_ne hq]; exact k3, k4⟩
theorem EnvC.unlift {D : Addr} {o : HO} (E0 : EnvC K (upd R D o) C env σ H) (rD : R D = none) : EnvC K R C env σ H ∧ H D = some o ∧ C D = none ∧ NotOwn env σ D := by
  refine ⟨⟨E0.len, E0.cH, fun q u e => ?_, fun q e => ?_, E0.dat, fun j w x e => ?_, E0.apart, E0.lk⟩, E0.rH D o upd_same, E0.rc D (by rw [upd_same]; simp), fun j w x e s1 => ?_⟩
  · by_cases h : q = D
    · subst h; rw [rD] at e; cases e
    · exact E0.rH q u (by rw [upd_ne h]; exact e)
  · by_cases h : q = D
    · subst h; exact absurd rD e
    · exact E0.rc q (by rw [upd_ne h]; exact e)
  · obtain ⟨q, k1, k0, k2, k3, k4⟩ := E0.own j w x e
    have hq : q ≠ D := fun h => by subst h; rw [upd_same] at k3; cases k3
    exact ⟨q, k1, k0, k2, by rw [upd_ne hq] at k3; exact k3, k4⟩
  · obtain ⟨q, k1, k0, k2, k3, k4⟩ := E0.own j w x e
    rw [k1] at s1; cases s1
    rw [upd_same] at k3; cases k3
theorem Rrs.unlift {D : Addr} {o : HO} {vs : List V} {rs : List Re} (h : Rrs K (upd R D o) C H env σ vs rs) : Rrs K R C H env σ vs rs ∧ ∀ (i : Nat) y, rs[i]? = some (.o y) → vs[i]? ≠ some (.ref D) := by
  induction h with
  | nil => exact ⟨.nil, fun i y h => by cases h⟩
  | d h1 _ ih => exact ⟨.d h1 ih.1, fun i y h => by
      cases i with
      | zero => cases h
      | succ i => exact ih.2 i y h⟩
  | @o p x vs rs h1 h2 h3 h4 h5 _ ih =>
    have hp : p ≠ D := fun h => by subst h; rw [upd_same] at h2; cases h2
    refine ⟨.o h1 (by rw [upd_ne hp] at h2; exact h2) h3 h4 h5 ih.1, fun i y h => ?_⟩
    cases i with
    | zero => intro e; cases e; exact hp rfl
    | succ i => exact ih.2 i y h
theorem jao_o {rs : List Re} (h : JE T e e0 e1 (.o x)) (h' : JAo T es e1 e2 rs) (hs : ∀ v : Env, starEach (e :: es) v = (false, eval e v) :: starEach es v := by intro _; rfl) : JAo T (e :: es) e0 e2 (.o x :: rs) := fun X hX =>
  (pa_cons (h X hX) (h' X hX) (hs X.env)).wk fun σ H Q ⟨R, C, E, k⟩ => ⟨R, C, E, fun v C1 H1 c1 E1 ⟨p, ev, cp, rp, no, ow⟩ => by
    subst ev
    cases ho : H1 p with
    | none => rw [ho] at ow; exact absurd rfl ow.there
    | some o =>
      refine ⟨upd R p o, C1, E1.lift ho cp no, fun vs C2 H2 c2 E2 r2 => ?_⟩
      obtain ⟨E3, h3, cp3, no3⟩ := E2.unlift rp
      obtain ⟨r3, n3⟩ := r2.unlift
      exact k _ C2 H2 (c1.trans c2) E3 (.o cp3 rp no3 (by rw [h3, ← ho]; exact ow.mono c2) n3 r3)⟩
def reSl : Re → Sl
  | .d x => .d x | .o x => .o none x | .b _ => .u
/-- the targets' slots set from the left -/
def setAll {α : Type} (l : List α) : List Nat → List α → List α
  | i :: is, x :: xs => setAll (l.set i x) is xs
  | _, _ => l
theorem Rrs.setd {i : Nat} {v : V} {x : PyData} {vs : List V} {rs : List Re} (r : Rrs K R C H env σ vs rs) : Rrs K R C H (env.set i (.d x)) (σ.set i (some v)) vs rs := by
  induction r with
  | nil => exact .nil
  | d h _ ih => exact .d h ih
  | o a b c d e _ ih =>
    refine .o a b (fun j w y e s => ?_) d e ih
    by_cases hj : i = j
    · subst hj
      rw [List.getElem?_set_self'] at e
      cases q : env[i]? <;> rw [q] at e <;> simp at e
    · rw [List.getElem?_set_ne hj] at e s; exact c j w y e s
theorem Rrs.seto {i : Nat} {p : Addr} {x : PyData} {vs : List V} {rs : List Re} (r : Rrs K R C H env σ vs rs) (h5 : ∀ (i : Nat) y, rs[i]? = some (.o y) → vs[i]? ≠ some (.ref p)) : Rrs K R C H (env.set i (.o none x)) (σ.set i (some (.ref p))) vs rs := by
  induction r with
  | nil => exact .nil
  | d h _ ih => exact .d h (ih fun j y hj => h5 (j + 1) y hj)
  | @o q y vs' rs' a b c d e _ ih =>
    have hqp : q ≠ p := fun h => by subst h; exact h5 0 y rfl rfl
    refine .o a b (fun j w z e s => ?_) d e (ih fun j y hj => h5 (j + 1) y hj)
    by_cases hj : i = j
    · subst hj
      rw [List.getElem?_set_self'] at s
      cases q' : σ[i]? with
      | none => rw [q'] at s; cases s
      | some w2 => rw [q'] at s; simp at s; exact hqp s.symm
    · rw [List.getElem?_set_ne hj] at e s; exact c j w z e s
theorem Rrs.newO {t : Addr} {u : HO} {vs : List V} {rs : List Re} (ht : H t = none) (r : Rrs K R C H env σ vs rs) : Rrs K R C (upd H t u) env σ vs rs := by
  induction r with
  | nil => exact .nil
  | d h _ ih => exact .d h ih
  | @o q y vs' rs' a b c d e _ ih =>
    have hp : q ≠ t := fun h => by subst h; exact d.there ht
    exact .o a b c (by rw [upd_ne hp]; exact d) e ih
theorem EnvC.setAll : ∀ (is : List Nat) {vs : List V} {rs : List Re} {env : Env'} {σ : L2.St}, is.length = rs.length → EnvC K R C env σ H → Rrs K R C H env σ vs rs → EnvC K R C (J.setAll env is (rs.map reSl)) (J.setAll σ is (vs.map some)) H
  | [], vs, rs, env, σ, hl, E, r => by
    cases r with
    | nil => exact E
    | d => cases hl
    | o => cases hl
  | i :: is, vs, rs, env, σ, hl, E, r => by
    cases r with
    | nil => cases hl
    | d h r => exact EnvC.setAll is (by simpa using hl) (E.set i h) r.setd
    | o h1 h2 h3 h4 h5 r => exact EnvC.setAll is (by simpa using hl) (E.setO i h1 h2 h3 h4) (r.seto h5)
theorem Rrs.len {vs : List V} {rs : List Re} (h : Rrs K R C H env σ vs rs) : vs.length = rs.length := by
  induction h with
  | nil => rfl
  | d _ _ ih => simp [ih]
  | o _ _ _ _ _ _ ih => simp [ih]
/-- a, b = x, y with plain names -/
theorem js_par2 {n1 n2 : Str} {x1 x2 : Expr} {p1 p2 pt : Pos} {kt k2 pt2} (i j : Nat) {r1 r2 : Re} (hnd : T.N.Nodup) (hi : T.N[i]? = some n1) (hj : T.N[j]? = some n2) (hij : i ≠ j) (l1 : T.sc.names.lookup n1 = some .local) (l2 : T.sc.names.lookup n2 = some .local) (h : JAo T [x1, x2] e0 e1 [r1, r2])
    (hw : ∀ v : Env, v.scope = T.sc → swappedStores [.Tuple [.Name n1 p1, .Name n2 p2] kt pt] (.Tuple [x1, x2] k2 pt2) v = pure (some [n1, n2])) (hs : ∀ (v : Env) l, swapsWithSole [.Tuple [.Name n1 p1, .Name n2 p2] kt pt] (.Tuple [x1, x2] k2 pt2) l v = pure false := by intro _ _; rfl) :
    JS T (.Assign [.Tuple [.Name n1 p1, .Name n2 p2] kt pt] (.Tuple [x1, x2] k2 pt2) pos) e0 (.nx (setAll e1 [i, j] [reSl r1, reSl r2])) := fun X hX =>
  (ps_par (i := i) (j := j) hX.calm (by rw [hX.N]; exact hnd) (by rw [hX.N]; exact hi) (by rw [hX.N]; exact hj) hij (by rw [hX.sc]; exact l1) (by rw [hX.sc]; exact l2) (h X hX) (hw X.env hX.sc) (hs X.env pos.line)).wk fun D σ H ⟨R, C, E, k⟩ => ⟨R, C, E, fun vs C1 H1 c1 E1 r1 => by
    have hl := r1.len
    match vs, hl with
    | [v, w], _ => exact ⟨v, w, rfl, k _ C1 H1 c1 (E1.setAll [i, j] rfl r1)⟩⟩
theorem js_par3 {n1 n2 n3 : Str} {x1 x2 x3 : Expr} {p1 p2 p3 pt : Pos} {kt k2 pt2} (i j m : Nat) {r1 r2 r3 : Re} (hnd : T.N.Nodup) (hi : T.N[i]? = some n1) (hj : T.N[j]? = some n2) (hm : T.N[m]? = some n3) (hij : i ≠ j) (him : i ≠ m) (hjm : j ≠ m) (l1 : T.sc.names.lookup n1 = some .local) (l2 : T.sc.names.lookup n2 = some .local) (l3 : T.sc.names.lookup n3 = some .local) (h : JAo T [x1, x2, x3] e0 e1 [r1, r2, r3])
    (hw : ∀ v : Env, v.scope = T.sc → swappedStores [.Tuple [.Name n1 p1, .Name n2 p2, .Name n3 p3] kt pt] (.Tuple [x1, x2, x3] k2 pt2) v = pure (some [n1, n2, n3])) (hs : ∀ (v : Env) l, swapsWithSole [.Tuple [.Name n1 p1, .Name n2 p2, .Name n3 p3] kt pt] (.Tuple [x1, x2, x3] k2 pt2) l v = pure false := by intro _ _; rfl) :
    JS T (.Assign [.Tuple [.Name n1 p1, .Name n2 p2, .Name n3 p3] kt pt] (.Tuple [x1, x2, x3] k2 pt2) pos) e0 (.nx (setAll e1 [i, j, m] [reSl r1, reSl r2, reSl r3])) := fun X hX =>
  (ps_par3 (i := i) (j := j) (l := m) hX.calm (by rw [hX.N]; exact hnd) (by rw [hX.N]; exact hi) (by rw [hX.N]; exact hj) (by rw [hX.N]; exact hm) hij him hjm (by rw [hX.sc]; exact l1) (by rw [hX.sc]; exact l2) (by rw [hX.sc]; exact l3) (h X hX) (hw X.env hX.sc) (hs X.env pos.line)).wk fun D σ H ⟨R, C, E, k⟩ => ⟨R, C, E, fun vs C1 H1 c1 E1 r1 => by
    have hl := r1.len
    match vs, hl with
    | [u, v, w], _ => exact ⟨u, v, w, rfl, k _ C1 H1 c1 (E1.setAll [i, j, m] rfl r1)⟩⟩
def gSetAll (is : List Nat) : TGs := fun vs σ H Q => vs.length = is.length ∧ Q (setAll σ is (vs.map some)) H
theorem pgs_all_nil {X : Cx} : PGs X [] (gSetAll []) := pgs_nil.wk fun vs σ H Q ⟨h, q⟩ => by
  cases vs with
  | nil => exact ⟨rfl, q⟩
  | cons => cases h
theorem pgs_all_cons {X : Cx} {g : Expr} {gs : List Expr} {i : Nat} {is : List Nat} (h : PG X g (gName i)) (h' : PGs X gs (gSetAll is)) (hs : (assignEach (g :: gs) X.env).map (·.2) = assign g X.env :: (assignEach gs X.env).map (·.2)) : PGs X (g :: gs) (gSetAll (i :: is)) := (pgs_cons h h' hs).wk fun vs σ H Q ⟨hl, q⟩ => by
  cases vs with
  | nil => cases hl
  | cons v vs => exact ⟨v, vs, rfl, by simpa using hl, q⟩
/-- name targets -/
def JNs (T : TC) (gs : List Expr) (is : List Nat) : Prop := ∀ X, CT X T → PGs X gs (gSetAll is)
theorem jns_nil : JNs T [] [] := fun X hX => pgs_all_nil
theorem jns_cons {nm : Str} {gs : List Expr} {is : List Nat} (i : Nat) (hnd : T.N.Nodup) (h' : JNs T gs is) (hN : T.N[i]? = some nm := by rfl) (hl : locB T.sc nm = true := by rfl) (hf : T.fn nm = true ∨ T.sc.names.lookup nm = some .local := by first | exact .inl rfl | exact .inr rfl) (hs : ∀ v : Env, (assignEach (.Name nm p :: gs) v).map (·.2) = assign (.Name nm p) v :: (assignEach gs v).map (·.2) := by intro _; rfl) : JNs T (.Name nm p :: gs) (i :: is) := fun X hX =>
  pgs_all_cons (pg_name (i := i) (by rw [hX.N]; exact hnd) (by rw [hX.N]; exact hN) (by rw [hX.sc]; exact loc_of hl) (by rcases hf with h | h; exact .inl (hX.fn _ h); exact .inr (by rw [hX.sc]; exact h))) (h' X hX) (hs X.env)
theorem js_parN {gs es : List Expr} {pt pt2 : Pos} {kt k2 : Nat} {rs : List Re} (is : List Nat) (hg : JNs T gs is) (h : JAo T es e0 e1 rs) (hl : is.length = rs.length := by rfl) (hn : ∀ v : Env, (assignEach gs v).length = rs.length := by intro _; rfl) (hst : ∀ v : Env, (assignEach gs v).findIdx? (·.1) = none := by intro _; rfl)
    (hw : ∀ v : Env, v.scope = T.sc → swappedStores [.Tuple gs kt pt] (.Tuple es k2 pt2) v = pure none) (hs : ∀ (v : Env) l, swapsWithSole [.Tuple gs kt pt] (.Tuple es k2 pt2) l v = pure false := by intro _ _; rfl) (ha : ∀ v : Env, (assignEach [.Tuple gs kt pt] v).map (·.2) = [assign (.Tuple gs kt pt) v] := by intro _; rfl) (hll : rs.length ≤ LN := by exact Nat.le_of_ble_eq_true rfl) :
    JS T (.Assign [.Tuple gs kt pt] (.Tuple es k2 pt2) pos) e0 (.nx (setAll e1 is (rs.map reSl))) := fun X hX =>
  (ps_asg (pe_tup (h X hX)) (pg_tup hX.calm (hg X hX) (hn X.env) (hst X.env)) (hs X.env pos.line) (hw X.env hX.sc) (ha X.env)).wk fun D σ H ⟨R, C, E, k⟩ => ⟨R, C, E, fun vs C1 H1 c1 E1 r1 => ⟨lnS (by rw [r1.len]; exact hll), fun t ht => by
    refine ⟨t, vs, rfl, .inl (.inl upd_same), r1.len, by rw [r1.len]; exact hl.symm, ?_⟩
    exact k _ C1 _ c1 (EnvC.setAll is hl (E1.newO ht) (r1.newO ht))⟩⟩
/-- a, b = a tuple that is known -/
theorem js_unp {gs : List Expr} {pt : Pos} {kt : Nat} {ds : List PyData} (is : List Nat) (hg : JNs T gs is) (h : JE T e e0 e1 (.d (.tuple ds))) (hl : is.length = ds.length := by rfl) (hn : ∀ v : Env, (assignEach gs v).length = ds.length := by intro _; rfl) (hst : ∀ v : Env, (assignEach gs v).findIdx? (·.1) = none := by intro _; rfl)
    (hw : ∀ v : Env, swappedStores [.Tuple gs kt pt] e v = pure none := by intro _; rfl) (hs : ∀ (v : Env) l, swapsWithSole [.Tuple gs kt pt] e l v = pure false := by intro _ _; rfl) (ha : ∀ v : Env, (assignEach [.Tuple gs kt pt] v).map (·.2) = [assign (.Tuple gs kt pt) v] := by intro _; rfl) :
    JS T (.Assign [.Tuple gs kt pt] e pos) e0 (.nx (setAll e1 is (ds.map .d))) := fun X hX =>
  (ps_asg (h X hX) (pg_tup hX.calm (hg X hX) (hn X.env) (hst X.env)) (hs X.env pos.line) (hw X.env) (ha X.env)).wk fun D σ H ⟨R, C, E, k⟩ => ⟨R, C, E, fun v C1 H1 c1 E1 r1 => by
    cases r1 with
    | tup q l r =>
    refine ⟨_, _, rfl, E1.cH.t q, r.len, by rw [r.len]; exact hl.symm, ?_⟩
    have rr : ∀ {ds : List PyData} {vs : List V}, Rps X.K C1 vs ds → Rrs X.K R C1 H1 e1 σ vs (ds.map .d) := fun {ds} => by
      induction ds with
      | nil => intro vs r; cases r; exact .nil
      | cons d ds ih => intro vs r; cases r with
        | cons h r => exact .d h (ih r)
    have := EnvC.setAll is (by simpa using hl) E1 (rr r)
    rw [List.map_map] at this
    exact k _ C1 H1 c1 this⟩
end
end J
namespace J
open PySem L2 PySem.Spec PyProof.Rows
open AutoSeq1 (wpAny_loadPart')

/-! ### enumerate of a tuple, of a text -/
theorem meets_enumerate_new1B {v : Value} {o : Obj} {H : Heap → Prop} (B : Begins v o H) :
    Meets (Builtin.«enumerate.__new__» ⟨[.type "enumerate", v], []⟩) (fun _ R s => H s.heap ∧
      R (.ok (.ret (.ref (s.heap.push o).objs.size))) { s with heap := (s.heap.push o).push { cls := .type "enumerate", data := .fields #[.none, .bool false, .ref s.heap.objs.size, rawInt 0, .none, .none] } }) :=
  .of_wp fun prog w A R s h => by
    obtain ⟨hp, g, d, tk, os⟩ := s; obtain ⟨h1, h⟩ := h
    have hsub := sub_enumerate
    have q1 : ∀ {A' : Around} {E : Value → Shared → Prop} {Q : Value → Shared → Prop}, Q (.ref hp.objs.size) ⟨hp.push o, g, d, tk, os⟩ → wpAny (model prog w) A' (pyIter v) Q E ⟨hp, g, d, tk, os⟩ :=
      fun q => B.iter prog w _ _ ⟨hp, g, d, tk, os⟩ _ h1 q
    wp_walk using q1
    refine wpAny_stack_any fun st => wpAny_pure ?_
    split
    · rename_i c _ _ _ _ _
      cases (c == Value.type "enumerate")
      · wp_walk using q1
        exact ⟨_, rfl, h⟩
      · wp_walk using q1
        exact ⟨_, rfl, h⟩
    · wp_walk using q1
      exact ⟨_, rfl, h⟩
theorem call_enumerate_B {prog : Program} {w : World} {A : Around} {E : Value → Shared → Prop} {s : Shared} {v : Value} {o : Obj} {H : Heap → Prop} {Q : Value → Shared → Prop} (B : Begins v o H) (h1 : H s.heap)
    (h : ∀ h', IsEnum h' (s.heap.objs.size + 1) s.heap.objs.size 0 .none → h'.get? s.heap.objs.size = some o → h'.objs.size = s.heap.objs.size + 2 →
      (∀ b o, s.heap.get? b = some o → h'.get? b = some o) → Q (.ref (s.heap.objs.size + 1)) { s with heap := h' }) :
    wpAny (model prog w) A (call (.type "enumerate") [v]) Q E s := by
  refine callType_new F.called_enumerate (by decide) (F.typeCall_enumerate_1 _) (F.newCall_enumerate_1 _) (fun obj => F.args_object_init_2 obj _) F.entry_enumerate_new
    (meets_enumerate_new1B B) ⟨h1, ?_⟩
  have hz : (s.heap.push o).objs.size = s.heap.objs.size + 1 := Heap.size_push ..
  show _ ∧ _
  rw [hz]
  have he : IsEnum ((s.heap.push o).push { cls := .type "enumerate", data := .fields #[.none, .bool false, .ref s.heap.objs.size, rawInt 0, .none, .none] }) (s.heap.objs.size + 1) s.heap.objs.size 0 .none := by
    have := Heap.get?_push_size (s.heap.push o) (o := { cls := .type "enumerate", data := .fields #[.none, .bool false, .ref s.heap.objs.size, rawInt 0, .none, .none] }) rfl
    rw [hz] at this; exact this
  refine ⟨⟨_, he, rfl⟩, h _ he (Heap.get?_push_of_some _ (Heap.get?_push_size _ B.free)) (by rw [Heap.size_push, hz]) fun b o x => Heap.get?_push_of_some _ (Heap.get?_push_of_some _ x)⟩
def IteT (K : PySem.W.Frag) (a : Addr) : It :=
  ⟨fun i H => ∃ (xs : List V) (x : V), SqT K H a xs ∧ xs[i]? = some x, fun i H v H' => ∃ T x, v = .ref T ∧ H T = none ∧ H' = upd H T (.tup [.int (i : Nat), x]) ∧ ∀ xs, SqT K H a xs → xs[i]? = some x, fun i H => ∃ xs : List V, SqT K H a xs ∧ xs.length = i⟩
def IteS (z : Str) : It :=
  ⟨fun i _ => i < z.cps.size, fun i H v H' => ∃ T c, v = .ref T ∧ H T = none ∧ H' = upd H T (.tup [.int (i : Nat), .str ⟨#[c]⟩]) ∧ z.cps[i]? = some c, fun i _ => z.cps.size = i⟩
theorem turn_enumT {P : Program} {w : World} {K : PySem.W.Frag} {elts : List Expr} {kk : Nat} {tpos : Pos} (a e it : Addr) :
    Turn P w K (.Tuple elts kk tpos) (IteT K a) [e, it] e (fun i h => (∃ old, IsEnum h e it ((i : Nat) : Int) old) ∧ h.IsTupleIter it a i ∧ e ≠ it) where
  mem := by simp
  obj := fun i h st b hb => by
    obtain ⟨⟨old, he⟩, ⟨o, ho, hc, hd⟩, _⟩ := st
    have e' : b = e ∨ b = it := by simpa using hb
    rcases e' with z | z
    · rw [z]; exact ⟨_, he, fun v q => nomatch q⟩
    · rw [z]; exact ⟨o, ho, fun v q => by rw [hd] at q; cases q⟩
  keep := fun i h h' st k => let ⟨⟨old, he⟩, hi, hne⟩ := st; ⟨⟨old, k e (by simp) _ he⟩, hi.at fun o q => k it (by simp) o q, hne⟩
  item := by
    intro X hP hw hK hc i pins s σ H E I hf st hg
    subst hP hw hK
    obtain ⟨⟨old, he⟩, hit, hne⟩ := st
    obtain ⟨xs, x, hq, hx⟩ := hg
    obtain ⟨its, rv, p, hz⟩ := I.tuple hq
    obtain ⟨u, hu, ru⟩ := rv.get hx
    have hel : e < s.heap.objs.size := Heap.lt_size he
    have hil : it < s.heap.objs.size := by obtain ⟨_, q, _⟩ := hit; exact Heap.lt_size q
    have hai : a ≠ it := fun h => by
      subst h
      obtain ⟨o1, q1, c1, _⟩ := hit
      obtain ⟨o2, q2, c2, _⟩ := p
      rw [q1] at q2; cases q2
      rw [c1] at c2
      injection c2 with c3
      exact absurd c3 (by decide)
    have hae : a ≠ e := fun h => by
      subst h
      obtain ⟨o2, q2, c2, _⟩ := p
      rw [he] at q2; cases q2
      have c2' : Value.type "enumerate" = Value.type "tuple" := c2
      injection c2' with c3
      exact absurd c3 (by decide)
    have hlt : i < its.toArray.size := by have := (List.getElem?_eq_some_iff.mp hu).1; simpa using this
    refine wpAny_pyNext_enum_itemD (Draws.tuple (A := X.A.in1) (I.ok.hd hc) it a hai its.toArray) he ⟨hit, p⟩ hlt hne (show e ∉ [it, a] by simp only [List.mem_cons, List.not_mem_nil, or_false, not_or]; exact ⟨hne, Ne.symm hae⟩) fun y h' tk hP ho hit' hT hsz hk => ?_
    have hy : y = u := by
      have h2 : its[i]? = some y := by simpa using hP
      rw [hu] at h2; exact (Option.some.inj h2).symm
    subst hy
    refine ⟨_, rfl, wpAny_letOwnedTupleGo_enum (s := { s with heap := h', toks := tk + 1 }) ho fun h'' he' sb => ?_⟩
    have hT2 : h''.get? s.heap.objs.size = some { cls := .type "tuple", data := .seq #[.int i tk, y] } := (sb.2 _ (Nat.ne_of_gt hel)).trans hT
    have new : ObjOk X.prog X.w (upd H s.heap.objs.size (.tup [.int (i : Nat), x])) h'' s.heap.objs.size (.tup [.int (i : Nat), x]) :=
      ⟨by show 2 ≤ sizeLine; decide, [.int i tk, y], .cons ⟨_, rfl⟩ (.cons ru .nil), ⟨_, hT2, rfl, _, rfl⟩⟩
    have I1 : Inv X pins σ (upd H s.heap.objs.size (.tup [.int (i : Nat), x])) { s with heap := h'', toks := tk + 1 } :=
      I.turnedNew (ch := [e, it]) (fun b ob hb q => (sb.2 b (fun z => hb (by simp [z]))).trans (hk b ob (fun z => hb (by simp [z])) (fun z => hb (by simp [z])) q)) hf (Nat.le_refl _) new
    refine ⟨.ref s.heap.objs.size, _, I1, rfl, ⟨_, x, rfl, I.hok.fresh (Nat.le_refl _), rfl, fun ys hy => by rw [I.tuple_inj hy hq]; exact hx⟩, ⟨⟨y, ?_⟩, hit'.1.at fun o q => (sb.2 it (Ne.symm hne)).trans q, hne⟩, fun b hb => ?_⟩
    · have e1 : ((i + 1 : Nat) : Int) = (i : Int) + 1 := by omega
      rw [e1]; exact he'
    · have hb' : b < s.heap.objs.size := by
        have e' : b = e ∨ b = it := by simpa using hb
        rcases e' with z | z
        · rw [z]; exact hel
        · rw [z]; exact hil
      rw [upd_ne (Nat.ne_of_lt hb')]
      exact (hf b hb).1
  done := by
    intro X hP hw hK hc i pins s σ H E I hf st hg
    subst hP hw hK
    obtain ⟨⟨old, he⟩, hit, hne⟩ := st
    obtain ⟨xs, hq, hx⟩ := hg
    obtain ⟨its, rv, p, hz⟩ := I.tuple hq
    obtain ⟨f0, f1, f2, f3, f4, f5⟩ := hf it (by simp)
    have hl := rv.length
    have hai : a ≠ it := fun h => by
      subst h
      obtain ⟨o1, q1, c1, _⟩ := hit
      obtain ⟨o2, q2, c2, _⟩ := p
      rw [q1] at q2; cases q2
      rw [c1] at c2
      injection c2 with c3
      exact absurd c3 (by decide)
    refine wpAny_pyNext_enum_endD (Draws.tuple (A := X.A.in1) (I.ok.hd hc) it a hai its.toArray) he ⟨?_, p⟩ fun h' eb => ⟨rfl, I.turned (t' := s.toks) (fun b o hb q => eb b o hb q) f0 f1 f3 f4 f5⟩
    have e1 : its.toArray.size = i := by rw [List.size_toArray]; omega
    rw [e1]; exact hit
  self := fun A i s Q E st h => let ⟨⟨_, he⟩, _⟩ := st; wpAny_pyIter_enum he h
theorem turn_enumS {P : Program} {w : World} {K : PySem.W.Frag} {elts : List Expr} {kk : Nat} {tpos : Pos} (z : Str) (t : Tok) (e it : Addr) :
    Turn P w K (.Tuple elts kk tpos) (IteS z) [e, it] e (fun i h => (∃ old, IsEnum h e it ((i : Nat) : Int) old) ∧ h.IsStrIter it (strIterType z) z t i ∧ e ≠ it) where
  mem := by simp
  obj := fun i h st b hb => by
    obtain ⟨⟨old, he⟩, ⟨o, ho, hc, hd⟩, _⟩ := st
    have e' : b = e ∨ b = it := by simpa using hb
    rcases e' with z | z
    · rw [z]; exact ⟨_, he, fun v q => nomatch q⟩
    · rw [z]; exact ⟨o, ho, fun v q => by rw [hd] at q; cases q⟩
  keep := fun i h h' st k => let ⟨⟨old, he⟩, ⟨o, ho, r⟩, hne⟩ := st; ⟨⟨old, k e (by simp) _ he⟩, ⟨o, k it (by simp) o ho, r⟩, hne⟩
  item := by
    intro X hP hw hK hc i pins s σ H E I hf st hg
    subst hP hw hK
    obtain ⟨⟨old, he⟩, hit, hne⟩ := st
    have hg' : i < z.cps.size := hg
    have hel : e < s.heap.objs.size := Heap.lt_size he
    have hil : it < s.heap.objs.size := by obtain ⟨_, q, _⟩ := hit; exact Heap.lt_size q
    refine wpAny_pyNext_enum_itemD (Draws.text (A := X.A.in1) (I.ok.hd hc) it z t) he hit hg' hne (show e ∉ [it] by simp only [List.mem_cons, List.not_mem_nil, or_false]; exact hne) fun y h' tk hP ho hit' hT hsz hk => ?_
    obtain ⟨c, u, hcc, rfl⟩ := hP
    refine ⟨_, rfl, wpAny_letOwnedTupleGo_enum (s := { s with heap := h', toks := tk + 1 }) ho fun h'' he' sb => ?_⟩
    have hT2 : h''.get? s.heap.objs.size = some { cls := .type "tuple", data := .seq #[.int i tk, .str ⟨#[c]⟩ u] } := (sb.2 _ (Nat.ne_of_gt hel)).trans hT
    have new : ObjOk X.prog X.w (upd H s.heap.objs.size (.tup [.int (i : Nat), .str ⟨#[c]⟩])) h'' s.heap.objs.size (.tup [.int (i : Nat), .str ⟨#[c]⟩]) :=
      ⟨by show 2 ≤ sizeLine; decide, [.int i tk, .str ⟨#[c]⟩ u], .cons ⟨_, rfl⟩ (.cons ⟨_, rfl⟩ .nil), ⟨_, hT2, rfl, _, rfl⟩⟩
    have I1 : Inv X pins σ (upd H s.heap.objs.size (.tup [.int (i : Nat), .str ⟨#[c]⟩])) { s with heap := h'', toks := tk + 1 } :=
      I.turnedNew (ch := [e, it]) (fun b ob hb q => (sb.2 b (fun z => hb (by simp [z]))).trans (hk b ob (fun z => hb (by simp [z])) (fun z => hb (by simp [z])) q)) hf (Nat.le_refl _) new
    refine ⟨.ref s.heap.objs.size, _, I1, rfl, ⟨_, c, rfl, I.hok.fresh (Nat.le_refl _), rfl, hcc⟩, ⟨⟨.str ⟨#[c]⟩ u, ?_⟩, (let ⟨o, ho, r⟩ := hit'; ⟨o, (sb.2 it (Ne.symm hne)).trans ho, r⟩), hne⟩, fun b hb => ?_⟩
    · have e1 : ((i + 1 : Nat) : Int) = (i : Int) + 1 := by omega
      rw [e1]; exact he'
    · have hb' : b < s.heap.objs.size := by
        have e' : b = e ∨ b = it := by simpa using hb
        rcases e' with z | z
        · rw [z]; exact hel
        · rw [z]; exact hil
      rw [upd_ne (Nat.ne_of_lt hb')]
      exact (hf b hb).1
  done := by
    intro X hP hw hK hc i pins s σ H E I hf st hg
    subst hP hw hK
    obtain ⟨⟨old, he⟩, hit, hne⟩ := st
    obtain ⟨f0, f1, f2, f3, f4, f5⟩ := hf it (by simp)
    refine wpAny_pyNext_enum_endD (Draws.text (A := X.A.in1) (I.ok.hd hc) it z t) he ?_ fun h' eb => ⟨rfl, I.turned (t' := s.toks) (fun b o hb q => eb b o hb q) f0 f1 f3 f4 f5⟩
    have hg' : z.cps.size = i := hg
    rw [hg']; exact hit
  self := fun A i s Q E st h => let ⟨⟨_, he⟩, _⟩ := st; wpAny_pyIter_enum he h
def iEnumT (K : PySem.W.Frag) (ta : TA) : TI := fun σ H R => ta σ H fun vs H1 => ∃ a xs, vs = [.ref a] ∧ SqT K H1 a xs ∧ R (IteT K a) H1
def iEnumS (ta : TA) : TI := fun σ H R => ta σ H fun vs H1 => ∃ z, vs = [.str z] ∧ R (IteS z) H1
theorem pi_enumT {X : Cx} {e : Expr} {ta : TA} {p pos tpos : Pos} {elts : List Expr} {kk : Nat} (hg : Gl X "enumerate") (hm : X.mg "enumerate" = none) (ha : PA X [e] ta) (hs : starEach [e] X.env = [(false, eval e X.env)] := by rfl) :
    PI X (.Tuple elts kk tpos) (.Call (.Name "enumerate" p) [e] [] pos) (iEnumT X.K ta) := by
  refine ⟨fun pins s σ H R I h => ?_⟩
  refine Call_ (ld_blt I hg hm boot_enumerate (PyProof.Rows.callWith_type1 (thn (ha.run pos pins s σ H _ I h) fun us s1 ⟨vs, H1, I1, r1, q1⟩ => ?_) hs rfl))
  obtain ⟨a, xs, ex, hq, q⟩ := q1
  subst ex
  cases r1 with
  | cons r rr =>
    cases rr
    cases r
    obtain ⟨its, rv, p', hz⟩ := I1.tuple hq
    refine call_enumerate_B (begins_tuple a its.toArray) p' fun h' he hit hsz hk => wpAny_pyIter_enum he ?_
    have I2 : Inv X pins σ H1 { s1 with heap := h' } := I1.kept (t' := s1.toks) hk
    refine ⟨s1.heap.objs.size + 1, [s1.heap.objs.size + 1, s1.heap.objs.size], _, _, H1, rfl, I2, turn_enumT a (s1.heap.objs.size + 1) s1.heap.objs.size, ⟨⟨.none, he⟩, ⟨_, hit, rfl, rfl⟩, Nat.succ_ne_self _⟩, fun b hb => ?_, q⟩
    have e' : b = s1.heap.objs.size + 1 ∨ b = s1.heap.objs.size := by simpa using hb
    have hle : s1.heap.objs.size ≤ b := by
      rcases e' with z | z
      · rw [z]; exact Nat.le_add_right _ _
      · rw [z]; exact Nat.le_refl _
    exact I1.fpOk hle (I1.hok.fresh hle)
theorem pi_enumS {X : Cx} {e : Expr} {ta : TA} {p pos tpos : Pos} {elts : List Expr} {kk : Nat} (hg : Gl X "enumerate") (hm : X.mg "enumerate" = none) (ha : PA X [e] ta) (hs : starEach [e] X.env = [(false, eval e X.env)] := by rfl) :
    PI X (.Tuple elts kk tpos) (.Call (.Name "enumerate" p) [e] [] pos) (iEnumS ta) := by
  refine ⟨fun pins s σ H R I h => ?_⟩
  refine Call_ (ld_blt I hg hm boot_enumerate (PyProof.Rows.callWith_type1 (thn (ha.run pos pins s σ H _ I h) fun us s1 ⟨vs, H1, I1, r1, q1⟩ => ?_) hs rfl))
  obtain ⟨z, ex, q⟩ := q1
  subst ex
  cases r1 with
  | cons r rr =>
    cases rr
    obtain ⟨t, rfl⟩ := r
    refine call_enumerate_B (begins_text z t) trivial fun h' he hit hsz hk => wpAny_pyIter_enum he ?_
    have I2 : Inv X pins σ H1 { s1 with heap := h' } := I1.kept (t' := s1.toks) hk
    refine ⟨s1.heap.objs.size + 1, [s1.heap.objs.size + 1, s1.heap.objs.size], _, _, H1, rfl, I2, turn_enumS z t (s1.heap.objs.size + 1) s1.heap.objs.size, ⟨⟨.none, he⟩, ⟨_, hit, rfl, rfl⟩, Nat.succ_ne_self _⟩, fun b hb => ?_, q⟩
    have e' : b = s1.heap.objs.size + 1 ∨ b = s1.heap.objs.size := by simpa using hb
    have hle : s1.heap.objs.size ≤ b := by
      rcases e' with z | z
      · rw [z]; exact Nat.le_add_right _ _
      · rw [z]; exact Nat.le_refl _
    exact I1.fpOk hle (I1.hok.fresh hle)
section
variable {T : TC} {a b e : Expr} {es : List Expr} {env e0 e1 e2 e3 : Env'} {pos p tpos : Pos} {kk : Nat} {elts : List Expr} {tg : Expr}
/-- (0, x0), (1, x1), .. -/
def enumD (xs : List PyData) : List PyData := (xs.zipIdx).map fun q => .tuple [.int q.2, q.1]
theorem enumD_get {xs : List PyData} {i : Nat} {d : PyData} (h : (enumD xs)[i]? = some d) : ∃ x, xs[i]? = some x ∧ d = .tuple [.int i, x] := by
  unfold enumD at h
  rw [List.getElem?_map, List.getElem?_zipIdx] at h
  cases q : xs[i]? with
  | none => rw [q] at h; cases h
  | some x => rw [q] at h; simp at h; exact ⟨x, rfl, h.symm⟩
theorem enumD_len (xs : List PyData) : (enumD xs).length = xs.length := by unfold enumD; simp
/-- the pair that such an iterator yields -/
theorem EnvC.pair {K : PySem.W.Frag} {R C H : Hp} {env : Env'} {σ : L2.St} {t : Addr} {u v : V} {x y : PyData} (E : EnvC K R C env σ H) (ht : H t = none) (hu : Rp K C u x) (hv : Rp K C v y) :
    ∃ C2, Ex C C2 ∧ EnvC K R C2 env σ (upd H t (.tup [u, v])) ∧ (∀ D, (upd H t (.tup [u, v])) D = none → H D = none) ∧ (∀ D o, H D = some o → (upd H t (.tup [u, v])) D = some o) ∧ (∀ D o, H D = some o → C D = none → C2 D = none) ∧ Rp K C2 (.ref t) (.tuple [x, y]) := by
  obtain ⟨c, E', r⟩ := E.freshT (ds := [x, y]) ht (by show 2 ≤ LN; decide) (.cons hu (.cons hv .nil))
  refine ⟨_, c, E', fun D h => ?_, fun D o h => ?_, fun D o h hc => ?_, r⟩
  · by_cases q : D = t
    · subst q; rw [upd_same] at h; cases h
    · rw [upd_ne q] at h; exact h
  · rw [upd_ne (ne_of_none h ht)]; exact h
  · rw [upd_ne (ne_of_none h ht)]; exact hc
theorem ji_enumL {xs : List PyData} (hg : glB T.sc "enumerate" = true) (hm : T.mg "enumerate" = none) (h : JE T e e0 e1 (.d (.list xs))) (hs : ∀ v : Env, starEach [e] v = [(false, eval e v)] := by intro _; rfl) : JI T (.Tuple elts kk tpos) (.Call (.Name "enumerate" p) [e] [] pos) e0 e1 (enumD xs) := fun X hX =>
  (pi_enum (gl_of hX hg) (by rw [hX.mg]; exact hm) (pa_cons (h X hX) pa_nil (hs X.env)) (hs X.env)).wk fun σ H Rr' ⟨R, C, E, k⟩ => ⟨R, C, E, fun v C1 H1 c1 E1 r1 => by
    cases r1 with
    | lst q l r =>
    refine ⟨_, _, rfl, SqL.of (E1.cH _ _ q), k _ C1 H1 c1 E1 (by rw [enumD_len, ← r.len]; exact l) fun C2 env σ H2 c2 E2 => ⟨⟨_, SqL.of (E2.cH _ _ (c2 _ _ q)), by rw [enumD_len, r.len]; exact Nat.le_refl _⟩, fun i d hd => ?_⟩⟩
    obtain ⟨x, hx, rfl⟩ := enumD_get hd
    obtain ⟨w, hw, rw⟩ := r.getD hx
    refine ⟨⟨_, w, SqL.of (E2.cH _ _ (c2 _ _ q)), hw⟩, fun y H3 hy => ?_⟩
    obtain ⟨t, u, rfl, ht, rfl, hu⟩ := hy
    have := hu _ (SqL.of (E2.cH _ _ (c2 _ _ q)))
    rw [hw] at this; cases this
    exact E2.pair ht (.int _) (rw.mono c2)⟩
theorem ji_enumT {xs : List PyData} (hg : glB T.sc "enumerate" = true) (hm : T.mg "enumerate" = none) (h : JE T e e0 e1 (.d (.tuple xs))) (hs : ∀ v : Env, starEach [e] v = [(false, eval e v)] := by intro _; rfl) : JI T (.Tuple elts kk tpos) (.Call (.Name "enumerate" p) [e] [] pos) e0 e1 (enumD xs) := fun X hX =>
  (pi_enumT (gl_of hX hg) (by rw [hX.mg]; exact hm) (pa_cons (h X hX) pa_nil (hs X.env)) (hs X.env)).wk fun σ H Rr' ⟨R, C, E, k⟩ => ⟨R, C, E, fun v C1 H1 c1 E1 r1 => by
    cases r1 with
    | tup q l r =>
    refine ⟨_, _, rfl, E1.cH.t q, k _ C1 H1 c1 E1 (by rw [enumD_len, ← r.len]; exact l) fun C2 env σ H2 c2 E2 => ⟨⟨_, E2.cH.t (c2.t q), by rw [enumD_len, r.len]⟩, fun i d hd => ?_⟩⟩
    obtain ⟨x, hx, rfl⟩ := enumD_get hd
    obtain ⟨w, hw, rw⟩ := r.getD hx
    refine ⟨⟨_, w, E2.cH.t (c2.t q), hw⟩, fun y H3 hy => ?_⟩
    obtain ⟨t, u, rfl, ht, rfl, hu⟩ := hy
    have := hu _ (E2.cH.t (c2.t q))
    rw [hw] at this; cases this
    exact E2.pair ht (.int _) (rw.mono c2)⟩
/-- the signs of a text -/
def signs (s : Str) : List Str := s.cps.toList.map fun c => ⟨#[c]⟩
theorem signs_get {s : Str} {i : Nat} {d : PyData} (h : ((signs s).map PyData.str)[i]? = some d) : ∃ c, s.cps[i]? = some c ∧ d = .str ⟨#[c]⟩ ∧ i < s.cps.size := by
  unfold signs at h
  rw [List.getElem?_map, List.getElem?_map] at h
  cases q : s.cps.toList[i]? with
  | none => rw [q] at h; cases h
  | some x =>
    rw [q] at h; simp at h
    have hi := (List.getElem?_eq_some_iff.mp q).1
    exact ⟨x, by simpa using q, h.symm, by simpa using hi⟩
theorem signs_len (s : Str) : (signs s).length = s.length := by unfold signs; simp [Str.length]
theorem ji_str {s : Str} (h : JE T e e0 e1 (.d (.str s))) : JI T tg e e0 e1 ((signs s).map .str) := fun X hX =>
  (pi_str (h X hX)).wk fun σ H Rr' ⟨R, C, E, k⟩ => ⟨R, C, E, fun v C1 H1 c1 E1 r1 => by
    cases r1 with
    | str ok =>
    refine ⟨s, rfl, k _ C1 H1 c1 E1 (by rw [List.length_map, signs_len]; exact ok.2) fun C2 env σ H2 c2 E2 => ⟨by show s.cps.size ≤ _; rw [List.length_map, signs_len]; exact Nat.le_refl _, fun i d hd => ?_⟩⟩
    obtain ⟨c, hc, rfl, hi⟩ := signs_get hd
    refine ⟨hi, fun y H3 hy => ?_⟩
    obtain ⟨rfl, c', hc', rfl⟩ := hy
    rw [hc] at hc'; cases hc'
    exact ⟨C2, Ex.refl C2, E2, fun _ h => h, fun _ _ h => h, fun _ _ _ h => h, .str (sOk_one ok (i := i) (by simpa using hc))⟩⟩
theorem ji_enumS {s : Str} (hg : glB T.sc "enumerate" = true) (hm : T.mg "enumerate" = none) (h : JE T e e0 e1 (.d (.str s))) (hs : ∀ v : Env, starEach [e] v = [(false, eval e v)] := by intro _; rfl) : JI T (.Tuple elts kk tpos) (.Call (.Name "enumerate" p) [e] [] pos) e0 e1 (enumD ((signs s).map .str)) := fun X hX =>
  (pi_enumS (gl_of hX hg) (by rw [hX.mg]; exact hm) (pa_cons (h X hX) pa_nil (hs X.env)) (hs X.env)).wk fun σ H Rr' ⟨R, C, E, k⟩ => ⟨R, C, E, fun v C1 H1 c1 E1 r1 => by
    cases r1 with
    | str ok =>
    refine ⟨s, rfl, k _ C1 H1 c1 E1 (by rw [enumD_len, List.length_map, signs_len]; exact ok.2) fun C2 env σ H2 c2 E2 => ⟨by show s.cps.size = _; rw [enumD_len, List.length_map, signs_len]; rfl, fun i d hd => ?_⟩⟩
    obtain ⟨x, hx, rfl⟩ := enumD_get hd
    obtain ⟨c, hc, rfl, hi⟩ := signs_get hx
    refine ⟨hi, fun y H3 hy => ?_⟩
    obtain ⟨t, c', rfl, ht, rfl, hc'⟩ := hy
    rw [hc] at hc'; cases hc'
    exact E2.pair ht (.int _) (.str (sOk_one ok (i := i) (by simpa using hc)))⟩
/-- zip of two -/
def zipD (xs ys : List PyData) : List PyData := (xs.zip ys).map fun q => .tuple [q.1, q.2]
theorem zipD_get {xs ys : List PyData} {i : Nat} {d : PyData} (h : (zipD xs ys)[i]? = some d) : ∃ x y, xs[i]? = some x ∧ ys[i]? = some y ∧ d = .tuple [x, y] := by
  unfold zipD at h
  rw [List.getElem?_map] at h
  cases q : (xs.zip ys)[i]? with
  | none => rw [q] at h; cases h
  | some z =>
    rw [q] at h; simp at h
    obtain ⟨x, y⟩ := z
    rw [List.getElem?_zip_eq_some] at q
    exact ⟨x, y, q.1, q.2, h.symm⟩
theorem zipD_len (xs ys : List PyData) : (zipD xs ys).length = min xs.length ys.length := by unfold zipD; simp
theorem ji_zipT {xs ys : List PyData} (hg : glB T.sc "zip" = true) (hm : T.mg "zip" = none) (h : JA T [a, b] e0 e1 [.tuple xs, .tuple ys]) (hs : ∀ v : Env, starEach [a, b] v = (false, eval a v) :: starEach [b] v := by intro _; rfl) (hpl : ∀ v : Env, (backTo pos (starEach [b] v)).any (·.1) = false := by intro _; rfl) : JI T (.Tuple elts kk tpos) (.Call (.Name "zip" p) [a, b] [] pos) e0 e1 (zipD xs ys) := fun X hX =>
  (RZ.pi_zipA (gl_of hX hg) (by rw [hX.mg]; exact hm) (h X hX) (hs X.env) (hpl X.env)).wk fun σ H Rr' ⟨R, C, E, k⟩ => ⟨R, C, E, fun vs C1 H1 c1 E1 r1 => by
    cases r1 with
    | cons r1 r2 =>
    cases r2 with
    | cons r2 r3 =>
    cases r3
    cases r1 with
    | tup q1 l1 r1 =>
    cases r2 with
    | tup q2 l2 r2 =>
    refine ⟨_, _, _, _, rfl, .inr ⟨E1.cH.t q1, E1.cH.t q2, k _ C1 H1 c1 E1 (by rw [zipD_len, ← r1.len]; omega) fun C2 env σ H2 c2 E2 => ⟨⟨_, _, E2.cH.t (c2.t q1), E2.cH.t (c2.t q2), by rw [zipD_len, r1.len, r2.len]; omega⟩, fun i d hd => ?_⟩⟩⟩
    obtain ⟨x, y, hx, hy, rfl⟩ := zipD_get hd
    obtain ⟨u, hu, ru⟩ := r1.getD hx
    obtain ⟨w, hw, rw⟩ := r2.getD hy
    refine ⟨⟨_, _, u, w, E2.cH.t (c2.t q1), E2.cH.t (c2.t q2), hu, hw⟩, fun z H3 hz => ?_⟩
    obtain ⟨t, u', w', rfl, ht, rfl, h1, h2⟩ := hz
    have e1 := h1 _ (E2.cH.t (c2.t q1))
    have e2 := h2 _ (E2.cH.t (c2.t q2))
    rw [hu] at e1; cases e1
    rw [hw] at e2; cases e2
    exact E2.pair ht (ru.mono c2) (rw.mono c2)⟩
theorem ji_zipL {xs ys : List PyData} (hg : glB T.sc "zip" = true) (hm : T.mg "zip" = none) (h : JA T [a, b] e0 e1 [.list xs, .list ys]) (hs : ∀ v : Env, starEach [a, b] v = (false, eval a v) :: starEach [b] v := by intro _; rfl) (hpl : ∀ v : Env, (backTo pos (starEach [b] v)).any (·.1) = false := by intro _; rfl) : JI T (.Tuple elts kk tpos) (.Call (.Name "zip" p) [a, b] [] pos) e0 e1 (zipD xs ys) := fun X hX =>
  (RZ.pi_zipA (gl_of hX hg) (by rw [hX.mg]; exact hm) (h X hX) (hs X.env) (hpl X.env)).wk fun σ H Rr' ⟨R, C, E, k⟩ => ⟨R, C, E, fun vs C1 H1 c1 E1 r1 => by
    cases r1 with
    | cons r1 r2 =>
    cases r2 with
    | cons r2 r3 =>
    cases r3
    cases r1 with
    | lst q1 l1 r1 =>
    cases r2 with
    | lst q2 l2 r2 =>
    refine ⟨_, _, _, _, rfl, .inl ⟨SqL.of (E1.cH _ _ q1), SqL.of (E1.cH _ _ q2), k _ C1 H1 c1 E1 (by rw [zipD_len, ← r1.len]; omega) fun C2 env σ H2 c2 E2 => ⟨⟨_, _, SqL.of (E2.cH _ _ (c2 _ _ q1)), SqL.of (E2.cH _ _ (c2 _ _ q2)), by rw [zipD_len, r1.len, r2.len]; omega⟩, fun i d hd => ?_⟩⟩⟩
    obtain ⟨x, y, hx, hy, rfl⟩ := zipD_get hd
    obtain ⟨u, hu, ru⟩ := r1.getD hx
    obtain ⟨w, hw, rw⟩ := r2.getD hy
    refine ⟨⟨_, _, u, w, SqL.of (E2.cH _ _ (c2 _ _ q1)), SqL.of (E2.cH _ _ (c2 _ _ q2)), hu, hw⟩, fun z H3 hz => ?_⟩
    obtain ⟨t, u', w', rfl, ht, rfl, h1, h2⟩ := hz
    have e1 := h1 _ (SqL.of (E2.cH _ _ (c2 _ _ q1)))
    have e2 := h2 _ (SqL.of (E2.cH _ _ (c2 _ _ q2)))
    rw [hu] at e1; cases e1
    rw [hw] at e2; cases e2
    exact E2.pair ht (ru.mono c2) (rw.mono c2)⟩
end
end J
namespace J
open PySem L2 PySem.Spec PyProof.Rows

/-! ### comprehensions over data of one kind -/
section
variable {T : TC} {a b e : Expr} {es : List Expr} {env e0 e1 e2 e3 : Env'} {pos p : Pos} {x y z : PyData} {ds : List PyData} {K : PySem.W.Frag} {R C C' H H' : Hp} {σ σ' : L2.St} {v : V} {st : Stmt} {rest body : List Stmt} {oc : Oc}
variable {α β : Type} {tg iter elt : Expr} {ifs : List Expr} {scope : Scope}
theorem filter_snoc {α : Type} (p : α → Bool) {xs : List α} {i : Nat} {x : α} (h : xs[i]? = some x) : (xs.take (i + 1)).filter p = (xs.take i).filter p ++ (if p x = true then [x] else []) := by
  rw [take_get h, List.filter_append]
  congr 1
  by_cases q : p x = true
  · rw [if_pos q, List.filter_cons_of_pos q]; rfl
  · rw [if_neg q, List.filter_cons_of_neg q]; rfl
/-- what a comprehension whose parts leave the environment is to show -/
structure LcP (T : TC) (scope : Scope) (tg elt : Expr) (ifs : List Expr) (own : List (Str × Nat)) (e1 : Env') (d : PyData) (c : Bool) (w : PyData) : Prop where
  ex : ∃ (js : List Nat) (E1 : Env'), js ⊆ own.map (·.2) ∧ JG (T.blk scope) tg js d e1 E1 ∧ JTs (T.blk scope) ifs E1 E1 c ∧ Le e1 E1 ∧ (c = true → JE (T.blk scope) elt E1 E1 (.d w))
theorem lcp {js : List Nat} {own : List (Str × Nat)} {E1 : Env'} {d w : PyData} {c : Bool} (hjs : js ⊆ own.map (·.2)) (hg : JG (T.blk scope) tg js d e1 E1) (ht : JTs (T.blk scope) ifs E1 E1 c) (hl : Le e1 E1) (he : c = true → JE (T.blk scope) elt E1 E1 (.d w)) : LcP T scope tg elt ifs own e1 d c w := ⟨js, E1, hjs, hg, ht, hl, he⟩
theorem lcp_turn {enc : α → PyData} {xs : List α} {own : List (Str × Nat)} {p : α → Bool} {g : α → PyData} (turn : ∀ x, x ∈ xs → LcP T scope tg elt ifs own e1 (enc x) (p x) (g x)) :
    ∀ i d, (xs.map enc)[i]? = some d → LcTurn T scope tg elt ifs (own.map (·.2)) d e1 e1 (((xs.take i).filter p).map g) (((xs.take (i + 1)).filter p).map g) := fun i d hd => by
  rw [List.getElem?_map] at hd
  cases q : xs[i]? with
  | none => rw [q] at hd; cases hd
  | some x =>
    rw [q] at hd; cases hd
    obtain ⟨js, E1, h1, h2, h3, h4, h5⟩ := (turn x (List.mem_of_getElem? q)).ex
    refine ⟨js, E1, E1, p x, h1, h2, h3, fun hp => ⟨E1, g x, h5 hp, h4, ?_⟩, fun hp => ⟨h4, ?_⟩⟩
    · rw [filter_snoc p q, if_pos hp, List.map_append]; rfl
    · rw [filter_snoc p q, if_neg (by rw [hp]; exact Bool.false_ne_true), List.append_nil]
theorem je_lc {enc : α → PyData} {xs : List α} (own : List (Str × Nat)) (p : α → Bool) (g : α → PyData) (hi : JI T tg iter e0 e1 (xs.map enc)) (hnd : T.N.Nodup) (ok : blkC T.N T.sc scope own = true) (hu : unk e1 (own.map (·.2)))
    (turn : ∀ x, x ∈ xs → LcP T scope tg elt ifs own e1 (enc x) (p x) (g x)) (hs : ∀ (v : Env) x, foldedSetIterable iter v x = pure x := by intro _ _; rfl) : JE T (.ListComp elt [⟨tg, iter, ifs, 0⟩] scope pos) e0 e1 (.o (.list ((xs.filter p).map g))) := by
  have := je_lcG (pos := pos) (elt := elt) (ifs := ifs) (scope := scope) own (fun _ => e1) (fun i => ((xs.take i).filter p).map g) hi hnd ok rfl (by simp) (fun _ _ => hu) (lcp_turn turn) hs
  simpa using this
theorem js_setLc {enc : α → PyData} {xs : List α} (i : Nat) {nm : Str} {py spos : Pos} (own : List (Str × Nat)) (p : α → Bool) (g : α → PyData) (hi : JI T tg iter e0 e1 (xs.map enc)) (hnd : T.N.Nodup) (ok : blkC T.N T.sc scope own = true) (hu : unk e1 (own.map (·.2)))
    (turn : ∀ x, x ∈ xs → LcP T scope tg elt ifs own e1 (enc x) (p x) (g x)) (hN : T.N[i]? = some nm := by rfl) (hl : T.sc.names.lookup nm = some .local := by rfl) (hk : T.sc.kind = .function := by rfl) (hpl : (py.line == pos.line) = true := by rfl) (ha : (scope.names.any fun (n, k) => n == nm && (k == .local || k == .cell)) = false := by decide +kernel) (hs : ∀ (v : Env) x, foldedSetIterable iter v x = pure x := by intro _ _; rfl) :
    JS T (.Assign [.Name nm py] (.ListComp elt [⟨tg, iter, ifs, 0⟩] scope pos) spos) e0 (.nx (e1.set i (.o none (.list ((xs.filter p).map g))))) := by
  have := js_setLcG (py := py) (spos := spos) (pos := pos) (elt := elt) (ifs := ifs) (scope := scope) i own (fun _ => e1) (fun i => ((xs.take i).filter p).map g) hi hnd ok rfl (by simp) (fun _ _ => hu) (lcp_turn turn) hN hl hk hpl ha hs
  simpa using this
/-- name = .. where the name is a cell: an ordinary store -/
theorem sw_false {elt : Expr} {gs : List Comprehension} {scope : Scope} {pos py : Pos} {y : Str} {T : TC} (hy : T.sc.names.lookup y = some .cell) (v : Env) (hv : v.scope = T.sc) (l : Nat) : swapsWith (.ListComp elt gs scope pos) (some (.Name y py)) l v = pure false := by
  have ky : v.kindOf y = some .cell := by unfold Env.kindOf; rw [hv]; exact hy
  unfold swapsWith
  simp only [ky]
  have : ((some NameKind.cell : Option NameKind) == some NameKind.local) = false := by decide
  simp only [this, Bool.and_false, Bool.false_and]
theorem js_setC (i : Nat) {nm : Str} {pos' : Pos} {d : PyData} {elt : Expr} {gs : List Comprehension} {scope : Scope} {lpos : Pos} (hnd : T.N.Nodup) (h : JE T (.ListComp elt gs scope lpos) e0 e1 (.o d)) (hN : T.N[i]? = some nm := by rfl) (hl : T.sc.names.lookup nm = some .cell := by rfl) (hf : T.fn nm = true := by rfl) :
    JS T (.Assign [.Name nm pos'] (.ListComp elt gs scope lpos) pos) e0 (.nx (e1.set i (.o none d))) := fun X hX =>
  (ps_set (i := i) (by rw [hX.N]; exact hnd) (by rw [hX.N]; exact hN) (by rw [hX.sc]; exact .inr hl) (h X hX) (sw_false hl X.env hX.sc pos.line) (.inl (hX.fn _ hf))).wk fun D σ H ⟨R, C, E, k⟩ => ⟨R, C, E, fun v C' H' c E' ⟨p, ev, cp, rp, no, ow⟩ => by
    subst ev
    exact k _ C' H' c (E'.setO i cp rp no ow)⟩

/-! comprehensions whose elements change the environment: a state carried from element to element -/
def mapS {α β S : Type} (f : S → α → β × S) : S → List α → List β × S
  | s, [] => ([], s)
  | s, x :: xs => ((f s x).1 :: (mapS f (f s x).2 xs).1, (mapS f (f s x).2 xs).2)
theorem mapS_snoc {α β S : Type} (f : S → α → β × S) : ∀ (xs : List α) (s : S) (x : α), mapS f s (xs ++ [x]) = ((mapS f s xs).1 ++ [(f (mapS f s xs).2 x).1], (f (mapS f s xs).2 x).2)
  | [], s, x => rfl
  | y :: xs, s, x => by
    simp only [List.cons_append, mapS, mapS_snoc f xs (f s y).2 x]
structure LcD {β S : Type} (T : TC) (scope : Scope) (tg elt : Expr) (own : List (Str × Nat)) (Ev : S → Env') (dec : β → PyData) (d : PyData) (s : S) (r : β × S) : Prop where
  ex : ∃ (js : List Nat) (E1 E2 : Env'), js ⊆ own.map (·.2) ∧ JG (T.blk scope) tg js d (Ev s) E1 ∧ JE (T.blk scope) elt E1 E2 (.d (dec r.1)) ∧ Le (Ev r.2) E2
theorem lcd {β S : Type} {own : List (Str × Nat)} {Ev : S → Env'} {dec : β → PyData} {d : PyData} {s : S} {r : β × S} {js : List Nat} {E1 E2 : Env'} (hjs : js ⊆ own.map (·.2)) (hg : JG (T.blk scope) tg js d (Ev s) E1) (he : JE (T.blk scope) elt E1 E2 (.d (dec r.1))) (hl : Le (Ev r.2) E2) : LcD T scope tg elt own Ev dec d s r := ⟨js, E1, E2, hjs, hg, he, hl⟩
theorem lcd_turn {β S : Type} {enc : α → PyData} {xs : List α} {own : List (Str × Nat)} {Ev : S → Env'} {dec : β → PyData} {f : S → α → β × S} {s0 : S} (turn : ∀ s x, x ∈ xs → LcD T scope tg elt own Ev dec (enc x) s (f s x)) :
    ∀ i d, (xs.map enc)[i]? = some d → LcTurn T scope tg elt [] (own.map (·.2)) d (Ev (mapS f s0 (xs.take i)).2) (Ev (mapS f s0 (xs.take (i + 1))).2) ((mapS f s0 (xs.take i)).1.map dec) ((mapS f s0 (xs.take (i + 1))).1.map dec) := fun i d hd => by
  rw [List.getElem?_map] at hd
  cases q : xs[i]? with
  | none => rw [q] at hd; cases hd
  | some x =>
    rw [q] at hd; cases hd
    obtain ⟨js, E1, E2, h1, h2, h3, h4⟩ := (turn (mapS f s0 (xs.take i)).2 x (List.mem_of_getElem? q)).ex
    rw [take_get q, mapS_snoc]
    exact ⟨js, E1, E1, true, h1, h2, jts_nil, fun _ => ⟨E2, _, h3, h4, by rw [List.map_append]; rfl⟩, fun h => by cases h⟩
theorem je_lcD {β S : Type} {enc : α → PyData} {xs : List α} (own : List (Str × Nat)) (Ev : S → Env') (dec : β → PyData) (f : S → α → β × S) (s0 : S) (hi : JI T tg iter e0 (Ev s0) (xs.map enc)) (hnd : T.N.Nodup) (ok : blkC T.N T.sc scope own = true) (hu : ∀ s, unk (Ev s) (own.map (·.2)))
    (turn : ∀ s x, x ∈ xs → LcD T scope tg elt own Ev dec (enc x) s (f s x)) (hs : ∀ (v : Env) x, foldedSetIterable iter v x = pure x := by intro _ _; rfl) : JE T (.ListComp elt [⟨tg, iter, [], 0⟩] scope pos) e0 (Ev (mapS f s0 xs).2) (.o (.list ((mapS f s0 xs).1.map dec))) := by
  have := je_lcG (pos := pos) (elt := elt) (ifs := []) (scope := scope) own (fun i => Ev (mapS f s0 (xs.take i)).2) (fun i => (mapS f s0 (xs.take i)).1.map dec) hi hnd ok (by simp [mapS]) (by simp [mapS]) (fun _ _ => hu _) (lcd_turn turn) hs
  simpa using this
theorem js_setLcD {β S : Type} {enc : α → PyData} {xs : List α} (i : Nat) {nm : Str} {py spos : Pos} (own : List (Str × Nat)) (Ev : S → Env') (dec : β → PyData) (f : S → α → β × S) (s0 : S) (hi : JI T tg iter e0 (Ev s0) (xs.map enc)) (hnd : T.N.Nodup) (ok : blkC T.N T.sc scope own = true) (hu : ∀ s, unk (Ev s) (own.map (·.2)))
    (turn : ∀ s x, x ∈ xs → LcD T scope tg elt own Ev dec (enc x) s (f s x)) (hN : T.N[i]? = some nm := by rfl) (hl : T.sc.names.lookup nm = some .local := by rfl) (hk : T.sc.kind = .function := by rfl) (hpl : (py.line == pos.line) = true := by rfl) (ha : (scope.names.any fun (n, k) => n == nm && (k == .local || k == .cell)) = false := by decide +kernel) (hs : ∀ (v : Env) x, foldedSetIterable iter v x = pure x := by intro _ _; rfl) :
    JS T (.Assign [.Name nm py] (.ListComp elt [⟨tg, iter, [], 0⟩] scope pos) spos) e0 (.nx ((Ev (mapS f s0 xs).2).set i (.o none (.list ((mapS f s0 xs).1.map dec))))) := by
  have := js_setLcG (py := py) (spos := spos) (pos := pos) (elt := elt) (ifs := []) (scope := scope) i own (fun i => Ev (mapS f s0 (xs.take i)).2) (fun i => (mapS f s0 (xs.take i)).1.map dec) hi hnd ok (by simp [mapS]) (by simp [mapS]) (fun _ _ => hu _) (lcd_turn turn) hN hl hk hpl ha hs
  simpa using this
/-! .. whose tests change it -/
def filS {α β S : Type} (c : S → α → Bool × S) (g : α → β) : S → List α → List β × S
  | s, [] => ([], s)
  | s, x :: xs => ((if (c s x).1 = true then g x :: (filS c g (c s x).2 xs).1 else (filS c g (c s x).2 xs).1), (filS c g (c s x).2 xs).2)
theorem filS_snoc {α β S : Type} (c : S → α → Bool × S) (g : α → β) : ∀ (xs : List α) (s : S) (x : α), filS c g s (xs ++ [x]) = ((filS c g s xs).1 ++ (if (c (filS c g s xs).2 x).1 = true then [g x] else []), (c (filS c g s xs).2 x).2)
  | [], s, x => by simp only [List.nil_append, filS]; rfl
  | y :: xs, s, x => by
    simp only [List.cons_append, filS, filS_snoc c g xs (c s y).2 x]
    split <;> rfl
structure LcF {S : Type} (T : TC) (scope : Scope) (tg elt : Expr) (ifs : List Expr) (own : List (Str × Nat)) (Ev : S → Env') (d : PyData) (s : S) (r : Bool × S) (w : PyData) : Prop where
  ex : ∃ (js : List Nat) (E1 E2 : Env'), js ⊆ own.map (·.2) ∧ JG (T.blk scope) tg js d (Ev s) E1 ∧ JTs (T.blk scope) ifs E1 E2 r.1 ∧ (r.1 = true → JE (T.blk scope) elt E2 E2 (.d w)) ∧ Le (Ev r.2) E2
theorem lcf {S : Type} {own : List (Str × Nat)} {Ev : S → Env'} {d w : PyData} {s : S} {r : Bool × S} {js : List Nat} {E1 E2 : Env'} (hjs : js ⊆ own.map (·.2)) (hg : JG (T.blk scope) tg js d (Ev s) E1) (ht : JTs (T.blk scope) ifs E1 E2 r.1) (he : r.1 = true → JE (T.blk scope) elt E2 E2 (.d w)) (hl : Le (Ev r.2) E2) : LcF T scope tg elt ifs own Ev d s r w := ⟨js, E1, E2, hjs, hg, ht, he, hl⟩
theorem je_lcF {β S : Type} {enc : α → PyData} {xs : List α} (own : List (Str × Nat)) (Ev : S → Env') (dec : β → PyData) (c : S → α → Bool × S) (g : α → β) (s0 : S) (hi : JI T tg iter e0 (Ev s0) (xs.map enc)) (hnd : T.N.Nodup) (ok : blkC T.N T.sc scope own = true) (hu : ∀ s, unk (Ev s) (own.map (·.2)))
    (turn : ∀ s x, x ∈ xs → LcF T scope tg elt ifs own Ev (enc x) s (c s x) (dec (g x))) (hs : ∀ (v : Env) x, foldedSetIterable iter v x = pure x := by intro _ _; rfl) : JE T (.ListComp elt [⟨tg, iter, ifs, 0⟩] scope pos) e0 (Ev (filS c g s0 xs).2) (.o (.list ((filS c g s0 xs).1.map dec))) := by
  have := je_lcG (pos := pos) (elt := elt) (ifs := ifs) (scope := scope) own (fun i => Ev (filS c g s0 (xs.take i)).2) (fun i => (filS c g s0 (xs.take i)).1.map dec) hi hnd ok (by simp [filS]) (by simp [filS]) (fun _ _ => hu _) (fun i d hd => by
    rw [List.getElem?_map] at hd
    cases q : xs[i]? with
    | none => rw [q] at hd; cases hd
    | some x =>
      rw [q] at hd; cases hd
      obtain ⟨js, E1, E2, h1, h2, h3, h4, h5⟩ := (turn (filS c g s0 (xs.take i)).2 x (List.mem_of_getElem? q)).ex
      simp only [take_get q, filS_snoc]
      refine ⟨js, E1, E2, _, h1, h2, h3, fun hc => ⟨E2, _, h4 hc, h5, ?_⟩, fun hc => ⟨h5, ?_⟩⟩
      · rw [if_pos hc, List.map_append]; rfl
      · rw [if_neg (by rw [hc]; exact Bool.false_ne_true), List.append_nil]) hs
  simpa using this

/-! ### least and greatest, sorted -/
theorem readsAll_of {X : Cx} {pins : List (Addr × Obj)} {s : Shared} (I : L2.Inv X pins σ H s) {xs : List PyData} {vs : List V} {us : List Value} (r : Rps X.K C vs xs) (e : Ex C H) (hv : Vals vs us) (hp : pureAll xs = true) : ∃ as, ReadsAll s.heap us xs as :=
  Dp.readsAll I xs vs us ((r.mono e).dps hp) hv
end
end J
namespace J
open PySem L2 PySem.Spec PyProof.Rows PySem.W

/-! ### least, greatest, sorted -/
theorem foldl_pick {α : Type} (f : α → α → Bool) : ∀ (xs : List α) (x : α), xs.foldl (fun a y => if f y a = true then y else a) x ∈ x :: xs
  | [], x => by simp
  | y :: xs, x => by
    have := foldl_pick f xs (if f y x = true then y else x)
    rw [List.foldl_cons]
    rcases List.mem_cons.mp this with h | h
    · rw [h]; split <;> simp
    · exact List.mem_cons_of_mem _ (List.mem_cons_of_mem _ h)
theorem minD_mem (x : PyData) (xs : List PyData) : minD x xs ∈ x :: xs := foldl_pick dataLt xs x
theorem maxD_mem (x : PyData) (xs : List PyData) : maxD x xs ∈ x :: xs := foldl_pick (fun y a => dataLt a y) xs x
theorem isList_of {h : Heap} {a : Addr} {its : Array Value} (p : PlainL h a its) : h.IsList a its := p.isList
section
variable {X : Cx}
/-- the i-th one is the one -/
def rBest (best : PyData → List PyData → PyData) (K : PySem.W.Frag) : List V → Hp → VK → Prop := fun vs H Q => ∃ (a : Addr) (ys : List V) (x : PyData) (xs : List PyData), vs = [.ref a] ∧ (SqL K H a ys ∨ SqT K H a ys) ∧ DpAll K H ys (x :: xs) ∧ AlikeAll (x :: xs) ∧ PyData.depthAll (x :: xs) ≤ 64 ∧
  ∀ (i : Nat) w, ys[i]? = some w → (x :: xs)[i]? = some (best x xs) → Q w H
theorem at_best {h : Heap} {best : PyData → List PyData → PyData} (hb : ∀ x xs, best x xs ∈ x :: xs) {x : PyData} {xs : List PyData} {us : List Value} {as bs : List Addr} {i : Nat} {u : Value} (al : AlikeAll (x :: xs)) (r : ReadsAll h us (x :: xs) as) (hu : us[i]? = some u) (hr : Reads h u (best x xs) bs) : (x :: xs)[i]? = some (best x xs) := by
  obtain ⟨cs, h1, h2, h3, _⟩ := readsAll_at (vs := us) r i u (by simpa using hu)
  have e := alike_unique _ _ u cs bs (al.1 _ h3 _ (hb x xs)) h1 hr
  rw [← e, List.getD_eq_getElem?_getD, List.getElem?_eq_getElem h2]
  rfl
theorem cr_minD (hc : X.calm = true) (hu : X.A.units + 200 < cLine) : CallR X (.builtin "min") (rBest minD X.K) := by
  intro pins s σ H xs us Q I rv h
  obtain ⟨a, ys, x, ds, rfl, hq, hd, al, dp, q⟩ := h
  have eu := Vals.ref1 rv
  subst eu
  have fin : ∀ (its : List Value), Vals ys its → ∀ (i : Nat) v h' tk bs, its.toArray[i]? = some v → Reads h' v (minD x ds) bs → (∀ b o, s.heap.get? b = some o → h'.get? b = some o) → EP X pins σ Q v { s with heap := h', toks := tk } := fun its r i v h' tk bs hv hr hk => by
    obtain ⟨as, ra⟩ := Dp.readsAll I (x :: ds) ys its hd r
    have hv' : its[i]? = some v := by simpa using hv
    have hi := at_best minD_mem al (ReadsAll.keeps hk ra) hv' hr
    have hl : i < ys.length := by rw [r.length]; exact (List.getElem?_eq_some_iff.mp hv').1
    obtain ⟨u, hu', ru⟩ := r.get (List.getElem?_eq_getElem hl)
    rw [hv'] at hu'; cases hu'
    exact ⟨_, H, I.kept (t' := tk) hk, ru, q i _ (List.getElem?_eq_getElem hl) hi⟩
  rcases hq with hq | hq
  · obtain ⟨its, r, pl, hz⟩ := I.list hq
    obtain ⟨as, ra⟩ := Dp.readsAll I (x :: ds) ys its hd r
    exact min_list_data (I.ok.hd hc) pl.isList (by simpa using ra) al (by omega) (fin its r)
  · obtain ⟨its, r, pl, hz⟩ := I.tuple hq
    obtain ⟨as, ra⟩ := Dp.readsAll I (x :: ds) ys its hd r
    exact min_tuple_data (I.ok.hd hc) pl (by simpa using ra) al (by omega) (fin its r)
theorem cr_maxD (hc : X.calm = true) (hu : X.A.units + 200 < cLine) : CallR X (.builtin "max") (rBest maxD X.K) := by
  intro pins s σ H xs us Q I rv h
  obtain ⟨a, ys, x, ds, rfl, hq, hd, al, dp, q⟩ := h
  have eu := Vals.ref1 rv
  subst eu
  have fin : ∀ (its : List Value), Vals ys its → ∀ (i : Nat) v h' tk bs, its.toArray[i]? = some v → Reads h' v (maxD x ds) bs → (∀ b o, s.heap.get? b = some o → h'.get? b = some o) → EP X pins σ Q v { s with heap := h', toks := tk } := fun its r i v h' tk bs hv hr hk => by
    obtain ⟨as, ra⟩ := Dp.readsAll I (x :: ds) ys its hd r
    have hv' : its[i]? = some v := by simpa using hv
    have hi := at_best maxD_mem al (ReadsAll.keeps hk ra) hv' hr
    have hl : i < ys.length := by rw [r.length]; exact (List.getElem?_eq_some_iff.mp hv').1
    obtain ⟨u, hu', ru⟩ := r.get (List.getElem?_eq_getElem hl)
    rw [hv'] at hu'; cases hu'
    exact ⟨_, H, I.kept (t' := tk) hk, ru, q i _ (List.getElem?_eq_getElem hl) hi⟩
  rcases hq with hq | hq
  · obtain ⟨its, r, pl, hz⟩ := I.list hq
    obtain ⟨as, ra⟩ := Dp.readsAll I (x :: ds) ys its hd r
    exact max_list_data (I.ok.hd hc) pl.isList (by simpa using ra) al (by omega) (fin its r)
  · obtain ⟨its, r, pl, hz⟩ := I.tuple hq
    obtain ⟨as, ra⟩ := Dp.readsAll I (x :: ds) ys its hd r
    exact max_tuple_data (I.ok.hd hc) pl (by simpa using ra) al (by omega) (fin its r)
theorem zipR : ∀ {ys : List V} {its : List Value} {ds : List PyData}, Vals ys its → ys.length = ds.length → EachIs (fun (u : Value) (b : V × PyData) => L2.RelV b.1 u) its (ys.zip ds)
  | _, _, _, .nil, _ => .nil
  | _, _, [], .cons _ _, h => by cases h
  | _, _, d :: ds, .cons h1 t, h => .cons h1 (zipR t (by simpa using h))
theorem zipRd {h : Heap} : ∀ {ds : List PyData} {ys : List V} {its : List Value} {as : List Addr}, Vals ys its → ReadsAll h its ds as → EachIs (fun (u : Value) (b : V × PyData) => ∃ as, Reads h u b.2 as) its (ys.zip ds)
  | [], _, _, _, v, r => by cases r; cases v; exact .nil
  | d :: ds, _, _, _, v, r => by
    cases r with
    | cons r1 r2 => cases v with
      | cons v1 v2 => exact .cons ⟨_, r1⟩ (zipRd v2 r2)
theorem eachVals : ∀ {out : List Value} {zs : List (V × PyData)}, EachIs (fun (u : Value) (b : V × PyData) => L2.RelV b.1 u) out zs → Vals (zs.map (·.1)) out
  | _, _, .nil => .nil
  | _, _, .cons h t => .cons h (eachVals t)
theorem depth_mem : ∀ {ds : List PyData} {d : PyData}, d ∈ ds → d.depth ≤ PyData.depthAll ds
  | d :: ds, e, h => by
    rw [PyData.depthAll]
    rcases List.mem_cons.mp h with h | h
    · rw [h]; exact Nat.le_max_left _ _
    · exact Nat.le_trans (depth_mem h) (Nat.le_max_right _ _)
theorem dpAll_len {K : PySem.W.Frag} {H : Hp} : ∀ {ds : List PyData} {vs : List V}, DpAll K H vs ds → vs.length = ds.length
  | [], _, h => by cases h; rfl
  | d :: ds, _, h => by cases h with
    | cons h1 h2 => simp [dpAll_len h2]
/-- sorted: the values in their order by what they read as -/
def rSortD (K : PySem.W.Frag) : List V → Hp → VK → Prop := fun vs H Q => ∃ (a : Addr) (ys : List V) (ds : List PyData), vs = [.ref a] ∧ SqL K H a ys ∧ DpAll K H ys ds ∧ AllAlike ds ∧ Sortable ds ∧ PyData.depthAll ds ≤ 64 ∧
  ∀ p, H p = none → Q (.ref p) (upd H p (.lst (((ys.zip ds).mergeSort (dataLe false (·.2))).map (·.1))))
theorem cr_sortD (hu : X.A.units + 200 < cLine) : CallR X (.builtin "sorted") (rSortD X.K) := by
  intro pins s σ H xs us Q I rv h
  obtain ⟨a, ys, ds, rfl, hq, hd, al, so, dp, q⟩ := h
  have eu := Vals.ref1 rv
  subst eu
  obtain ⟨its, r, pl, hz⟩ := I.list hq
  obtain ⟨as, ra⟩ := Dp.readsAll I ds ys its hd r
  have hlen : ys.length = ds.length := dpAll_len hd
  have e1 : (ys.zip ds).map (·.2) = ds := List.map_snd_zip (by omega)
  have R1 := zipR r hlen
  have R2 := zipRd r ra
  have hdep : ∀ b, b ∈ ys.zip ds → X.A.units + 2 + b.2.depth < cLine := fun b hb => by
    have hm : b.2 ∈ ds := by
      have : b.2 ∈ (ys.zip ds).map (·.2) := List.mem_map.mpr ⟨b, hb, rfl⟩
      rw [e1] at this; exact this
    have := depth_mem hm
    omega
  refine sorted_data (R := fun (u : Value) (b : V × PyData) => RelV b.1 u) (enc := fun b => b.2) (bs := ys.zip ds) pl.isList R1 R2 (by rw [e1]; exact al) (by rw [e1]; exact so) (by rw [List.length_zip]; omega) hdep fun out ho hout => ?_
  obtain ⟨e, he⟩ := sortedAll_at s.heap its out.toArray
  have hv := eachVals hout
  have hn : H (s.heap.objs.size + 1) = none := I.hok.fresh (Nat.le_succ _)
  refine ⟨.ref (s.heap.objs.size + 1), _, I.laid (a := s.heap.objs.size + 1) (o := .lst _) (t' := s.toks) (fun b ob q => sortedAll_old q) (Nat.le_succ _) ?_, rfl, q _ hn⟩
  exact ⟨by rw [List.length_map, List.length_mergeSort, List.length_zip]; omega, out, e, hv, he⟩
end
section
variable {T : TC} {a b e : Expr} {es : List Expr} {env e0 e1 e2 e3 : Env'} {pos p : Pos} {x y z : PyData} {ds : List PyData} {K : PySem.W.Frag} {R C C' H H' : Hp} {σ σ' : L2.St} {v : V}
theorem shN_all {n : Nat} {xs : List PyData} (h : shN (n + 1) (.list xs) = true) : pureAll xs = true ∧ PyData.depthAll xs ≤ n := by
  have h' : ∀ x ∈ xs, shN n x = true := by simpa [shN] using h
  exact ⟨pureAll_of fun x hx => (shN_of (h' x hx)).1, depthAll_le fun x hx => (shN_of (h' x hx)).2⟩
theorem room_units {X : Cx} (hX : CT X T) : X.A.units + 200 < cLine := by have := hX.room.un; omega
theorem best_list {best : PyData → List PyData → PyData} {x : PyData} {xs : List PyData} (al : AlikeAll (x :: xs)) (sh : shN 64 (.list (x :: xs)) = true) : CallOk1 T (rBest best) (.list (x :: xs)) (.d (best x xs)) := fun R C H env σ v Q E hv k => by
  obtain ⟨p, vs, rfl, h1, l1, r1⟩ := rb_lst E hv
  obtain ⟨q1, q2⟩ := shN_all (n := 63) sh
  refine ⟨p, vs, x, xs, rfl, .inl (SqL.of h1), (r1.mono E.cH).dps q1, al, by omega, fun i w hw hi => ?_⟩
  obtain ⟨d, hd, rd⟩ := r1.get hw
  rw [hi] at hd; cases hd
  exact k w C H (Ex.refl C) E rd
theorem best_tup {best : PyData → List PyData → PyData} {x : PyData} {xs : List PyData} (al : AlikeAll (x :: xs)) (sh : shN 64 (.list (x :: xs)) = true) : CallOk1 T (rBest best) (.tuple (x :: xs)) (.d (best x xs)) := fun R C H env σ v Q E hv k => by
  obtain ⟨p, vs, rfl, h1, c1, l1, r1⟩ := rb_tup E hv
  obtain ⟨q1, q2⟩ := shN_all (n := 63) sh
  refine ⟨p, vs, x, xs, rfl, .inr h1, (r1.mono E.cH).dps q1, al, by omega, fun i w hw hi => ?_⟩
  obtain ⟨d, hd, rd⟩ := r1.get hw
  rw [hi] at hd; cases hd
  exact k w C H (Ex.refl C) E rd
/-- the first of the least, by what they read as -/
def pyMin {α : Type} [Inhabited α] (enc : α → PyData) : List α → α
  | [] => default
  | x :: xs => xs.foldl (fun a y => if dataLt (enc y) (enc a) = true then y else a) x
def pyMax {α : Type} [Inhabited α] (enc : α → PyData) : List α → α
  | [] => default
  | x :: xs => xs.foldl (fun a y => if dataLt (enc a) (enc y) = true then y else a) x
def pySort {α : Type} (enc : α → PyData) (xs : List α) : List α := xs.mergeSort (dataLe false enc)
theorem fold_enc {α : Type} (enc : α → PyData) (f : PyData → PyData → Bool) : ∀ (xs : List α) (x : α), enc (xs.foldl (fun a y => if f (enc y) (enc a) = true then y else a) x) = (xs.map enc).foldl (fun a y => if f y a = true then y else a) (enc x)
  | [], _ => rfl
  | y :: xs, x => by
    rw [List.foldl_cons, List.map_cons, List.foldl_cons, fold_enc enc f xs]
    congr 1
    split <;> rfl
theorem pyMin_enc {α : Type} [Inhabited α] (enc : α → PyData) (x : α) (xs : List α) : enc (pyMin enc (x :: xs)) = minD (enc x) (xs.map enc) := fold_enc enc dataLt xs x
theorem pyMax_enc {α : Type} [Inhabited α] (enc : α → PyData) (x : α) (xs : List α) : enc (pyMax enc (x :: xs)) = maxD (enc x) (xs.map enc) := fold_enc enc (fun y a => dataLt a y) xs x
/-- alike, all of them -/
def AlkE {α : Type} (enc : α → PyData) : Prop := (∀ a b, alike (enc a) (enc b) = true) ∧ ∀ a, enc a ≠ .none
theorem AlkE.all {α : Type} {enc : α → PyData} (h : AlkE enc) (xs : List α) : AlikeAll (xs.map enc) := ⟨fun x hx y hy => by
  obtain ⟨a, _, rfl⟩ := List.mem_map.mp hx
  obtain ⟨b, _, rfl⟩ := List.mem_map.mp hy
  exact h.1 a b, fun x hx => by
  obtain ⟨a, _, rfl⟩ := List.mem_map.mp hx
  exact h.2 a⟩
variable {α : Type} [Inhabited α] {enc : α → PyData} {xs : List α}
theorem je_minL (hg : glB T.sc "min" = true) (hm : T.mg "min" = none) (ha : JE T e e0 e1 (.b (.list (xs.map enc)))) (al : AlkE enc) (hne : xs ≠ []) (sh : shN 64 (.list (xs.map enc)) = true := by simp [shN]) (hp : Plain e [] pos := by exact ⟨fun _ => rfl, fun _ => rfl⟩) : JE T (.Call (.Name "min" p) [e] [] pos) e0 e1 (.d (enc (pyMin enc xs))) := by
  cases xs with
  | nil => exact absurd rfl hne
  | cons x xs =>
    rw [pyMin_enc (enc := enc) x xs]
    exact je_bi1 (r := rBest minD) (fun X hX => cr_minD hX.calm (room_units hX)) hg hm (by decide +kernel) ha (best_list (al.all (x :: xs)) sh) hp
theorem je_maxL (hg : glB T.sc "max" = true) (hm : T.mg "max" = none) (ha : JE T e e0 e1 (.b (.list (xs.map enc)))) (al : AlkE enc) (hne : xs ≠ []) (sh : shN 64 (.list (xs.map enc)) = true := by simp [shN]) (hp : Plain e [] pos := by exact ⟨fun _ => rfl, fun _ => rfl⟩) : JE T (.Call (.Name "max" p) [e] [] pos) e0 e1 (.d (enc (pyMax enc xs))) := by
  cases xs with
  | nil => exact absurd rfl hne
  | cons x xs =>
    rw [pyMax_enc (enc := enc) x xs]
    exact je_bi1 (r := rBest maxD) (fun X hX => cr_maxD hX.calm (room_units hX)) hg hm (by decide +kernel) ha (best_list (al.all (x :: xs)) sh) hp
theorem je_minT (hg : glB T.sc "min" = true) (hm : T.mg "min" = none) (ha : JE T e e0 e1 (.b (.tuple (xs.map enc)))) (al : AlkE enc) (hne : xs ≠ []) (sh : shN 64 (.list (xs.map enc)) = true := by simp [shN]) (hp : Plain e [] pos := by exact ⟨fun _ => rfl, fun _ => rfl⟩) : JE T (.Call (.Name "min" p) [e] [] pos) e0 e1 (.d (enc (pyMin enc xs))) := by
  cases xs with
  | nil => exact absurd rfl hne
  | cons x xs =>
    rw [pyMin_enc (enc := enc) x xs]
    exact je_bi1 (r := rBest minD) (fun X hX => cr_minD hX.calm (room_units hX)) hg hm (by decide +kernel) ha (best_tup (al.all (x :: xs)) sh) hp
theorem je_maxT (hg : glB T.sc "max" = true) (hm : T.mg "max" = none) (ha : JE T e e0 e1 (.b (.tuple (xs.map enc)))) (al : AlkE enc) (hne : xs ≠ []) (sh : shN 64 (.list (xs.map enc)) = true := by simp [shN]) (hp : Plain e [] pos := by exact ⟨fun _ => rfl, fun _ => rfl⟩) : JE T (.Call (.Name "max" p) [e] [] pos) e0 e1 (.d (enc (pyMax enc xs))) := by
  cases xs with
  | nil => exact absurd rfl hne
  | cons x xs =>
    rw [pyMax_enc (enc := enc) x xs]
    exact je_bi1 (r := rBest maxD) (fun X hX => cr_maxD hX.calm (room_units hX)) hg hm (by decide +kernel) ha (best_tup (al.all (x :: xs)) sh) hp
omit [Inhabited α] in
theorem rps_pairs {vs : List V} {ds : List PyData} (r : Rps K C vs ds) : ∀ b ∈ vs.zip ds, Rp K C b.1 b.2 := by
  intro b hb
  obtain ⟨i, hi⟩ := List.mem_iff_getElem?.mp hb
  obtain ⟨v, d⟩ := b
  rw [List.getElem?_zip_eq_some] at hi
  obtain ⟨d', h1, h2⟩ := r.get hi.1
  rw [hi.2] at h1; cases h1; exact h2
omit [Inhabited α] in
theorem rps_of_pairs : ∀ {zs : List (V × PyData)}, (∀ b ∈ zs, Rp K C b.1 b.2) → Rps K C (zs.map (·.1)) (zs.map (·.2))
  | [], _ => .nil
  | z :: zs, h => .cons (h z (by simp)) (rps_of_pairs fun b hb => h b (by simp [hb]))
/-- what may be sorted -/
def SrtE {α : Type} (enc : α → PyData) : Prop := (∀ a, ∃ x r, enc a = .tuple (x :: r)) ∨ ∀ a, ∀ xs, enc a ≠ .tuple xs
omit [Inhabited α] in
theorem je_sortL (hg : glB T.sc "sorted" = true) (hm : T.mg "sorted" = none) (ha : JE T e e0 e1 (.b (.list (xs.map enc)))) (al : AlkE enc) (so : SrtE enc) (sh : shN 64 (.list (xs.map enc)) = true := by simp [shN]) (hp : Plain e [] pos := by exact ⟨fun _ => rfl, fun _ => rfl⟩) : JE T (.Call (.Name "sorted" p) [e] [] pos) e0 e1 (.o (.list ((pySort enc xs).map enc))) :=
  je_bi1 (r := rSortD) (fun X hX => cr_sortD (room_units hX)) hg hm (by decide +kernel) ha (fun R C H env σ v Q E hv k => by
    obtain ⟨p, vs, rfl, h1, l1, r1⟩ := rb_lst E hv
    obtain ⟨q1, q2⟩ := shN_all (n := 63) sh
    have aa := al.all xs
    refine ⟨p, vs, xs.map enc, rfl, SqL.of h1, (r1.mono E.cH).dps q1, aa.1, ?_, by omega, fun q hq => ?_⟩
    · rcases so with so | so
      · left; intro d hd
        obtain ⟨a, _, rfl⟩ := List.mem_map.mp hd
        exact so a
      · right; intro d hd
        obtain ⟨a, _, rfl⟩ := List.mem_map.mp hd
        exact ⟨al.2 a, so a⟩
    · have e1 : (vs.zip (xs.map enc)).map (·.2) = xs.map enc := List.map_snd_zip (by rw [r1.len]; exact Nat.le_refl _)
      have key : ((vs.zip (xs.map enc)).mergeSort (dataLe false (·.2))).map (·.2) = (pySort enc xs).map enc := by
        rw [sort_maps (r := dataLe false fun b : V × PyData => b.2) (s := dataLe false fun d => d) (fun b : V × PyData => b.2) (fun _ _ _ _ => rfl), e1]
        unfold pySort
        rw [sort_maps (r := dataLe false enc) (s := dataLe false fun d => d) enc (fun _ _ _ _ => rfl)]
      have rr := rps_of_pairs (zs := (vs.zip (xs.map enc)).mergeSort (dataLe false (·.2))) (K := T.K) (C := C) fun b hb => rps_pairs r1 b (List.mem_mergeSort.mp hb)
      rw [key] at rr
      obtain ⟨E', r⟩ := E.freshO hq (by rw [List.length_map, List.length_mergeSort, List.length_zip]; omega) rr
      exact k _ C _ (Ex.refl C) E' r) hp
end
end J
namespace J
open PySem L2 PySem.Spec PyProof.Rows PySem.W

/-! ### a def by its body -/
def startE (N : List Str) (ds : List PyData) : Env' := ds.map .d ++ List.replicate (N.length - ds.length) .u
def uE (N : List Str) : Env' := List.replicate N.length .u
/-- a named value -/
def Let {α : Type} {ρ : Sort _} (a : α) (k : α → ρ) : ρ := k a
section
variable {P : Program} {w : World} {K : PySem.W.Frag} {mg : Str → Option Value} {base : Heap}
abbrev tc (P : Program) (w : World) (K : PySem.W.Frag) (mg : Str → Option Value) (base : Heap) (N : List Str) (st : Stmt) (k : Nat) : TC := ⟨P, w, K, mg, base, N, defScope st, fun _ => true, k⟩
theorem ct_def {N : List Str} {qual : Str} {st : Stmt} {f : Addr} {cdv : Value} {A : Around} {outer : List Env} {s : Shared} {H : Hp} {E : XK} {k : Nat} (hd : (A.deeper (envOfC qual (defScope st) s.heap.objs.size f cdv)).handled = none) (hr : Room k (A.deeper (envOfC qual (defScope st) s.heap.objs.size f cdv))) :
    CT (cxOf CX0 P w K mg base N qual (defScope st) f cdv A outer s H E).nox (tc P w K mg base N st k) := ⟨rfl, rfl, rfl, rfl, rfl, rfl, rfl, rfl, hr, fun _ _ => rfl, rfl⟩
/-- all that is not in C -/
def frameOf (C H : Hp) : Hp := fun p => match C p with
  | none => H p
  | some _ => none
theorem frameOf_some {C H : Hp} {p : Addr} {o : HO} (h : frameOf C H p = some o) : C p = none ∧ H p = some o := by
  unfold frameOf at h
  cases q : C p with
  | none => rw [q] at h; exact ⟨rfl, h⟩
  | some u => rw [q] at h; cases h
theorem frameOf_of {C H : Hp} {p : Addr} {o : HO} (h : H p = some o) (c : C p = none) : frameOf C H p = some o := by
  unfold frameOf; rw [c]; exact h
theorem start_get {N : List Str} {vs : List V} {i : Nat} {v : V} (h : vs[i]? = some v) : (start N vs)[i]? = some (some v) := by
  unfold L2.start
  have hi := (List.getElem?_eq_some_iff.mp h).1
  rw [List.getElem?_append_left (by simpa using hi), List.getElem?_map, h]; rfl
theorem envC_start {N : List Str} {vs : List V} {ds : List PyData} {C H : Hp} (hl : vs.length ≤ N.length) (r : Rps K C vs ds) (e : Ex C H ∧ Lk C) : EnvC K (frameOf C H) C (startE N ds) (start N vs) H := by
  have hds := r.len
  have key : ∀ (i : Nat) (s : Sl), (startE N ds)[i]? = some s → s = .u ∨ ∃ d, s = .d d ∧ ds[i]? = some d := fun i s h => by
    unfold startE at h
    by_cases hi : i < ds.length
    · rw [List.getElem?_append_left (by simpa using hi), List.getElem?_map, List.getElem?_eq_getElem hi] at h
      cases h
      exact .inr ⟨_, rfl, List.getElem?_eq_getElem hi⟩
    · rw [List.getElem?_append_right (by simpa using hi), List.getElem?_replicate] at h
      split at h
      · cases h; exact .inl rfl
      · cases h
  refine ⟨?_, e.1, fun p o h => (frameOf_some h).2, fun p h => ?_, fun i x h => ?_, fun i q x h => ?_, fun i j q q' x y p h => ?_, e.2⟩
  · unfold startE L2.start; simp; omega
  · cases q : frameOf C H p with
    | none => exact absurd q h
    | some o => exact (frameOf_some q).1
  · rcases key i _ h with z | ⟨d, z, hd⟩
    · cases z
    · cases z
      obtain ⟨v, hv, rv⟩ := r.getD hd
      exact ⟨v, start_get hv, rv⟩
  · rcases key i _ h with z | ⟨d, z, hd⟩ <;> cases z
  · rcases key i _ h with z | ⟨d, z, hd⟩ <;> cases z
theorem rps_lens {K : PySem.W.Frag} {C : Hp} : ∀ {ds : List PyData} {vs : List V}, Rps K C vs ds → ∀ d ∈ ds, lenOk d
  | [], _, _ => fun d h => by cases h
  | d :: ds, _, .cons h r => fun e he => by
    rcases List.mem_cons.mp he with he | he
    · rw [he]; exact h.lenOk
    · exact rps_lens r e he
theorem fn_ok {A ρ : Type} {x qual : Str} {st : Stmt} {f : Addr} {fd : FuncData} {N ps : List Str} {k : Nat} (F : Fun K x qual st f fd) (S : FnScope N ps (defScope st)) {pre : A → Prop} {args : A → List PyData} (cr : ρ → PyData) (fr : A → ρ) (hlen : ∀ a, (args a).length = ps.length) (hN : ps.length ≤ N.length)
    (hbody : ∀ a, pre a → (∀ d ∈ args a, lenOk d) → JB (tc P w K mg base N st k) cr (fun _ => uE N) (defBody st) (startE N (args a)) (fr a)) : FnOk P w K mg base CX0 (k + 1) f fd ps (SpD K pre args (fun a => cr (fr a))) := by
  refine F.ok S (fun vs H Q E h => ?_) (fun cdv A' outer s H vs Q E hr h => ?_)
  · obtain ⟨a, C, _, _, r, _⟩ := h
    rw [r.len]; exact hlen a
  · obtain ⟨a, C, hp, e, r, kk⟩ := h
    refine ⟨_, hbody a hp (rps_lens r) _ (ct_def hr.hd hr), frameOf C H, C, envC_start (by rw [r.len, hlen a]; exact hN) r e, ?_⟩
    exact fun v σ' C' H' c E' r' => kk v C' H' c ⟨E'.cH, E'.lk⟩ (fun p o h1 h2 => ⟨E'.rH _ _ (frameOf_of h1 h2), E'.rc p (by rw [frameOf_of h1 h2]; simp)⟩) r'
/-- a def that hands back a new object -/
theorem fn_okF {A : Type} {x qual : Str} {st : Stmt} {f : Addr} {fd : FuncData} {N ps : List Str} {k : Nat} (F : Fun K x qual st f fd) (S : FnScope N ps (defScope st)) {pre : A → Prop} {args : A → List PyData} {res : A → PyData} (hlen : ∀ a, (args a).length = ps.length) (hN : ps.length ≤ N.length)
    (hbody : ∀ a, pre a → (∀ d ∈ args a, lenOk d) → ∃ e, JSs (tc P w K mg base N st k) (defBody st) (startE N (args a)) (.rt (.o (res a)) e)) : FnOk P w K mg base CX0 (k + 1) f fd ps (SpF K pre args res) := by
  refine F.ok S (fun vs H Q E h => ?_) (fun cdv A' outer s H vs Q E hr h => ?_)
  · obtain ⟨a, C, _, _, r, _⟩ := h
    rw [r.len]; exact hlen a
  · obtain ⟨a, C, hp, e, r, kk⟩ := h
    obtain ⟨er, hb⟩ := hbody a hp (rps_lens r)
    refine ⟨_, hb _ (ct_def hr.hd hr), frameOf C H, C, envC_start (by rw [r.len, hlen a]; exact hN) r e, ?_⟩
    rintro v σ' C' H' c E' ⟨p, rfl, cp, rp, no, ow⟩
    refine kk p C' H' c ⟨E'.cH, E'.lk⟩ (fun p o h1 h2 => ⟨E'.rH _ _ (frameOf_of h1 h2), E'.rc p (by rw [frameOf_of h1 h2]; simp)⟩) ?_ cp ow
    cases q : H p with
    | none => rfl
    | some o =>
      cases q2 : C p with
      | none => rw [frameOf_of q q2] at rp; cases rp
      | some u => rw [c p u q2] at cp; cases cp
/-- a def whose first argument is an object that it changes -/
def startO (N : List Str) (p : Addr) (d : PyData) (ds : List PyData) : Env' := .o (some p) d :: (ds.map .d ++ List.replicate (N.length - 1 - ds.length) .u)
def endO (N : List Str) (p : Addr) (d : PyData) : Env' := .o (some p) d :: List.replicate (N.length - 1) .u
theorem fn_okO {A ρ : Type} {x qual : Str} {st : Stmt} {f : Addr} {fd : FuncData} {N ps : List Str} {k : Nat} (F : Fun K x qual st f fd) (S : FnScope N ps (defScope st)) {pre : A → Prop} {d0 : A → PyData} {args : A → List PyData} (cr : ρ → PyData) (d1 : ρ → PyData) (fr : A → ρ) (hlen : ∀ a, (args a).length + 1 = ps.length) (hN : ps.length ≤ N.length)
    (hbody : ∀ a (p : Addr), pre a → (∀ d ∈ args a, lenOk d) → JB (tc P w K mg base N st k) cr (fun r => endO N p (d1 r)) (defBody st) (startO N p (d0 a) (args a)) (fr a)) : FnOk P w K mg base CX0 (k + 1) f fd ps (SpO K pre d0 (fun a => d1 (fr a)) args (fun a => cr (fr a))) := by
  refine F.ok S (fun vs H Q E h => ?_) (fun cdv A' outer s H vs Q E hr h => ?_)
  · obtain ⟨a, C, p, vs', rfl, _, _, _, _, r, _⟩ := h
    rw [List.length_cons, r.len]; exact hlen a
  · obtain ⟨a, C, p, vs', rfl, hp, e, cp, ow, r, kk⟩ := h
    have hl := hlen a
    have hr' := r.len
    let R : Hp := fun q => if q = p then none else frameOf C H q
    have rS : ∀ {q : Addr} {o : HO}, R q = some o → q ≠ p ∧ C q = none ∧ H q = some o := fun {q o} h => by
      by_cases hq : q = p
      · simp only [R, hq, if_true] at h; cases h
      · simp only [R, if_neg hq] at h
        exact ⟨hq, frameOf_some h⟩
    have rO : ∀ {q : Addr} {o : HO}, q ≠ p → H q = some o → C q = none → R q = some o := fun {q o} h1 h2 h3 => by
      simp only [R, if_neg h1]; exact frameOf_of h2 h3
    have key : ∀ (i : Nat) (s : Sl), (startO N p (d0 a) (args a))[i]? = some s → s = .u ∨ (i = 0 ∧ s = .o (some p) (d0 a)) ∨ ∃ j d, i = j + 1 ∧ s = .d d ∧ (args a)[j]? = some d := fun i s h => by
      cases i with
      | zero => exact .inr (.inl ⟨rfl, by simpa [startO] using h.symm⟩)
      | succ j =>
        simp only [startO, List.getElem?_cons_succ] at h
        by_cases hi : j < (args a).length
        · rw [List.getElem?_append_left (by simpa using hi), List.getElem?_map, List.getElem?_eq_getElem hi] at h
          cases h
          exact .inr (.inr ⟨j, _, rfl, rfl, List.getElem?_eq_getElem hi⟩)
        · rw [List.getElem?_append_right (by simpa using hi), List.getElem?_replicate] at h
          split at h
          · cases h; exact .inl rfl
          · cases h
    have E0 : EnvC K R C (startO N p (d0 a) (args a)) (start N (.ref p :: vs')) H := by
      refine ⟨?_, e.1, fun q o h => (rS h).2.2, fun q h => ?_, fun i x h => ?_, fun i q x h => ?_, fun i j q q' x y t h1 h2 s1 s2 => ?_, e.2⟩
      · unfold startO L2.start; simp; omega
      · cases q' : R q with
        | none => exact absurd q' h
        | some o => exact (rS q').2.1
      · rcases key i _ h with z | ⟨_, z⟩ | ⟨j, d, rfl, z, hd⟩
        · cases z
        · cases z
        · cases z
          obtain ⟨v, hv, rv⟩ := r.getD hd
          exact ⟨v, start_get (by simpa using hv), rv⟩
      · rcases key i _ h with z | ⟨hi, z⟩ | ⟨j, d, rfl, z, hd⟩
        · cases z
        · cases z; subst hi
          exact ⟨p, start_get rfl, fun p' hp' => by cases hp'; rfl, cp, by simp [R], ow⟩
        · cases z
      · rcases key i _ h1 with z | ⟨hi, z⟩ | ⟨_, d, _, z, _⟩
        · cases z
        · rcases key j _ h2 with z | ⟨hj, z⟩ | ⟨_, d, _, z, _⟩
          · cases z
          · rw [hi, hj]
          · cases z
        · cases z
    refine ⟨_, hbody a p hp (rps_lens r) _ (ct_def hr.hd hr), R, C, E0, ?_⟩
    intro v σ' C' H' c E' r'
    obtain ⟨p', _, hq, cp', _, ow'⟩ := E'.own 0 (some p) _ rfl
    have := hq p rfl
    subst this
    exact kk v C' H' c ⟨E'.cH, E'.lk⟩ (fun q o h0 h1 h2 => ⟨E'.rH _ _ (rO h0 h1 h2), E'.rc q (by rw [rO h0 h1 h2]; simp)⟩) cp' ow' r'
end

/-! ### blocks that go on, by what they carry -/
section
variable {T : TC} {a b e : Expr} {es : List Expr} {env e0 e1 e2 e3 : Env'} {pos p : Pos} {x y z : PyData} {ds : List PyData} {st : Stmt} {rest body A B : List Stmt} {oc : Oc}
def JN (T : TC) {L : Type} (E : L → Env') (sts : List Stmt) (env : Env') (l : L) : Prop := ∃ e', JSs T sts env (.nx e') ∧ Le (E l) e'
section
variable {L : Type} {E : L → Env'}
theorem jn_nil {l : L} (h : Le (E l) env) : JN T E [] env l := ⟨_, jss_nil, h⟩
theorem jn_cons {l : L} (h : JS T st e0 (.nx e1)) (h' : JN T E rest e1 l) : JN T E (st :: rest) e0 l := by
  obtain ⟨e', h1, h2⟩ := h'
  exact ⟨e', jss_cons h h1, h2⟩
theorem jn_let {α : Type} {F : α → Env'} {v : α} {k : α → L} (h : ∀ x, x = v → JN T E rest (F x) (k x)) : JN T E rest (F v) (Let v k) := h v rfl
theorem jn_le {l : L} (h : Le e0 env) (h' : JN T E rest e0 l) : JN T E rest env l := by
  obtain ⟨e', h1, h2⟩ := h'
  exact ⟨e', js_le h h1, h2⟩
theorem jn_frz {l : L} {i : Nat} {k0 : Option Addr} (he : env[i]? = some (.o k0 x)) (h : JN T E rest (env.set i (.d x)) l) : JN T E rest env l := by
  obtain ⟨e', h1, h2⟩ := h
  exact ⟨e', jss_frz he h1, h2⟩
theorem jn_len {l : L} {i : Nat} (he : env[i]? = some (.d x)) (h : lenOk x → JN T E rest env l) : JN T E rest env l := by
  by_cases q : lenOk x
  · exact h q
  · exact ⟨E l, jss_len he fun h => absurd h q, Le.refl _⟩
/-- an if whose ways meet -/
theorem js_ifN {c : Bool} {l l' : L} (ht : JT T e e0 e1 c) (ha : c = true → JN T E A e1 l) (hb : c = false → JN T E B e1 l') : JS T (.If e A B pos) e0 (.nx (E (if c = true then l else l'))) := js_ifn E ht ha hb
theorem js_forN {α : Type} {enc : α → PyData} {tg iter : Expr} {xs : List α} (E : L → Env') (step : L → α → L) (l0 : L) (hi : JI T tg iter e0 e1 (xs.map enc)) (h0 : Le (E l0) e1)
    (turn : ∀ i x l, xs[i]? = some x → l = (xs.take i).foldl step l0 → ∃ js E1, JG T tg js (enc x) (E l) E1 ∧ JN T E body E1 (step l x))
    (hs : ∀ (v : Env) x, foldedSetIterable iter v x = pure x := by intro _ _; rfl) : JS T (.For tg iter body [] pos) e0 (.nx (E (xs.foldl step l0))) := js_for E step l0 hi h0 (fun i x l hx hl => by
  obtain ⟨js, E1, h1, e', h2, h3⟩ := turn i x l hx hl
  exact ⟨js, E1, _, h1, h2, LoopGo.nx h3⟩) hs
theorem js_whileN {test : Expr} (E : L → Env') (c : L → Bool) (step : L → L) (n : Nat) (l0 : L) (h0 : Le (E l0) env) (ends : whileEnds (ρ := PyData) c (fun l => .inl (step l)) n l0)
    (ht : ∀ l, Reach (ρ := PyData) c (fun l => .inl (step l)) l0 l → JT T test (E l) (E l) (c l))
    (turn : ∀ l, Reach (ρ := PyData) c (fun l => .inl (step l)) l0 l → c l = true → JN T E body (E l) (step l)) : JS T (.While test body [] pos) env (.nx (E (whileL c step n l0))) := js_while E c step n l0 h0 ends ht fun l hr hc => by
  obtain ⟨e', h2, h3⟩ := turn l hr hc
  exact ⟨_, h2, .inl ⟨_, rfl, _, rfl, h3⟩⟩
end
section
variable {ρ : Type} {cr : ρ → PyData} {er : ρ → Env'}
theorem jb_let {α : Type} {F : α → Env'} {v : α} {k : α → ρ} (h : ∀ x, x = v → JB T cr er rest (F x) (k x)) : JB T cr er rest (F v) (Let v k) := h v rfl
theorem jb_frz {r : ρ} {i : Nat} {k0 : Option Addr} (he : env[i]? = some (.o k0 x)) (h : JB T cr er rest (env.set i (.d x)) r) : JB T cr er rest env r := jss_frz he h
theorem jb_len {r : ρ} {i : Nat} (he : env[i]? = some (.d x)) (h : lenOk x → JB T cr er rest env r) : JB T cr er rest env r := jss_len he h
variable {L : Type} {E : L → Env'}
theorem jm_let {α : Type} {F : α → Env'} {v : α} {k : α → L ⊕ ρ} (h : ∀ x, x = v → JM T E cr er rest (F x) (k x)) : JM T E cr er rest (F v) (Let v k) := h v rfl
theorem jm_frz {o : L ⊕ ρ} {i : Nat} {k0 : Option Addr} (he : env[i]? = some (.o k0 x)) (h : JM T E cr er rest (env.set i (.d x)) o) : JM T E cr er rest env o := by
  obtain ⟨oc, h1, h2⟩ := h
  exact ⟨oc, jss_frz he h1, h2⟩
theorem jm_len {o : L ⊕ ρ} {i : Nat} (he : env[i]? = some (.d x)) (h : lenOk x → JM T E cr er rest env o) : JM T E cr er rest env o := by
  by_cases q : lenOk x
  · exact h q
  · cases o with
    | inl l => exact ⟨.nx (E l), jss_len he fun h => absurd h q, .inl ⟨l, rfl, _, rfl, Le.refl _⟩⟩
    | inr r => exact ⟨.rt (.d (cr r)) (er r), jss_len he fun h => absurd h q, .inr ⟨r, rfl, rfl⟩⟩
theorem js_forM {α : Type} {enc : α → PyData} {tg iter : Expr} {xs : List α} (E : L → Env') (step : L → α → L ⊕ ρ) (l0 : L) (hi : JI T tg iter e0 e1 (xs.map enc)) (h0 : Le (E l0) e1)
    (turn : ∀ i x l, xs[i]? = some x → forR step l0 (xs.take i) = .inl l → ∃ js E1, JG T tg js (enc x) (E l) E1 ∧ JM T E cr er body E1 (step l x))
    (hs : ∀ (v : Env) x, foldedSetIterable iter v x = pure x := by intro _ _; rfl) : JS T (.For tg iter body [] pos) e0 (ocR E cr er (forR step l0 xs)) := js_forR cr er E step l0 hi h0 (fun i x l hx hl => by
  obtain ⟨js, E1, h1, oc, h2, h3⟩ := turn i x l hx hl
  refine ⟨js, E1, oc, h1, h2, ?_⟩
  rcases h3 with ⟨l', h4, e', h5, h6⟩ | h3
  · subst h5; exact .inl ⟨l', h4, LoopGo.nx h6⟩
  · exact .inr h3) hs
end
theorem le_nil : Le [] [] := Le.refl _
theorem le_r {s : Sl} {a b : Env'} (h : Le a b) : Le (s :: a) (s :: b) := ⟨by simp [h.1], fun i t e => by
  cases i with
  | zero => exact .inr e
  | succ i => exact h.2 i t (by simpa using e)⟩
theorem le_u {s : Sl} {a b : Env'} (h : Le a b) : Le (.u :: a) (s :: b) := ⟨by simp [h.1], fun i t e => by
  cases i with
  | zero => simp at e; exact .inl e.symm
  | succ i => exact h.2 i t (by simpa using e)⟩
theorem js_frz {i : Nat} {k0 : Option Addr} (h : JS T st e0 (.nx e1)) (he : e1[i]? = some (.o k0 x)) : JS T st e0 (.nx (e1.set i (.d x))) := fun X hX => (ps_lkd (h X hX)).wk fun D σ H ⟨R, C, E, k⟩ => ⟨R, C, E, fun σ' C' H' c E' => E'.frz he fun C2 H2 c2 E2 => k σ' C2 H2 (c.trans c2) E2⟩
end
end J
namespace J
open PySem L2 PySem.Spec PyProof.Rows PySem.W

/-! ### the kinds of data -/
@[reducible] def eN : Unit → PyData := fun _ => .none
@[reducible] def eL {α : Type} (f : α → PyData) : List α → PyData := fun xs => .list (xs.map f)
@[reducible] def eT {α : Type} (f : α → PyData) : List α → PyData := fun xs => .tuple (xs.map f)
@[reducible] def eP1 {α : Type} (f : α → PyData) : α → PyData := fun a => .tuple [f a]
@[reducible] def eP2 {α β : Type} (f : α → PyData) (g : β → PyData) : α × β → PyData := fun p => .tuple [f p.1, g p.2]
@[reducible] def eP3 {α β γ : Type} (f : α → PyData) (g : β → PyData) (h : γ → PyData) : α × β × γ → PyData := fun p => .tuple [f p.1, g p.2.1, h p.2.2]
@[reducible] def eP4 {α β γ δ : Type} (f : α → PyData) (g : β → PyData) (h : γ → PyData) (i : δ → PyData) : α × β × γ × δ → PyData := fun p => .tuple [f p.1, g p.2.1, h p.2.2.1, i p.2.2.2]
@[reducible] def eP5 {α β γ δ ε : Type} (f : α → PyData) (g : β → PyData) (h : γ → PyData) (i : δ → PyData) (j : ε → PyData) : α × β × γ × δ × ε → PyData := fun p => .tuple [f p.1, g p.2.1, h p.2.2.1, i p.2.2.2.1, j p.2.2.2.2]
@[reducible] def eP6 {α β γ δ ε ζ : Type} (f : α → PyData) (g : β → PyData) (h : γ → PyData) (i : δ → PyData) (j : ε → PyData) (k : ζ → PyData) : α × β × γ × δ × ε × ζ → PyData := fun p => .tuple [f p.1, g p.2.1, h p.2.2.1, i p.2.2.2.1, j p.2.2.2.2.1, k p.2.2.2.2.2]
@[reducible] def eO {α : Type} (f : α → PyData) : Option α → PyData := fun o => match o with
  | none => .none
  | some a => f a
section
variable {α β γ δ ε ζ : Type} {f : α → PyData} {g : β → PyData} {h : γ → PyData} {i : δ → PyData} {j : ε → PyData} {k : ζ → PyData} {n : Nat}
/-- no dict, not deep -/
def ShE (n : Nat) {α : Type} (f : α → PyData) : Prop := ∀ a, shN n (f a) = true
theorem sh_int : ShE n PyData.int := fun a => by cases n <;> rfl
theorem sh_bool : ShE n PyData.bool := fun a => by cases n <;> rfl
theorem sh_str : ShE n PyData.str := fun a => by cases n <;> rfl
theorem sh_n : ShE n eN := fun a => by cases n <;> rfl
theorem sh_l (F : ShE n f) : ShE (n + 1) (eL f) := fun xs => by
  show (xs.map f).all (shN n) = true
  rw [List.all_map, List.all_eq_true]
  exact fun x _ => F x
theorem sh_t (F : ShE n f) : ShE (n + 1) (eT f) := fun xs => by
  show (xs.map f).all (shN n) = true
  rw [List.all_map, List.all_eq_true]
  exact fun x _ => F x
theorem sh_o (F : ShE n f) : ShE n (eO f) := fun o => by
  cases o with
  | none => cases n <;> rfl
  | some a => exact F a
theorem sh_p1 (F : ShE n f) : ShE (n + 1) (eP1 f) := fun p => by simp [shN, F p]
theorem sh_p2 (F : ShE n f) (G : ShE n g) : ShE (n + 1) (eP2 f g) := fun p => by simp [shN, F p.1, G p.2]
theorem sh_p3 (F : ShE n f) (G : ShE n g) (H : ShE n h) : ShE (n + 1) (eP3 f g h) := fun p => by simp [shN, F p.1, G p.2.1, H p.2.2]
theorem sh_p4 (F : ShE n f) (G : ShE n g) (H : ShE n h) (I : ShE n i) : ShE (n + 1) (eP4 f g h i) := fun p => by simp [shN, F p.1, G p.2.1, H p.2.2.1, I p.2.2.2]
theorem sh_p5 (F : ShE n f) (G : ShE n g) (H : ShE n h) (I : ShE n i) (J : ShE n j) : ShE (n + 1) (eP5 f g h i j) := fun p => by simp [shN, F p.1, G p.2.1, H p.2.2.1, I p.2.2.2.1, J p.2.2.2.2]
theorem sh_p6 (F : ShE n f) (G : ShE n g) (H : ShE n h) (I : ShE n i) (J : ShE n j) (K : ShE n k) : ShE (n + 1) (eP6 f g h i j k) := fun p => by simp [shN, F p.1, G p.2.1, H p.2.2.1, I p.2.2.2.1, J p.2.2.2.2.1, K p.2.2.2.2.2]
/-- == says whether the things are the same -/
def EqE {α : Type} [DecidableEq α] (f : α → PyData) : Prop := ∀ a b, PyData.eqv (f a) (f b) = decide (a = b)
theorem eqe_int : EqE PyData.int := fun a b => by simp only [PyData.eqv]; exact Bool.beq_eq_decide_eq a b
theorem eqe_bool : EqE PyData.bool := fun a b => by simp only [PyData.eqv]; exact Bool.beq_eq_decide_eq a b
theorem eqe_str : EqE PyData.str := fun a b => by simp only [PyData.eqv]; exact Bool.beq_eq_decide_eq a b
theorem eqe_n : EqE eN := fun a b => rfl
variable [DecidableEq α] [DecidableEq β] [DecidableEq γ] [DecidableEq δ] [DecidableEq ε] [DecidableEq ζ]
theorem eqvAll_map (F : EqE f) : ∀ xs ys : List α, PyData.eqvAll (xs.map f) (ys.map f) = decide (xs = ys)
  | [], [] => by simp [PyData.eqvAll]
  | [], _ :: _ => by simp [PyData.eqvAll]
  | _ :: _, [] => by simp [PyData.eqvAll]
  | x :: xs, y :: ys => by
    rw [List.map_cons, List.map_cons, PyData.eqvAll, F x y, eqvAll_map F xs ys, Bool.eq_iff_iff]
    simp
theorem eqe_l (F : EqE f) : EqE (eL f) := fun xs ys => by simp only [PyData.eqv]; exact eqvAll_map F xs ys
theorem eqe_t (F : EqE f) : EqE (eT f) := fun xs ys => by simp only [PyData.eqv]; exact eqvAll_map F xs ys
theorem eqe_p1 (F : EqE f) : EqE (eP1 f) := fun p q => by
  rw [Bool.eq_iff_iff]; simp [PyData.eqv, PyData.eqvAll, F _ _]
theorem eqe_p2 (F : EqE f) (G : EqE g) : EqE (eP2 f g) := fun p q => by
  rw [Bool.eq_iff_iff]; simp [PyData.eqv, PyData.eqvAll, F _ _, G _ _, Prod.ext_iff]
theorem eqe_p3 (F : EqE f) (G : EqE g) (H : EqE h) : EqE (eP3 f g h) := fun p q => by
  rw [Bool.eq_iff_iff]; simp [PyData.eqv, PyData.eqvAll, F _ _, G _ _, H _ _, Prod.ext_iff]
theorem eqe_p4 (F : EqE f) (G : EqE g) (H : EqE h) (I : EqE i) : EqE (eP4 f g h i) := fun p q => by
  rw [Bool.eq_iff_iff]; simp [PyData.eqv, PyData.eqvAll, F _ _, G _ _, H _ _, I _ _, Prod.ext_iff]
theorem eqe_p5 (F : EqE f) (G : EqE g) (H : EqE h) (I : EqE i) (J : EqE j) : EqE (eP5 f g h i j) := fun p q => by
  rw [Bool.eq_iff_iff]; simp [PyData.eqv, PyData.eqvAll, F _ _, G _ _, H _ _, I _ _, J _ _, Prod.ext_iff]
theorem eqe_p6 (F : EqE f) (G : EqE g) (H : EqE h) (I : EqE i) (J : EqE j) (K : EqE k) : EqE (eP6 f g h i j k) := fun p q => by
  rw [Bool.eq_iff_iff]; simp [PyData.eqv, PyData.eqvAll, F _ _, G _ _, H _ _, I _ _, J _ _, K _ _, Prod.ext_iff]
/-- .. where None is a thing of its own -/
theorem eqe_o (F : EqE f) (hn : ∀ a, PyData.eqv .none (f a) = false ∧ PyData.eqv (f a) .none = false) : EqE (eO f) := fun p q => by
  cases p with
  | none => cases q with
    | none => rfl
    | some b => simpa using (hn b).1
  | some a => cases q with
    | none => simpa using (hn a).2
    | some b => simpa using F a b
omit [DecidableEq α] [DecidableEq β] [DecidableEq γ] [DecidableEq δ] [DecidableEq ε] [DecidableEq ζ]
/-- comparable with one another -/
theorem alk_int : AlkE PyData.int := ⟨fun a b => rfl, fun a => by simp⟩
theorem alk_bool : AlkE PyData.bool := ⟨fun a b => rfl, fun a => by simp⟩
theorem alk_str : AlkE PyData.str := ⟨fun a b => rfl, fun a => by simp⟩
theorem alk_all (F : AlkE f) : ∀ xs ys : List α, alikeAll (xs.map f) (ys.map f) = true
  | [], [] => rfl
  | [], _ :: _ => rfl
  | _ :: _, [] => rfl
  | x :: xs, y :: ys => by
    rw [List.map_cons, List.map_cons, alikeAll, F.1 x y, alk_all F xs ys]; rfl
theorem alk_l (F : AlkE f) : AlkE (eL f) := ⟨fun xs ys => by rw [alike]; exact alk_all F xs ys, fun a => by simp⟩
theorem alk_t (F : AlkE f) : AlkE (eT f) := ⟨fun xs ys => by rw [alike]; exact alk_all F xs ys, fun a => by simp⟩
theorem alk_p1 (F : AlkE f) : AlkE (eP1 f) := ⟨fun p q => by simp [alike, alikeAll, F.1], fun a => by simp⟩
theorem alk_p2 (F : AlkE f) (G : AlkE g) : AlkE (eP2 f g) := ⟨fun p q => by simp [alike, alikeAll, F.1, G.1], fun a => by simp⟩
theorem alk_p3 (F : AlkE f) (G : AlkE g) (H : AlkE h) : AlkE (eP3 f g h) := ⟨fun p q => by simp [alike, alikeAll, F.1, G.1, H.1], fun a => by simp⟩
theorem alk_p4 (F : AlkE f) (G : AlkE g) (H : AlkE h) (I : AlkE i) : AlkE (eP4 f g h i) := ⟨fun p q => by simp [alike, alikeAll, F.1, G.1, H.1, I.1], fun a => by simp⟩
theorem alk_p5 (F : AlkE f) (G : AlkE g) (H : AlkE h) (I : AlkE i) (J : AlkE j) : AlkE (eP5 f g h i j) := ⟨fun p q => by simp [alike, alikeAll, F.1, G.1, H.1, I.1, J.1], fun a => by simp⟩
theorem srt_p1 : SrtE (eP1 f) := .inl fun p => ⟨_, _, rfl⟩
theorem srt_p2 : SrtE (eP2 f g) := .inl fun p => ⟨_, _, rfl⟩
theorem srt_p3 : SrtE (eP3 f g h) := .inl fun p => ⟨_, _, rfl⟩
theorem srt_p4 : SrtE (eP4 f g h i) := .inl fun p => ⟨_, _, rfl⟩
theorem srt_int : SrtE PyData.int := .inr fun p xs => by simp
theorem srt_str : SrtE PyData.str := .inr fun p xs => by simp
theorem srt_l : SrtE (eL f) := .inr fun p xs => by simp
/-- flat things -/
def FlE {α : Type} (f : α → PyData) : Prop := ∀ a, flatD (f a) = true
theorem fl_int : FlE PyData.int := fun _ => rfl
theorem fl_bool : FlE PyData.bool := fun _ => rfl
theorem fl_str : FlE PyData.str := fun _ => rfl
theorem fl_o (F : FlE f) : FlE (eO f) := fun o => by
  cases o with
  | none => rfl
  | some a => exact F a
end

/-! ### the rules, for data of a kind -/
/-- the item at a place, as Python counts -/
def gI {α : Type} [Inhabited α] (xs : List α) (i : Int) : α := (atI xs i).getD default
def inR (n : Nat) (i : Int) : Prop := -(n : Int) ≤ i ∧ i < n
theorem atI_inR {α : Type} {xs : List α} {i : Int} (h : inR xs.length i) : ∃ x, atI xs i = some x := by
  unfold atI ixN
  obtain ⟨h1, h2⟩ := h
  by_cases h0 : 0 ≤ i
  · rw [if_pos h0, if_pos (by omega)]
    exact ⟨_, List.getElem?_eq_getElem (show i.toNat < xs.length by omega)⟩
  · rw [if_neg h0, if_pos h1]
    exact ⟨_, List.getElem?_eq_getElem (show (i + xs.length).toNat < xs.length by omega)⟩
theorem atI_map {α β : Type} (f : α → β) (xs : List α) (i : Int) : atI (xs.map f) i = (atI xs i).map f := by
  unfold atI
  rw [List.length_map]
  cases ixN xs.length i with
  | none => rfl
  | some j => simp
theorem gI_at {α : Type} [Inhabited α] {f : α → PyData} {xs : List α} {i : Int} (h : inR xs.length i) : atI (xs.map f) i = some (f (gI xs i)) := by
  obtain ⟨x, hx⟩ := atI_inR h
  rw [atI_map, hx]
  unfold gI
  rw [hx]; rfl
/-- a list with the item at a place set -/
def setI {α : Type} (xs : List α) (i : Int) (x : α) : List α := match ixN xs.length i with
  | some m => xs.set m x
  | none => xs
theorem setI_ix {α : Type} {xs : List α} {i : Int} (h : inR xs.length i) : ∃ m, ixN xs.length i = some m := by
  unfold ixN
  obtain ⟨h1, h2⟩ := h
  by_cases h0 : 0 ≤ i
  · rw [if_pos h0, if_pos (by omega)]; exact ⟨_, rfl⟩
  · rw [if_neg h0, if_pos h1]; exact ⟨_, rfl⟩
/-- the sign at a place -/
def gS (s : Str) (i : Int) : Str := ⟨#[gI s.cps.toList i]⟩
/-- (0, x0), (1, x1), .. -/
def enumL {α : Type} (xs : List α) : List (Int × α) := xs.zipIdx.map fun q => ((q.2 : Int), q.1)
theorem zipIdx_map' {α β : Type} (f : α → β) : ∀ (xs : List α) (n : Nat), (xs.map f).zipIdx n = (xs.zipIdx n).map fun q => (f q.1, q.2)
  | [], _ => rfl
  | x :: xs, n => by simp only [List.map_cons, List.zipIdx_cons, zipIdx_map' f xs (n + 1)]
theorem enumD_map {α : Type} (f : α → PyData) (xs : List α) : enumD (xs.map f) = (enumL xs).map (eP2 PyData.int f) := by
  unfold enumD enumL
  rw [zipIdx_map', List.map_map, List.map_map]; rfl
theorem zipD_map {α β : Type} (f : α → PyData) (g : β → PyData) (xs : List α) (ys : List β) : zipD (xs.map f) (ys.map g) = (xs.zip ys).map (eP2 f g) := by
  unfold zipD
  rw [List.zip_map, List.map_map]; rfl
section
variable {T : TC} {a b e : Expr} {es : List Expr} {env e0 e1 e2 e3 : Env'} {pos p : Pos} {kk : Nat} {tpos : Pos} {elts : List Expr} {α β : Type} {enc : α → PyData} {dec : β → PyData} {xs ys : List α} {zs : List β}
theorem je_lenL' (hg : glB T.sc "len" = true) (hm : T.mg "len" = none) (ha : JE T e e0 e1 (.b (.list (xs.map enc)))) (hp : Plain e [] pos := by exact ⟨fun _ => rfl, fun _ => rfl⟩) : JE T (.Call (.Name "len" p) [e] [] pos) e0 e1 (.d (.int xs.length)) := by
  have := je_lenL (pos := pos) (p := p) hg hm ha hp
  rw [List.length_map] at this; exact this
theorem je_lenT' (hg : glB T.sc "len" = true) (hm : T.mg "len" = none) (ha : JE T e e0 e1 (.b (.tuple (xs.map enc)))) (hp : Plain e [] pos := by exact ⟨fun _ => rfl, fun _ => rfl⟩) : JE T (.Call (.Name "len" p) [e] [] pos) e0 e1 (.d (.int xs.length)) := by
  have := je_lenT (pos := pos) (p := p) hg hm ha hp
  rw [List.length_map] at this; exact this
theorem je_ixL' [Inhabited α] {i : Int} (h : JE2 T a b e0 e2 (.list (xs.map enc)) (.int i)) (hr : inR xs.length i) (hs : PlainIx b := by intro _ _; rfl) : JE T (.Subscript a b pos) e0 e2 (.d (enc (gI xs i))) := je_ixL h (gI_at hr) hs
theorem je_ixT' [Inhabited α] {i : Int} (h : JE2 T a b e0 e2 (.tuple (xs.map enc)) (.int i)) (hr : inR xs.length i) (hs : PlainIx b := by intro _ _; rfl) : JE T (.Subscript a b pos) e0 e2 (.d (enc (gI xs i))) := je_ixT h (gI_at hr) hs
theorem je_ixS' {s : Str} {i : Int} (h : JE2 T a b e0 e2 (.str s) (.int i)) (hr : inR s.length i) (hs : PlainIx b := by intro _ _; rfl) : JE T (.Subscript a b pos) e0 e2 (.d (.str (gS s i))) := by
  have hr' : inR s.cps.toList.length i := by simpa [Str.length] using hr
  obtain ⟨x, hx⟩ := atI_inR hr'
  have := je_ixS (pos := pos) h hx hs
  have e : gS s i = ⟨#[x]⟩ := by unfold gS gI; rw [hx]; rfl
  rw [e]; exact this
theorem je_slL' {lo hi : Option Int} {l u : Option Expr} {p2 : Pos} (h : JE T a e0 e1 (.d (.list (xs.map enc)))) (hl : JO T l e1 e2 lo) (hu : JO T u e2 e3 hi) : JE T (.Subscript a (.Slice l u none p2) pos) e0 e3 (.o (.list ((cutL xs lo hi).map enc))) := by
  rw [← cutL_map]; exact je_slL h hl hu
theorem je_slLb' {lo hi : Option Int} {l u : Option Expr} {p2 : Pos} (h : JE T a e0 e1 (.b (.list (xs.map enc)))) (hl : JO T l e1 e1 lo) (hu : JO T u e1 e1 hi) : JE T (.Subscript a (.Slice l u none p2) pos) e0 e1 (.o (.list ((cutL xs lo hi).map enc))) := by
  rw [← cutL_map]; exact je_slLb h hl hu
theorem je_slT' {lo hi : Option Int} {l u : Option Expr} {p2 : Pos} (h : JE T a e0 e1 (.d (.tuple (xs.map enc)))) (hl : JO T l e1 e2 lo) (hu : JO T u e2 e3 hi) : JE T (.Subscript a (.Slice l u none p2) pos) e0 e3 (.d (.tuple ((cutL xs lo hi).map enc))) := by
  rw [← cutL_map]; exact je_slT h hl hu
theorem je_catL' (h : JE2 T a b e0 e2 (.list (xs.map enc)) (.list (ys.map enc))) (hl : xs.length + ys.length ≤ LN) : JE T (.BinOp a .Add b pos) e0 e2 (.o (.list ((xs ++ ys).map enc))) := by
  rw [List.map_append]; exact je_catL h (by simpa using hl)
theorem je_catT' (h : JE2 T a b e0 e2 (.tuple (xs.map enc)) (.tuple (ys.map enc))) (hl : xs.length + ys.length ≤ LN) : JE T (.BinOp a .Add b pos) e0 e2 (.d (.tuple ((xs ++ ys).map enc))) := by
  rw [List.map_append]; exact je_catT h (by simpa using hl)
theorem je_append' {nm : Str} {apos np : Pos} (i : Nat) {x : α} {k0 : Option Addr} (h : JE T e e0 e1 (.d (enc x))) (hl : xs.length < LN) (hN : T.N[i]? = some nm := by rfl) (hv : visB T.sc nm = true := by rfl) (h0 : ∃ xs0, e0[i]? = some (.o k0 (.list xs0)) := by exact ⟨_, rfl⟩) (he : e1[i]? = some (.o k0 (.list (xs.map enc))) := by rfl)
    (hp : PlainM (.Name nm np) "append" apos e [] pos := by exact ⟨fun _ => rfl, fun _ => rfl, rfl, fun _ => rfl, fun _ => rfl⟩)
    (hd : (nm == ("__debug__" : Str)) = false := by decide) (hcd : (nm == ("__classdict__" : Str)) = false := by decide) :
    JE T (.Call (.Attribute (.Name nm np) "append" apos) [e] [] pos) e0 (e1.set i (.o k0 (.list ((xs ++ [x]).map enc)))) (.d .none) := by
  rw [List.map_append]; exact je_append i hN hv h h0 he (by simpa using hl) hp hd hcd
theorem js_setIx' {nm : Str} {np tp : Pos} {ix : Expr} (j : Nat) {k0 : Option Addr} {i : Int} {x : α} (h : JE T e e0 e1 (.d (enc x))) (hi : JE T ix e1 e2 (.d (.int i))) (hr : inR xs.length i) (hN : T.N[j]? = some nm := by rfl) (hv : visB T.sc nm = true := by rfl) (h1 : ∃ xs0, e1[j]? = some (.o k0 (.list xs0)) := by exact ⟨_, rfl⟩) (h2 : e2[j]? = some (.o k0 (.list (xs.map enc))) := by rfl)
    (hs : ∀ (v : Env) l, swapsWithSole [.Subscript (.Name nm np) ix tp] e l v = pure false := by intro _ _; rfl) (hw : ∀ v : Env, swappedStores [.Subscript (.Name nm np) ix tp] e v = pure none := by intro _; rfl) (ha1 : ∀ v : Env, (assignEach [.Subscript (.Name nm np) ix tp] v).map (·.2) = [assign (.Subscript (.Name nm np) ix tp) v] := by intro _; rfl)
    (ha : ∀ (env : Env) v, assign (.Subscript (.Name nm np) ix tp) env v = (do
      let ov ← holding [v] (eval (.Name nm np) env)
      let iv ← holding [v, ov] (eval ix env)
      standAt tp
      holding [v, ov, iv] (setItem ov iv v)
      release [v, ov, iv] []) := by intro _ _; rfl)
    (hd : (nm == ("__debug__" : Str)) = false := by decide) (hcd : (nm == ("__classdict__" : Str)) = false := by decide) :
    JS T (.Assign [.Subscript (.Name nm np) ix tp] e pos) e0 (.nx (e2.set j (.o k0 (.list ((setI xs i x).map enc))))) := by
  obtain ⟨m, hm⟩ := setI_ix hr
  have e : (setI xs i x).map enc = (xs.map enc).set m (enc x) := by unfold setI; rw [hm]; exact List.map_set
  rw [e]
  exact js_setIx j hN hv h hi h1 h2 (by rw [List.length_map]; exact hm) hs hw ha1 ha hd hcd
theorem cj_eqE [DecidableEq α] {x y : α} (h : JE2 T a b e0 e2 (enc x) (enc y)) (sh : ShE 64 enc) (eq : EqE enc) : CJ T .Eq a b e0 e2 (decide (x = y)) := by
  have := cj_eqD h (sh x) (sh y)
  rw [eq x y] at this; exact this
theorem cj_neE [DecidableEq α] {x y : α} (h : JE2 T a b e0 e2 (enc x) (enc y)) (sh : ShE 64 enc) (eq : EqE enc) : CJ T .NotEq a b e0 e2 (!decide (x = y)) := by
  have := cj_neD h (sh x) (sh y)
  rw [eq x y] at this; exact this
theorem any_eqE [DecidableEq α] (eq : EqE enc) (x : α) (ys : List α) : ((ys.map enc).any fun z => PyData.eqv z (enc x)) = decide (x ∈ ys) := by
  rw [List.any_map, Bool.eq_iff_iff, List.any_eq_true]
  simp only [Function.comp_apply, eq _ _, decide_eq_true_eq]
  exact ⟨fun ⟨y, h1, h2⟩ => h2 ▸ h1, fun h => ⟨x, h, rfl⟩⟩
theorem cj_inL' [DecidableEq α] {x : α} (h : JE2 T a b e0 e2 (enc x) (.list (ys.map enc))) (sh : ShE 63 enc) (sh' : ShE 64 enc) (eq : EqE enc) (hm : behindInMarks .In b = false := by rfl) : CJ T .In a b e0 e2 (decide (x ∈ ys)) := by
  have s1 := sh' x
  have := cj_inL h s1 (sh_l sh ys) hm
  rw [any_eqE eq] at this; exact this
theorem cj_notInL' [DecidableEq α] {x : α} (h : JE2 T a b e0 e2 (enc x) (.list (ys.map enc))) (sh : ShE 63 enc) (sh' : ShE 64 enc) (eq : EqE enc) (hm : behindInMarks .NotIn b = false := by rfl) : CJ T .NotIn a b e0 e2 (!decide (x ∈ ys)) := by
  have := cj_notInL h (sh' x) (sh_l sh ys) hm
  rw [any_eqE eq] at this; exact this
theorem cj_inT' [DecidableEq α] {x : α} (h : JE2 T a b e0 e2 (enc x) (.tuple (ys.map enc))) (fl : FlE enc) (eq : EqE enc) (hm : behindInMarks .In b = false := by rfl) : CJ T .In a b e0 e2 (decide (x ∈ ys)) := by
  have := cj_inT h (fl x) (by rw [List.all_map, List.all_eq_true]; exact fun y _ => fl y) hm
  rw [any_eqE eq] at this; exact this
theorem cj_notInT' [DecidableEq α] {x : α} (h : JE2 T a b e0 e2 (enc x) (.tuple (ys.map enc))) (fl : FlE enc) (eq : EqE enc) (hm : behindInMarks .NotIn b = false := by rfl) : CJ T .NotIn a b e0 e2 (!decide (x ∈ ys)) := by
  have := cj_notInT h (fl x) (by rw [List.all_map, List.all_eq_true]; exact fun y _ => fl y) hm
  rw [any_eqE eq] at this; exact this
theorem ji_enumL' (hg : glB T.sc "enumerate" = true) (hm : T.mg "enumerate" = none) (h : JE T e e0 e1 (.d (.list (xs.map enc)))) (hs : ∀ v : Env, starEach [e] v = [(false, eval e v)] := by intro _; rfl) : JI T (.Tuple elts kk tpos) (.Call (.Name "enumerate" p) [e] [] pos) e0 e1 ((enumL xs).map (eP2 PyData.int enc)) := by
  rw [← enumD_map]; exact ji_enumL hg hm h hs
theorem ji_enumT' (hg : glB T.sc "enumerate" = true) (hm : T.mg "enumerate" = none) (h : JE T e e0 e1 (.d (.tuple (xs.map enc)))) (hs : ∀ v : Env, starEach [e] v = [(false, eval e v)] := by intro _; rfl) : JI T (.Tuple elts kk tpos) (.Call (.Name "enumerate" p) [e] [] pos) e0 e1 ((enumL xs).map (eP2 PyData.int enc)) := by
  rw [← enumD_map]; exact ji_enumT hg hm h hs
theorem ji_enumS' {s : Str} (hg : glB T.sc "enumerate" = true) (hm : T.mg "enumerate" = none) (h : JE T e e0 e1 (.d (.str s))) (hs : ∀ v : Env, starEach [e] v = [(false, eval e v)] := by intro _; rfl) : JI T (.Tuple elts kk tpos) (.Call (.Name "enumerate" p) [e] [] pos) e0 e1 ((enumL (signs s)).map (eP2 PyData.int PyData.str)) := by
  rw [← enumD_map]; exact ji_enumS hg hm h hs
theorem ji_zipL' (hg : glB T.sc "zip" = true) (hm : T.mg "zip" = none) (h : JA T [a, b] e0 e1 [.list (xs.map enc), .list (zs.map dec)]) (hs : ∀ v : Env, starEach [a, b] v = (false, eval a v) :: starEach [b] v := by intro _; rfl) (hpl : ∀ v : Env, (backTo pos (starEach [b] v)).any (·.1) = false := by intro _; rfl) : JI T (.Tuple elts kk tpos) (.Call (.Name "zip" p) [a, b] [] pos) e0 e1 ((xs.zip zs).map (eP2 enc dec)) := by
  rw [← zipD_map]; exact ji_zipL hg hm h hs hpl
theorem ji_zipT' (hg : glB T.sc "zip" = true) (hm : T.mg "zip" = none) (h : JA T [a, b] e0 e1 [.tuple (xs.map enc), .tuple (zs.map dec)]) (hs : ∀ v : Env, starEach [a, b] v = (false, eval a v) :: starEach [b] v := by intro _; rfl) (hpl : ∀ v : Env, (backTo pos (starEach [b] v)).any (·.1) = false := by intro _; rfl) : JI T (.Tuple elts kk tpos) (.Call (.Name "zip" p) [a, b] [] pos) e0 e1 ((xs.zip zs).map (eP2 enc dec)) := by
  rw [← zipD_map]; exact ji_zipT hg hm h hs hpl
variable {tg iter elt : Expr} {ifs : List Expr} {scope : Scope}
/-- [elt for tg in iter], elements of one kind -/
theorem je_lc0 (own : List (Str × Nat)) (g : α → β) (hi : JI T tg iter e0 e1 (xs.map enc)) (hnd : T.N.Nodup) (ok : blkC T.N T.sc scope own = true) (hu : unk e1 (own.map (·.2)))
    (turn : ∀ x, x ∈ xs → LcP T scope tg elt [] own e1 (enc x) true (dec (g x))) (hs : ∀ (v : Env) x, foldedSetIterable iter v x = pure x := by intro _ _; rfl) : JE T (.ListComp elt [⟨tg, iter, [], 0⟩] scope pos) e0 e1 (.o (.list ((xs.map g).map dec))) := by
  have := je_lc (pos := pos) own (fun _ => true) (fun x => dec (g x)) hi hnd ok hu turn hs
  rw [show xs.filter (fun _ => true) = xs from List.filter_eq_self.mpr (fun _ _ => rfl)] at this
  rw [List.map_map]; exact this
theorem je_lc1 (own : List (Str × Nat)) (p : α → Bool) (g : α → β) (hi : JI T tg iter e0 e1 (xs.map enc)) (hnd : T.N.Nodup) (ok : blkC T.N T.sc scope own = true) (hu : unk e1 (own.map (·.2)))
    (turn : ∀ x, x ∈ xs → LcP T scope tg elt ifs own e1 (enc x) (p x) (dec (g x))) (hs : ∀ (v : Env) x, foldedSetIterable iter v x = pure x := by intro _ _; rfl) : JE T (.ListComp elt [⟨tg, iter, ifs, 0⟩] scope pos) e0 e1 (.o (.list (((xs.filter p).map g).map dec))) := by
  have := je_lc (pos := pos) own p (fun x => dec (g x)) hi hnd ok hu turn hs
  rw [List.map_map]; exact this
theorem js_lc0 (i : Nat) {nm : Str} {py spos : Pos} (own : List (Str × Nat)) (g : α → β) (hi : JI T tg iter e0 e1 (xs.map enc)) (hnd : T.N.Nodup) (ok : blkC T.N T.sc scope own = true) (hu : unk e1 (own.map (·.2)))
    (turn : ∀ x, x ∈ xs → LcP T scope tg elt [] own e1 (enc x) true (dec (g x))) (hN : T.N[i]? = some nm := by rfl) (hl : T.sc.names.lookup nm = some .local := by rfl) (hk : T.sc.kind = .function := by rfl) (hpl : (py.line == pos.line) = true := by rfl) (ha : (scope.names.any fun (n, k) => n == nm && (k == .local || k == .cell)) = false := by decide +kernel) (hs : ∀ (v : Env) x, foldedSetIterable iter v x = pure x := by intro _ _; rfl) :
    JS T (.Assign [.Name nm py] (.ListComp elt [⟨tg, iter, [], 0⟩] scope pos) spos) e0 (.nx (e1.set i (.o none (.list ((xs.map g).map dec))))) := by
  have := js_setLc (pos := pos) (py := py) (spos := spos) i own (fun _ => true) (fun x => dec (g x)) hi hnd ok hu turn hN hl hk hpl ha hs
  rw [show xs.filter (fun _ => true) = xs from List.filter_eq_self.mpr (fun _ _ => rfl)] at this
  rw [List.map_map]; exact this
theorem js_lc1 (i : Nat) {nm : Str} {py spos : Pos} (own : List (Str × Nat)) (p : α → Bool) (g : α → β) (hi : JI T tg iter e0 e1 (xs.map enc)) (hnd : T.N.Nodup) (ok : blkC T.N T.sc scope own = true) (hu : unk e1 (own.map (·.2)))
    (turn : ∀ x, x ∈ xs → LcP T scope tg elt ifs own e1 (enc x) (p x) (dec (g x))) (hN : T.N[i]? = some nm := by rfl) (hl : T.sc.names.lookup nm = some .local := by rfl) (hk : T.sc.kind = .function := by rfl) (hpl : (py.line == pos.line) = true := by rfl) (ha : (scope.names.any fun (n, k) => n == nm && (k == .local || k == .cell)) = false := by decide +kernel) (hs : ∀ (v : Env) x, foldedSetIterable iter v x = pure x := by intro _ _; rfl) :
    JS T (.Assign [.Name nm py] (.ListComp elt [⟨tg, iter, ifs, 0⟩] scope pos) spos) e0 (.nx (e1.set i (.o none (.list (((xs.filter p).map g).map dec))))) := by
  have := js_setLc (pos := pos) (py := py) (spos := spos) i own p (fun x => dec (g x)) hi hnd ok hu turn hN hl hk hpl ha hs
  rw [List.map_map]; exact this
/-- is None -/
theorem isN_eO {o : Option α} (h : ∀ a, isNoneD (enc a) = false) : isNoneD (eO enc o) = o.isNone := by
  cases o with
  | none => rfl
  | some a => exact h a
end
end J
namespace J
open PySem L2 PySem.Spec PyProof.Rows

/-! ### the draws -/
def iabs (x : Int) : Int := if x < 0 then -x else x
theorem iabs_nn (x : Int) : 0 ≤ iabs x := by unfold iabs; split <;> omega
structure Dr where
  ns : List Int
  i : Nat
  x : Int
  st : Int
@[reducible] def drD (d : Dr) : PyData := .list [.list (d.ns.map .int), .int d.i, .int d.x, .int d.st]
def nxtM (d : Dr) (many : Int) : Dr ⊕ (Int × Dr) :=
  if decide ((d.i : Int) < d.ns.length) = true then
    Let (iabs (gI d.ns d.i)) fun cell =>
    Let (⟨d.ns, d.i + 1, d.x, d.st⟩ : Dr) fun d =>
    if decide ((10 : Int) ^ 18 ≤ cell) = true then .inr (Int.fmod cell many, ⟨d.ns, d.i, Int.fdiv cell many, d.st⟩)
    else .inl ⟨d.ns, d.i, d.x, Int.fmod (d.st * 48271 + cell + 11) 2147483647⟩
  else .inl ⟨d.ns, d.i, d.x, Int.fmod (d.st * 48271 + 12345) 2147483647⟩
def nxt (d : Dr) (many : Int) : Int × Dr :=
  if decide (0 < d.x) = true then
    Let (Int.fmod d.x many) fun found =>
    Let (⟨d.ns, d.i, Int.fdiv d.x many, d.st⟩ : Dr) fun d => (found, d)
  else orR (nxtM d many) fun d => (Int.fmod (Int.fdiv (Int.fmod (d.st * 69621) 2147483629) 7) many, d)
theorem nxtM_l {d d' : Dr} {many : Int} (h : nxtM d many = .inl d') : d'.ns = d.ns ∧ (d'.i = d.i ∨ d'.i = d.i + 1) := by
  unfold nxtM at h
  simp only [Let] at h
  by_cases c1 : (d.i : Int) < d.ns.length
  · by_cases c2 : (1000000000000000000 : Int) ≤ iabs (gI d.ns d.i)
    · simp [c1, c2] at h
    · simp [c1, c2] at h; rw [← h]; exact ⟨rfl, .inr rfl⟩
  · simp [c1] at h; rw [← h]; exact ⟨rfl, .inl rfl⟩
theorem nxtM_r {d : Dr} {many : Int} {r : Int × Dr} (h : nxtM d many = .inr r) : (∃ c, r.1 = Int.fmod c many) ∧ r.2.ns = d.ns ∧ r.2.i = d.i + 1 := by
  unfold nxtM at h
  simp only [Let] at h
  by_cases c1 : (d.i : Int) < d.ns.length
  · by_cases c2 : (1000000000000000000 : Int) ≤ iabs (gI d.ns d.i)
    · simp [c1, c2] at h; rw [← h]; exact ⟨⟨_, rfl⟩, rfl, rfl⟩
    · simp [c1, c2] at h
  · simp [c1] at h
theorem nxt_c (d : Dr) (many : Int) : (∃ c, (nxt d many).1 = Int.fmod c many) ∧ (nxt d many).2.ns = d.ns ∧ ((nxt d many).2.i = d.i ∨ (nxt d many).2.i = d.i + 1) := by
  unfold nxt
  by_cases c : 0 < d.x
  · simp [c, Let]; exact ⟨_, rfl⟩
  · simp only [c, decide_false, Bool.false_eq_true, if_false]
    cases h : nxtM d many with
    | inl l => have := nxtM_l h; exact ⟨⟨_, rfl⟩, this⟩
    | inr r => have := nxtM_r h; exact ⟨this.1, this.2.1, .inr this.2.2⟩
theorem nxt_lo {d : Dr} {many : Int} (h : 0 < many) : 0 ≤ (nxt d many).1 := by
  obtain ⟨c, q⟩ := (nxt_c d many).1
  rw [q]; exact Int.fmod_nonneg_of_pos _ h
theorem nxt_hi {d : Dr} {many : Int} (h : 0 < many) : (nxt d many).1 < many := by
  obtain ⟨c, q⟩ := (nxt_c d many).1
  rw [q]; exact Int.fmod_lt_of_pos _ h
/-- what _law_same asks of data -/
def sameD : PyData → PyData → Bool
  | .list xs, .list ys => decide (xs.length = ys.length) && sameAll xs ys
  | .tuple xs, .tuple ys => decide (xs.length = ys.length) && sameAll xs ys
  | .none, .none => true
  | .int i, .int j => decide (i = j)
  | .bool i, .bool j => i == j
  | .str i, .str j => decide (i = j)
  | _, _ => false
where sameAll : List PyData → List PyData → Bool
  | [], _ => true
  | _, [] => true
  | x :: xs, y :: ys => sameD x y && sameAll xs ys
def drN (many : Int) : Prop := 0 < many ∧ many < 1073741824
abbrev drPre (a : Dr × Int) : Prop := drN a.2
abbrev SpDraw (K : PySem.W.Frag) : Sp := SpF K (fun _ : List Int => True) (fun ns => [.dict [(.none, .list (ns.map .int))]]) (fun ns => drD ⟨ns, 0, 0, 17⟩)
abbrev SpNext (K : PySem.W.Frag) : Sp := SpO K drPre (fun a => drD a.1) (fun a => drD (nxt a.1 a.2).2) (fun a => [.int a.2]) (fun a => .int (nxt a.1 a.2).1)
end J
namespace J
open PySem L2 PySem.Spec PyProof.Rows
section
variable {T : TC} {a b e : Expr} {es : List Expr} {env e0 e1 e2 e3 : Env'} {pos p p1 p2 p3 : Pos} {x y z : PyData} {ds : List PyData} {K : PySem.W.Frag} {R C C' H H' : Hp} {σ : L2.St} {v : V}
/-! ### isinstance of built-in types -/
theorem b_list : bootBuiltins "list" = some (.type "list") := by decide +kernel
theorem b_tuple : bootBuiltins "tuple" = some (.type "tuple") := by decide +kernel
theorem b_bool : bootBuiltins "bool" = some (.type "bool") := by decide +kernel
theorem b_str : bootBuiltins "str" = some (.type "str") := by decide +kernel
theorem b_int : bootBuiltins "int" = some (.type "int") := by decide +kernel
def tyD : PyData → String
  | .none => "NoneType" | .bool _ => "bool" | .int _ => "int" | .str _ => "str" | .list _ => "list" | .tuple _ => "tuple" | .dict _ => "dict"
def noDc : PyData → Bool
  | .dict _ => false | _ => true
theorem tyx_sqT {a : Addr} {vs : List V} (h : SqT K H a vs) : TyX K H (.ref a) (.type "tuple") := by
  rcases h with h | ⟨o, its, n, h1, h2, _⟩
  · rcases h with h | ⟨o, h⟩
    · exact .base (.tup h)
    · exact .fTuple h
  · exact .kTuple h1 h2
theorem tyx {x : PyData} (h : Rp K H v x) (hn : noDc x = true) : TyX K H v (.type (tyD x)) := by
  cases h with
  | non => exact .base .non
  | bl b => exact .base (.bl b)
  | int i => exact .base (.int i)
  | str _ => exact .base (.str _)
  | lst e _ _ => exact .base (.lst e)
  | tup q _ _ => exact tyx_sqT q
  | scr _ _ _ => cases hn
  | tupD _ _ _ _ => cases hn
  | dK _ _ _ => cases hn
  | dT _ _ _ => cases hn
theorem je_isi {id : String} {nm : Str} {c : Bool} (hg : glB T.sc "isinstance" = true) (hm : T.mg "isinstance" = none) (hg1 : glB T.sc nm = true) (hm1 : T.mg nm = none) (hv1 : bootBuiltins nm = some (.type id)) (ha : JE T e e0 e1 (.d x))
    (hk : kitB (tyD x) id = some c) (hn : noDc x = true := by rfl) (hp : Plain e [.Name nm p1] pos := by exact ⟨fun _ => rfl, fun _ => rfl⟩) (hs : ∀ v : Env, starEach [.Name nm p1] v = [(false, eval (.Name nm p1) v)] := by intro _; rfl) (h1 : nm ≠ "__name__" := by decide) (h2 : (nm == ("__debug__" : Str)) = false := by decide) :
    JE T (.Call (.Name "isinstance" p) [e, .Name nm p1] [] pos) e0 e1 (.d (.bool c)) := fun X hX =>
  (pe_callB call_isi (gl_of hX hg) (by rw [hX.mg]; exact hm) boot_isinstance (pa_cons (ha X hX) (pa_cons (pe_bltn (v := V.ty id) (gl_of hX hg1) (by rw [hX.mg]; exact hm1) hv1 rfl h1 h2) pa_nil (hs X.env)) (hp.he X.env)) (by decide) (by decide) (hp.he X.env) (hp.hp X.env)).wk fun σ H Q ⟨R, C, E, k⟩ => by
    rw [hX.K] at *
    refine ⟨R, C, E, fun v C1 H1 c1 E1 r1 => ?_⟩
    exact ⟨v, .ty id, _, _, c, rfl, .ty id, tyx (r1.mono E1.cH) hn, kit_ty hk, k _ C1 H1 c1 E1 (.bl c)⟩
theorem je_isi2 {id1 id2 : String} {n1 n2 : Str} {b1 b2 : Bool} {tk : Nat} {tp : Pos} (hg : glB T.sc "isinstance" = true) (hm : T.mg "isinstance" = none) (hg1 : glB T.sc n1 = true) (hm1 : T.mg n1 = none) (hv1 : bootBuiltins n1 = some (.type id1)) (hg2 : glB T.sc n2 = true) (hm2 : T.mg n2 = none) (hv2 : bootBuiltins n2 = some (.type id2)) (ha : JE T e e0 e1 (.d x))
    (hk1 : kitB (tyD x) id1 = some b1) (hk2 : kitB (tyD x) id2 = some b2) (hn : noDc x = true := by rfl) (hp : Plain e [.Tuple [.Name n1 p1, .Name n2 p2] tk tp] pos := by exact ⟨fun _ => rfl, fun _ => rfl⟩) (hs : ∀ v : Env, starEach [.Tuple [.Name n1 p1, .Name n2 p2] tk tp] v = [(false, eval (.Tuple [.Name n1 p1, .Name n2 p2] tk tp) v)] := by intro _; rfl)
    (hs1 : ∀ v : Env, starEach [.Name n1 p1, .Name n2 p2] v = (false, eval (.Name n1 p1) v) :: starEach [.Name n2 p2] v := by intro _; rfl) (hs2 : ∀ v : Env, starEach [.Name n2 p2] v = [(false, eval (.Name n2 p2) v)] := by intro _; rfl)
    (h1 : n1 ≠ "__name__" := by decide) (h2 : (n1 == ("__debug__" : Str)) = false := by decide) (h3 : n2 ≠ "__name__" := by decide) (h4 : (n2 == ("__debug__" : Str)) = false := by decide) :
    JE T (.Call (.Name "isinstance" p) [e, .Tuple [.Name n1 p1, .Name n2 p2] tk tp] [] pos) e0 e1 (.d (.bool (b1 || b2))) := fun X hX =>
  (pe_callB call_isiT (gl_of hX hg) (by rw [hX.mg]; exact hm) boot_isinstance (pa_cons (ha X hX) (pa_cons (pe_tup (pa_cons (pe_bltn (v := V.ty id1) (gl_of hX hg1) (by rw [hX.mg]; exact hm1) hv1 rfl h1 h2) (pa_cons (pe_bltn (v := V.ty id2) (gl_of hX hg2) (by rw [hX.mg]; exact hm2) hv2 rfl h3 h4) pa_nil (hs2 X.env)) (hs1 X.env))) pa_nil (hs X.env)) (hp.he X.env)) (by decide) (by decide) (hp.he X.env) (hp.hp X.env)).wk fun σ H Q ⟨R, C, E, k⟩ => by
    rw [hX.K] at *
    refine ⟨R, C, E, fun v C1 H1 c1 E1 r1 => ⟨lnS (Nat.le_of_ble_eq_true rfl), fun t ht => ?_⟩⟩
    have E2 := E1.new (o := .tup [.ty id1, .ty id2]) ht
    have c3 : Ex C1 (upd C1 t (.tup [.ty id1, .ty id2])) := Ex.new (E1.cN ht)
    refine ⟨v, t, [.ty id1, .ty id2], _, [.type id1, .type id2], b1 || b2, rfl, upd_same, .cons (.ty id1) (.cons (.ty id2) .nil), tyx ((r1.mono c3).mono E2.cH) hn, ?_, k _ _ _ (Ex.trans c1 c3) E2 (.bl _)⟩
    refine kitAny_cons (kit_ty hk1) (fun q => ?_) fun q => by rw [q]; rfl
    refine kitAny_cons (kit_ty hk2) (fun q' => ?_) fun q' => by rw [q, q']; rfl
    rw [q, q']; exact kitAny_nil
/-! ### calls, by what they give -/
variable {mm : Str}
theorem je_call' {A : Type} {nm : Str} {k : Nat} {f : Addr} {fd : FuncData} {ps : List Str} {pre : A → Prop} {args : A → List PyData} {res : A → PyData} {d : PyData} (F : FnOk T.P T.w T.K T.mg T.base CX0 k f fd ps (SpD T.K pre args res)) (a : A) (hm : T.mg nm = some (.ref f)) (kp : PySem.W.keepIn T.K (.ref f) = true) (bi : Binds T.K fd ps [])
    (ha : JA T (e :: es) e0 e1 (args a)) (hpre : pre a) (hg : glB T.sc nm = true := by rfl) (hk : k ≤ T.k := by exact Nat.le_of_ble_eq_true rfl) (hq : res a = d := by rfl) (hp : Plain e es pos := by exact ⟨fun _ => rfl, fun _ => rfl⟩) (hdb : (nm == ("__debug__" : Str)) = false := by decide) : JE T (.Call (.Name nm p) (e :: es) [] pos) e0 e1 (.d d) :=
  hq ▸ je_call F a hm kp bi hg hk ha hpre hp hdb
theorem je_callF' {A : Type} {nm : Str} {k : Nat} {f : Addr} {fd : FuncData} {ps : List Str} {pre : A → Prop} {args : A → List PyData} {res : A → PyData} {d : PyData} (F : FnOk T.P T.w T.K T.mg T.base CX0 k f fd ps (SpF T.K pre args res)) (a : A) (hm : T.mg nm = some (.ref f)) (kp : PySem.W.keepIn T.K (.ref f) = true) (bi : Binds T.K fd ps [])
    (ha : JA T (e :: es) e0 e1 (args a)) (hpre : pre a) (hg : glB T.sc nm = true := by rfl) (hk : k ≤ T.k := by exact Nat.le_of_ble_eq_true rfl) (hq : res a = d := by rfl) (hp : Plain e es pos := by exact ⟨fun _ => rfl, fun _ => rfl⟩) (hdb : (nm == ("__debug__" : Str)) = false := by decide) : JE T (.Call (.Name nm p) (e :: es) [] pos) e0 e1 (.o d) :=
  hq ▸ je_callF F a hm kp bi hg hk ha hpre hp hdb
theorem je_callO' {A : Type} {nm x : Str} {k : Nat} (i : Nat) {f : Addr} {fd : FuncData} {ps : List Str} {pre : A → Prop} {d0 d1 : A → PyData} {args : A → List PyData} {res : A → PyData} {k0 : Option Addr} {px : Pos} {d : PyData} (F : FnOk T.P T.w T.K T.mg T.base CX0 k f fd ps (SpO T.K pre d0 d1 args res)) (a : A) (hm : T.mg nm = some (.ref f)) (kp : PySem.W.keepIn T.K (.ref f) = true) (bi : Binds T.K fd ps [])
    (ha : JA T es e0 e1 (args a)) (hpre : pre a) (hi : e1[i]? = some (.o k0 (d0 a)) := by rfl) (hi0 : ∃ d, e0[i]? = some (.o k0 d) := by exact ⟨_, rfl⟩) (hq : res a = d := by rfl) (he : e1.set i (.o k0 (d1 a)) = e2 := by rfl) (hg : glB T.sc nm = true := by rfl) (hk : k ≤ T.k := by exact Nat.le_of_ble_eq_true rfl) (hN : T.N[i]? = some x := by rfl) (hv : visB T.sc x = true := by rfl) (hp : Plain (.Name x px) es pos := by exact ⟨fun _ => rfl, fun _ => rfl⟩) (hdb : (nm == ("__debug__" : Str)) = false := by decide)
    (hd : (x == ("__debug__" : Str)) = false := by decide) (hcd : (x == ("__classdict__" : Str)) = false := by decide) : JE T (.Call (.Name nm p) (.Name x px :: es) [] pos) e0 e2 (.d d) := by
  subst hq; subst he
  exact je_callO F a hm kp bi hg hk hN hv hi0 ha hi hpre hp hdb hd hcd
/-! ### ifs that are known -/
section
variable {ρ : Type} {cr : ρ → PyData} {er : ρ → Env'} {A B rest : List Stmt}
theorem jb_no {r : ρ} (ht : JT T e e0 e1 false) (h : JB T cr er rest e1 r) : JB T cr er (.If e A [] pos :: rest) e0 r :=
  jb_is (jb_ifr (r := r) ht (fun h => by cases h) (fun _ => h)) rfl
theorem jb_yes {r : ρ} (ht : JT T e e0 e1 true) (h : JB T cr er A e1 r) : JB T cr er (.If e A [] pos :: rest) e0 r :=
  jb_is (jb_ifr (r' := r) ht (fun _ => h) (fun h => by cases h)) rfl
theorem jb_noc {r : ρ} {c : Bool} (ht : JT T e e0 e1 c) (hc : c = false) (h : JB T cr er rest e1 r) : JB T cr er (.If e A [] pos :: rest) e0 r := by
  subst hc; exact jb_no ht h
theorem jb_yesc {r : ρ} {c : Bool} (ht : JT T e e0 e1 c) (hc : c = true) (h : JB T cr er A e1 r) : JB T cr er (.If e A [] pos :: rest) e0 r := by
  subst hc; exact jb_yes ht h
end
end
/-- pairs of data that _law_same can be asked about, with the nesting of the second -/
inductive SameP : Nat → PyData → PyData → Prop
  | non {n : Nat} : SameP n .none .none
  | non1 {n : Nat} {y : PyData} : noDc y = true → SameP n .none y
  | non2 {n : Nat} {x : PyData} : noDc x = true → SameP n x .none
  | int {n : Nat} (i j : Int) : SameP n (.int i) (.int j)
  | bool {n : Nat} (i j : Bool) : SameP n (.bool i) (.bool j)
  | str {n : Nat} (i j : Str) : SameP n (.str i) (.str j)
  | lst {n : Nat} {xs ys : List PyData} : (∀ (i : Nat) x y, xs[i]? = some x → ys[i]? = some y → SameP n x y) → SameP (n + 1) (.list xs) (.list ys)
  | tup {n : Nat} {xs ys : List PyData} : (∀ (i : Nat) x y, xs[i]? = some x → ys[i]? = some y → SameP n x y) → SameP (n + 1) (.tuple xs) (.tuple ys)
abbrev SpSame (K : PySem.W.Frag) (n : Nat) : Sp := SpD K (fun a : PyData × PyData => SameP n a.1 a.2) (fun a => [a.1, a.2]) (fun a => .bool (sameD a.1 a.2))
instance : Inhabited PyData := ⟨.none⟩
theorem gI_some {α : Type} [Inhabited α] {xs : List α} {i : Int} (h : inR xs.length i) : atI xs i = some (gI xs i) := by
  obtain ⟨x, hx⟩ := atI_inR h
  unfold gI; rw [hx]; rfl
theorem gI_nat {α : Type} [Inhabited α] (xs : List α) (k : Nat) : gI xs (k : Int) = xs.getD k default := by
  unfold gI
  by_cases h : k < xs.length
  · have : atI xs (k : Int) = some xs[k] := by
      unfold atI ixN
      simp [h]
    rw [this]; simp [h]
  · have : atI xs (k : Int) = none := by
      unfold atI ixN
      simp [h]
    rw [this]; simp [h]
theorem gI_getE {α : Type} [Inhabited α] {xs : List α} {i : Int} (h : 0 ≤ i ∧ i < xs.length) : xs[i.toNat]? = some (gI xs i) := by
  have := gI_nat xs i.toNat
  rw [show ((i.toNat : Nat) : Int) = i by omega] at this
  rw [this, List.getD_eq_getElem?_getD, List.getElem?_eq_getElem (show i.toNat < xs.length by omega)]; rfl
theorem rgI_zero (n : Nat) : rgI 0 n = (List.range n).map fun (i : Nat) => (i : Int) := by
  unfold rgI; simp
theorem sameAll_map : ∀ (xs ys : List PyData), xs.length = ys.length → sameD.sameAll xs ys = ((rgI 0 ys.length).map fun k => sameD (gI xs k) (gI ys k)).all id
  | [], ys, h => by
    have : ys = [] := List.length_eq_zero_iff.mp h.symm
    subst this; simp [sameD.sameAll, rgI]
  | x :: xs, [], h => by simp at h
  | x :: xs, y :: ys, h => by
    rw [sameD.sameAll, sameAll_map xs ys (by simpa using h), List.length_cons, rgI_zero, rgI_zero, List.range_succ_eq_map]
    simp only [List.map_map, List.map_cons, List.all_cons, Function.comp_def, gI_nat]
    simp [Function.comp_def]
theorem rgI_mem {lo hi k : Int} (h : k ∈ rgI lo hi) : lo ≤ k ∧ k < hi := by
  unfold rgI at h
  obtain ⟨i, hi, rfl⟩ := List.mem_map.mp h
  have := List.mem_range.mp hi
  omega
theorem sameD_list (xs ys : List PyData) : (if (!decide ((xs.length : Int) = ys.length)) = true then false else sameD.sameAll xs ys) = sameD (.list xs) (.list ys) := by
  have e : decide ((xs.length : Int) = ys.length) = decide (xs.length = ys.length) := by rw [decide_eq_decide]; omega
  rw [sameD, e]; cases decide (xs.length = ys.length) <;> rfl
theorem sameD_tuple (xs ys : List PyData) : (if (!decide ((xs.length : Int) = ys.length)) = true then false else sameD.sameAll xs ys) = sameD (.tuple xs) (.tuple ys) := by
  have e : decide ((xs.length : Int) = ys.length) = decide (xs.length = ys.length) := by rw [decide_eq_decide]; omega
  rw [sameD, e]; cases decide (xs.length = ys.length) <;> rfl
theorem of_nec {m n : Nat} (h : (!decide ((m : Int) = n)) = false) : m = n := by
  have : (m : Int) = n := by simpa using h
  omega
theorem noDc_cases {x : PyData} (h : noDc x = true) : x = .none ∨ (∃ b, x = .bool b) ∨ (∃ b, x = .int b) ∨ (∃ b, x = .str b) ∨ (∃ b, x = .list b) ∨ (∃ b, x = .tuple b) := by
  cases x <;> first | (simp; done) | cases h
end J
namespace J
open PySem L2 PySem.Spec PyProof.Rows
section
variable {T : TC} {a b e : Expr} {es : List Expr} {env e0 e1 e2 e3 : Env'} {pos p p1 p2 p3 : Pos} {x y z : PyData} {ds : List PyData} {K : PySem.W.Frag} {R C C' H H' : Hp} {σ : L2.St} {v : V} {α β γ : Type} {enc : α → PyData} {dec : β → PyData}
/-! ### values told ahead -/
theorem let_ok {α : Type} {v : α} {k : α → Prop} (h : Let v k) (x : α) (e : x = v) : k x := e ▸ h
section
variable {ρ L : Type} {cr : ρ → PyData} {er : ρ → Env'} {E : L → Env'} {rest : List Stmt}
theorem jb_pre {α : Type} {v : α} {k : α → ρ} (h : ∀ x, x = v → JB T cr er rest env (k x)) : JB T cr er rest env (Let v k) := h v rfl
theorem jn_pre {α : Type} {v : α} {k : α → L} (h : ∀ x, x = v → JN T E rest env (k x)) : JN T E rest env (Let v k) := h v rfl
theorem jm_pre {α : Type} {v : α} {k : α → L ⊕ ρ} (h : ∀ x, x = v → JM T E cr er rest env (k x)) : JM T E cr er rest env (Let v k) := h v rfl
def orJ {L' : Type} (o : L' ⊕ ρ) (k : L' → L ⊕ ρ) : L ⊕ ρ := match o with
  | .inl l => k l
  | .inr r => .inr r
variable {st : Stmt}
theorem jm_orJ {L' : Type} {E' : L' → Env'} {o : L' ⊕ ρ} {k : L' → L ⊕ ρ} (h : JS T st e0 (ocR E' cr er o)) (h' : ∀ l, o = .inl l → JM T E cr er rest (E' l) (k l)) : JM T E cr er (st :: rest) e0 (orJ o k) := by
  have := jm_or h h'
  cases o <;> exact this
end
theorem lcd_let {S : Type} {scope : Scope} {tg elt : Expr} {own : List (Str × Nat)} {Ev : S → Env'} {d : PyData} {s : S} {α : Type} {w : α} {k : α → β × S} (h : ∀ x, x = w → LcD T scope tg elt own Ev dec d s (k x)) : LcD T scope tg elt own Ev dec d s (Let w k) := h w rfl
/-! ### None or a value -/
theorem je_isNo {o : Option α} {j pos'} (ha : JE T a e0 e1 (.b (eO enc o))) (h : ∀ a, isNoneD (enc a) = false := by intro _; rfl) : JE T (.Compare a [.Is] [.Constant .none j pos'] pos) e0 e1 (.d (.bool o.isNone)) := by
  rw [← isN_eO h]; exact je_isN ha
theorem je_notNo {o : Option α} {j pos'} (ha : JE T a e0 e1 (.b (eO enc o))) (h : ∀ a, isNoneD (enc a) = false := by intro _; rfl) : JE T (.Compare a [.IsNot] [.Constant .none j pos'] pos) e0 e1 (.d (.bool (!o.isNone))) := by
  rw [← isN_eO h]; exact je_notN ha
theorem jt_isNo {o : Option α} {j pos'} (ha : JE T a e0 e1 (.b (eO enc o))) (h : ∀ a, isNoneD (enc a) = false := by intro _; rfl) : JT T (.Compare a [.Is] [.Constant .none j pos'] pos) e0 e1 o.isNone := by
  rw [← isN_eO h]; exact jt_isN ha
theorem jt_notNo {o : Option α} {j pos'} (ha : JE T a e0 e1 (.b (eO enc o))) (h : ∀ a, isNoneD (enc a) = false := by intro _; rfl) : JT T (.Compare a [.IsNot] [.Constant .none j pos'] pos) e0 e1 (!o.isNone) := by
  rw [← isN_eO h]; exact jt_notN ha
/-- the value of what is not None -/
def unO [Inhabited α] (o : Option α) : α := o.getD default
theorem je_un [Inhabited α] {o : Option α} (ha : JE T a e0 e1 (.d (eO enc o))) (h : o.isSome = true) : JE T a e0 e1 (.d (enc (unO o))) := by
  cases o with
  | none => cases h
  | some x => exact ha
/-! ### truth of lists -/
theorem jt_tL {xs : List α} (h : JE T e e0 e1 (.b (.list (xs.map enc)))) (he : ∀ (v : Env) whole, isTrue e v whole = (do let v ← whole; standAt e.pos; holding [v] (truthy v)) := by intro _ _; rfl) : JT T e e0 e1 (!xs.isEmpty) := by
  have := jt_t h rfl he
  simp only [truD, List.isEmpty_map] at this
  exact this
theorem jt_tT {xs : List α} (h : JE T e e0 e1 (.b (.tuple (xs.map enc)))) (he : ∀ (v : Env) whole, isTrue e v whole = (do let v ← whole; standAt e.pos; holding [v] (truthy v)) := by intro _ _; rfl) : JT T e e0 e1 (!xs.isEmpty) := by
  have := jt_t h rfl he
  simp only [truD, List.isEmpty_map] at this
  exact this
/-! ### list(range(..)) -/
theorem rgV_rgI (lo hi : Int) : Rps K C (rgV lo hi) ((rgI lo hi).map .int) := by
  have : rgV lo hi = (rgI lo hi).map V.int := by unfold rgV rgI; rw [List.map_map]; rfl
  rw [this]; exact Rps.ints
def rg1 (n : Int) : Prop := -(2 ^ 62) ≤ n ∧ n ≤ 16777216
def rg2 (m n : Int) : Prop := -(2 ^ 62) ≤ m ∧ m < 2 ^ 62 ∧ -(2 ^ 62) ≤ n ∧ n < 2 ^ 62 ∧ n - m ≤ 16777216
theorem je_listRg1 {n : Int} (hg : glB T.sc "list" = true) (hm : T.mg "list" = none) (hg' : glB T.sc "range" = true) (hm' : T.mg "range" = none) (h : JE T a e0 e1 (.d (.int n))) (hn : rg1 n)
    (hs : ∀ v : Env, starEach [a] v = [(false, eval a v)] := by intro _; rfl) (hs' : ∀ v : Env, starEach [.Call (.Name "range" p2) [a] [] p3] v = [(false, eval (.Call (.Name "range" p2) [a] [] p3) v)] := by intro _; rfl) : JE T (.Call (.Name "list" p) [.Call (.Name "range" p2) [a] [] p3] [] pos) e0 e1 (.o (.list ((rgI 0 n).map .int))) := fun X hX =>
  (pe_listRg hX.calm (gl_of hX hg) (by rw [hX.mg]; exact hm) (prg_1 (gl_of hX hg') (by rw [hX.mg]; exact hm') (h X hX) (hs X.env)) (hs' X.env)).wk fun σ H Q ⟨R, C, E, k⟩ => ⟨R, C, E, fun v C1 H1 c1 E1 r1 => by
    cases r1
    obtain ⟨h1, h2⟩ := hn
    refine ⟨n, rfl, ⟨by omega, by omega, h1, by omega, by omega⟩, fun q hq => ?_⟩
    obtain ⟨E2, r⟩ := E1.freshO hq (by rw [rgV_length]; show _ ≤ 16777216; omega) (rgV_rgI 0 n)
    exact k _ C1 _ c1 E2 r⟩
theorem je_listRg2 {m n : Int} (hg : glB T.sc "list" = true) (hm : T.mg "list" = none) (hg' : glB T.sc "range" = true) (hm' : T.mg "range" = none) (h : JE T a e0 e1 (.d (.int m))) (h' : JE T b e1 e2 (.d (.int n))) (hn : rg2 m n)
    (hs : ∀ v : Env, starEach [a, b] v = (false, eval a v) :: starEach [b] v := by intro _; rfl) (hsb : ∀ v : Env, starEach [b] v = (false, eval b v) :: starEach [] v := by intro _; rfl) (hpp : ∀ v : Env, (backTo p3 (starEach [b] v)).any (·.1) = false := by intro _; rfl) (hs' : ∀ v : Env, starEach [.Call (.Name "range" p2) [a, b] [] p3] v = [(false, eval (.Call (.Name "range" p2) [a, b] [] p3) v)] := by intro _; rfl) : JE T (.Call (.Name "list" p) [.Call (.Name "range" p2) [a, b] [] p3] [] pos) e0 e2 (.o (.list ((rgI m n).map .int))) := fun X hX =>
  (pe_listRg hX.calm (gl_of hX hg) (by rw [hX.mg]; exact hm) (prg_2 (gl_of hX hg') (by rw [hX.mg]; exact hm') (h X hX) (h' X hX) (hs X.env) (hsb X.env) (hpp X.env)) (hs' X.env)).wk fun σ H Q ⟨R, C, E, k⟩ => ⟨R, C, E, fun v C1 H1 c1 E1 r1 => ⟨R, C1, E1, fun v2 C2 H2 c2 E2 r2 => by
    cases r1; cases r2
    obtain ⟨h1, h2, h3, h4, h5⟩ := hn
    refine ⟨m, n, rfl, rfl, ⟨by omega, by omega, h3, by omega, by omega⟩, fun q hq => ?_⟩
    obtain ⟨E3, r⟩ := E2.freshO hq (by rw [rgV_length]; show _ ≤ 16777216; omega) (rgV_rgI m n)
    exact k _ C2 _ (c1.trans c2) E3 r⟩⟩
/-! ### own defs of the text -/
structure Own (K : PySem.W.Frag) (mg : Str → Option Value) (nm : Str) (st : Stmt) (ps : List Str) (f : Addr) (fd : FuncData) : Prop where
  F : Fun K nm nm st f fd
  m : mg nm = some (.ref f)
  b : Binds K fd ps []
/-- the law's own promise -/
def spLawJ (K : PySem.W.Frag) : Sp := fun vs H Q _ => ∃ (a : Addr) (ns : List Int), vs = [.ref a] ∧ SqL K H a (ns.map V.int) ∧ ns.length ≤ 63 ∧ ∀ H', Q (.bl true) H'
theorem law_top {P : Program} {w : World} {mg : Str → Option Value} {base : Heap} {k : Nat} {f : Addr} {fd : FuncData} {m : List Int → Bool} {pre : List Int → Prop}
    (F : FnOk P w K mg base CX0 k f fd ["script"] (SpD K pre (fun ns => [.dict [(.none, .list (ns.map .int))]]) (fun ns => .bool (m ns)))) (hm : ∀ ns : List Int, ns.length ≤ 63 → pre ns ∧ m ns = true) : FnOk P w K mg base CX0 k f fd ["script"] (spLawJ K) :=
  F.imp fun vs H Q E ⟨a, ns, h1, h2, h3, q⟩ => by
    subst h1
    have key : ∃ C : Hp, Ex C H ∧ Lk C ∧ SqL K C a (ns.map V.int) := by
      rcases h2 with h2 | h2
      · have hS : ∀ b o, (fun b => if b = a then H a else none : Hp) b = some o → b = a ∧ H a = some o := fun b o e => by
          by_cases hb : b = a
          · simp only [if_pos hb] at e; exact ⟨hb, e⟩
          · simp only [if_neg hb] at e; cases e
        refine ⟨fun b => if b = a then H a else none, fun b o e => ?_, fun b o e => ?_, .inl ?_⟩
        · obtain ⟨rfl, e⟩ := hS b o e; exact e
        · obtain ⟨_, e⟩ := hS b o e
          rcases h2 with h2 | ⟨_, h2⟩ <;> rw [h2] at e <;> cases e <;> trivial
        · rcases h2 with h2 | ⟨o, h2⟩
          · exact .inl (by simp only [if_pos]; exact h2)
          · exact .inr ⟨o, by simp only [if_pos]; exact h2⟩
      · exact ⟨fun _ => none, (fun _ _ e => by cases e), (fun _ _ e => by cases e), Or.inr h2⟩
    obtain ⟨C, c1, c2, c3⟩ := key
    refine ⟨ns, C, (hm ns h3).1, ⟨c1, c2⟩, .cons (.scr c3 (by rw [List.length_map]; show _ ≤ 16777216; omega) Rps.ints) .nil, fun v C' H' _ _ _ r => ?_⟩
    have r : Rp K C' v (.bool (m ns)) := r
    rw [(hm ns h3).2] at r
    cases r
    exact q H'
theorem walkJ {l : PySem.W.OpenLaw} {q : Program} {loose : List Str} {XP : (Str → Option Value) → Heap → Prop} {YP : World → Heap → Prop} {d : DefRec} {K : Params → PySem.W.Frag} {k : Nat} (hn : l.most = some 63) (hdf : d.params.defaults = []) (hr : Room k callerA)
    (hY : ∀ (w : World) (h : Heap), YP w h → (K w.params).In h)
    (F : ∀ (w : World) (mg : Str → Option Value) (fa : Addr) (h : Heap), (K w.params).In h → h.Ns mainGlobals mg → mg d.name = some (.ref fa) →
      ∃ fd : FuncData, (∀ (s : Shared) (u : Value), BindsTo s fd ⟨[u], []⟩ [("script", u)]) ∧ ∀ base : Heap, (K w.params).In base → base.Ns mainGlobals mg → FnOk l.prog w (K w.params) mg base CX0 k fa fd ["script"] (spLawJ (K w.params))) :
    PySem.W.WalkO q loose XP YP l.row.toRowW d [] (fun f vs => PySem.call f vs) :=
  L2.walk_of (n := 63) (k := k) (x := "script") (CX := fun _ => CX0) (sp := fun w => spLawJ (K w.params)) hn (by decide) hdf hr hY F (fun _ _ a ns hl _ hS => ⟨a, ns, rfl, hS, hl, fun _ => rfl⟩) fun _ _ _ _ _ z => z
end
end J
namespace J
open PySem L2 PySem.Spec PyProof.Rows
/-! ### what _law_same says of data of one kind -/
section
variable {α β γ δ ε ζ : Type} {f : α → PyData} {g : β → PyData} {h : γ → PyData} {i : δ → PyData} {j : ε → PyData} {k : ζ → PyData} {n : Nat}
theorem sameP_up {x y : PyData} {m : Nat} (h : SameP m x y) : ∀ {n : Nat}, m ≤ n → SameP n x y := by
  induction h with
  | non => intro n hn; exact .non
  | non1 h => intro n hn; exact .non1 h
  | non2 h => intro n hn; exact .non2 h
  | int i j => intro n hn; exact .int i j
  | bool i j => intro n hn; exact .bool i j
  | str i j => intro n hn; exact .str i j
  | lst h ih =>
    intro n hn
    obtain ⟨m, rfl⟩ : ∃ m, n = m + 1 := ⟨n - 1, by omega⟩
    exact .lst fun i x y h1 h2 => ih i x y h1 h2 (by omega)
  | tup h ih =>
    intro n hn
    obtain ⟨m, rfl⟩ : ∃ m, n = m + 1 := ⟨n - 1, by omega⟩
    exact .tup fun i x y h1 h2 => ih i x y h1 h2 (by omega)
def SpE (f : α → PyData) (n : Nat) : Prop := ∀ a b, SameP n (f a) (f b)
theorem sp_int : SpE PyData.int n := fun a b => .int a b
theorem sp_bool : SpE PyData.bool n := fun a b => .bool a b
theorem sp_str : SpE PyData.str n := fun a b => .str a b
theorem SpE.all (F : SpE f n) (xs ys : List α) : ∀ (i : Nat) x y, (xs.map f)[i]? = some x → (ys.map f)[i]? = some y → SameP n x y := fun i x y h1 h2 => by
  rw [List.getElem?_map] at h1 h2
  cases q1 : xs[i]? with
  | none => rw [q1] at h1; cases h1
  | some a =>
    cases q2 : ys[i]? with
    | none => rw [q2] at h2; cases h2
    | some b => rw [q1] at h1; rw [q2] at h2; cases h1; cases h2; exact F a b
theorem sp_l (F : SpE f n) : SpE (eL f) (n + 1) := fun a b => .lst (F.all a b)
theorem sp_t (F : SpE f n) : SpE (eT f) (n + 1) := fun a b => .tup (F.all a b)
theorem sp_o (F : SpE f n) (hn : ∀ a, noDc (f a) = true) : SpE (eO f) n := fun a b => by
  cases a with
  | none => cases b with
    | none => exact .non
    | some b => exact .non1 (hn b)
  | some a => cases b with
    | none => exact .non2 (hn a)
    | some b => exact F a b
def SameL (n : Nat) : List PyData → List PyData → Prop
  | [], _ => True
  | _ :: _, [] => True
  | x :: xs, y :: ys => SameP n x y ∧ SameL n xs ys
theorem SameL.get : ∀ {xs ys : List PyData}, SameL n xs ys → ∀ (i : Nat) x y, xs[i]? = some x → ys[i]? = some y → SameP n x y
  | [], _, _ => fun i x y h => by simp at h
  | _ :: _, [], _ => fun i x y _ h => by simp at h
  | a :: xs, b :: ys, h => fun i x y h1 h2 => by
    cases i with
    | zero => simp at h1 h2; subst h1; subst h2; exact h.1
    | succ i => exact SameL.get h.2 i x y (by simpa using h1) (by simpa using h2)
theorem sp_p1 (F : SpE f n) : SpE (eP1 f) (n + 1) := fun a b => .tup (SameL.get ⟨F _ _, trivial⟩)
theorem sp_p2 (F : SpE f n) (G : SpE g n) : SpE (eP2 f g) (n + 1) := fun a b => .tup (SameL.get ⟨F _ _, G _ _, trivial⟩)
theorem sp_p3 (F : SpE f n) (G : SpE g n) (H : SpE h n) : SpE (eP3 f g h) (n + 1) := fun a b => .tup (SameL.get ⟨F _ _, G _ _, H _ _, trivial⟩)
theorem sp_p4 (F : SpE f n) (G : SpE g n) (H : SpE h n) (I : SpE i n) : SpE (eP4 f g h i) (n + 1) := fun a b => .tup (SameL.get ⟨F _ _, G _ _, H _ _, I _ _, trivial⟩)
theorem sp_p5 (F : SpE f n) (G : SpE g n) (H : SpE h n) (I : SpE i n) (J : SpE j n) : SpE (eP5 f g h i j) (n + 1) := fun a b => .tup (SameL.get ⟨F _ _, G _ _, H _ _, I _ _, J _ _, trivial⟩)
theorem sp_p6 (F : SpE f n) (G : SpE g n) (H : SpE h n) (I : SpE i n) (J : SpE j n) (K : SpE k n) : SpE (eP6 f g h i j k) (n + 1) := fun a b => .tup (SameL.get ⟨F _ _, G _ _, H _ _, I _ _, J _ _, K _ _, trivial⟩)
variable [DecidableEq α] [DecidableEq β] [DecidableEq γ] [DecidableEq δ] [DecidableEq ε] [DecidableEq ζ]
def SmE {α : Type} [DecidableEq α] (f : α → PyData) : Prop := ∀ a b, sameD (f a) (f b) = decide (a = b)
theorem sm_int : SmE PyData.int := fun a b => by simp [sameD]
theorem sm_bool : SmE PyData.bool := fun a b => by simp [sameD, Bool.beq_eq_decide_eq]
theorem sm_str : SmE PyData.str := fun a b => by simp [sameD]
theorem sm_all (F : SmE f) : ∀ xs ys : List α, (decide ((xs.map f).length = (ys.map f).length) && sameD.sameAll (xs.map f) (ys.map f)) = decide (xs = ys)
  | [], [] => by simp [sameD.sameAll]
  | [], y :: ys => by simp
  | x :: xs, [] => by simp
  | x :: xs, y :: ys => by
    have ih := sm_all F xs ys
    simp only [List.length_map] at ih
    rw [List.map_cons, List.map_cons, sameD.sameAll, F, List.length_cons, List.length_cons]
    simp only [List.length_map, Nat.succ.injEq, List.cons.injEq, Nat.add_right_cancel_iff]
    rw [Bool.decide_and, ← ih]
    cases decide (x = y) <;> cases decide (xs.length = ys.length) <;> simp
theorem sm_l (F : SmE f) : SmE (eL f) := fun a b => by
  show sameD (.list _) (.list _) = _
  rw [sameD]; exact sm_all F a b
theorem sm_t (F : SmE f) : SmE (eT f) := fun a b => by
  show sameD (.tuple _) (.tuple _) = _
  rw [sameD]; exact sm_all F a b
theorem sm_o (F : SmE f) (hn : ∀ a, sameD .none (f a) = false ∧ sameD (f a) .none = false) : SmE (eO f) := fun a b => by
  cases a with
  | none => cases b with
    | none => simp [sameD]
    | some b => simp [(hn b).1]
  | some a => cases b with
    | none => simp [(hn a).2]
    | some b => rw [show eO f (some a) = f a from rfl, show eO f (some b) = f b from rfl, F]; simp
theorem sm_p1 (F : SmE f) : SmE (eP1 f) := fun a b => by
  show sameD (.tuple _) (.tuple _) = _
  rw [sameD]; simp [sameD.sameAll, F _ _]
theorem sm_p2 (F : SmE f) (G : SmE g) : SmE (eP2 f g) := fun a b => by
  show sameD (.tuple _) (.tuple _) = _
  rw [sameD]; simp [sameD.sameAll, F _ _, G _ _, Prod.ext_iff]
theorem sm_p3 (F : SmE f) (G : SmE g) (H : SmE h) : SmE (eP3 f g h) := fun a b => by
  show sameD (.tuple _) (.tuple _) = _
  rw [sameD]; simp [sameD.sameAll, F _ _, G _ _, H _ _, Prod.ext_iff]
theorem sm_p4 (F : SmE f) (G : SmE g) (H : SmE h) (I : SmE i) : SmE (eP4 f g h i) := fun a b => by
  show sameD (.tuple _) (.tuple _) = _
  rw [sameD]; simp [sameD.sameAll, F _ _, G _ _, H _ _, I _ _, Prod.ext_iff]
theorem sm_p5 (F : SmE f) (G : SmE g) (H : SmE h) (I : SmE i) (J : SmE j) : SmE (eP5 f g h i j) := fun a b => by
  show sameD (.tuple _) (.tuple _) = _
  rw [sameD]; simp [sameD.sameAll, F _ _, G _ _, H _ _, I _ _, J _ _, Prod.ext_iff]
theorem sm_p6 (F : SmE f) (G : SmE g) (H : SmE h) (I : SmE i) (J : SmE j) (K : SmE k) : SmE (eP6 f g h i j k) := fun a b => by
  show sameD (.tuple _) (.tuple _) = _
  rw [sameD]; simp [sameD.sameAll, F _ _, G _ _, H _ _, I _ _, J _ _, K _ _, Prod.ext_iff]
omit [DecidableEq β] [DecidableEq γ] [DecidableEq δ] [DecidableEq ε] [DecidableEq ζ] in
theorem same_q (F : SmE f) (a b : α) : PyData.bool (sameD (f a) (f b)) = .bool (decide (a = b)) := by rw [F a b]
end
/-! ### results that have a name -/
section
variable {T : TC} {a b e : Expr} {es : List Expr} {env e0 e1 e2 e3 : Env'} {pos p : Pos} {α β γ : Type} {tg iter elt : Expr} {scope : Scope}
theorem je_lcDq {β S : Type} {enc : α → PyData} {xs : List α} (m : List β × S) (own : List (Str × Nat)) (Ev : S → Env') (dec : β → PyData) (f : S → α → β × S) (s0 : S) (hm : m = mapS f s0 xs) (hi : JI T tg iter e0 (Ev s0) (xs.map enc)) (hnd : T.N.Nodup) (ok : blkC T.N T.sc scope own = true) (hu : ∀ s, unk (Ev s) (own.map (·.2)))
    (turn : ∀ s x, x ∈ xs → LcD T scope tg elt own Ev dec (enc x) s (f s x)) (hs : ∀ (v : Env) x, foldedSetIterable iter v x = pure x := by intro _ _; rfl) : JE T (.ListComp elt [⟨tg, iter, [], 0⟩] scope pos) e0 (Ev m.2) (.o (.list (m.1.map dec))) := by
  subst hm; exact je_lcD own Ev dec f s0 hi hnd ok hu turn hs
theorem js_setLcDq {β S : Type} {enc : α → PyData} {xs : List α} (m : List β × S) (i : Nat) {nm : Str} {py spos : Pos} (own : List (Str × Nat)) (Ev : S → Env') (dec : β → PyData) (f : S → α → β × S) (s0 : S) (hm : m = mapS f s0 xs) (hi : JI T tg iter e0 (Ev s0) (xs.map enc)) (hnd : T.N.Nodup) (ok : blkC T.N T.sc scope own = true) (hu : ∀ s, unk (Ev s) (own.map (·.2)))
    (turn : ∀ s x, x ∈ xs → LcD T scope tg elt own Ev dec (enc x) s (f s x)) (hN : T.N[i]? = some nm := by rfl) (hl : T.sc.names.lookup nm = some .local := by rfl) (hk : T.sc.kind = .function := by rfl) (hpl : (py.line == pos.line) = true := by rfl) (ha : (scope.names.any fun (n, k) => n == nm && (k == .local || k == .cell)) = false := by decide +kernel) (hs : ∀ (v : Env) x, foldedSetIterable iter v x = pure x := by intro _ _; rfl) :
    JS T (.Assign [.Name nm py] (.ListComp elt [⟨tg, iter, [], 0⟩] scope pos) spos) e0 (.nx ((Ev m.2).set i (.o none (.list (m.1.map dec))))) := by
  subst hm; exact js_setLcD i own Ev dec f s0 hi hnd ok hu turn hN hl hk hpl ha hs
theorem je_ifsq {α : Type} (r : α) (enc : α → PyData) (Ev : α → Env') {t : Expr} {c : Bool} {u w : α} (hr : r = if c = true then u else w) (ht : JT T t e0 e1 c) (ha : c = true → JE T a e1 (Ev u) (.d (enc u))) (hb : c = false → JE T b e1 (Ev w) (.d (enc w))) : JE T (.IfExp t a b pos) e0 (Ev r) (.d (enc r)) := by
  subst hr; exact je_ifs enc Ev ht ha hb
end
end J
namespace J
open PySem L2 PySem.Spec PyProof.Rows PySem.W
/-! ### plain laws: order of data -/
theorem snocInd {α : Type} {P : List α → Prop} (h0 : P []) (h1 : ∀ xs x, P xs → P (xs ++ [x])) : ∀ xs, P xs := fun xs => by
  have : ∀ n (xs : List α), xs.length = n → P xs := by
    intro n
    induction n with
    | zero => intro xs h; rw [List.length_eq_zero_iff.mp h]; exact h0
    | succ n ih =>
      intro xs h
      have hne : xs ≠ [] := by intro q; subst q; simp at h
      rw [← List.dropLast_concat_getLast hne]
      exact h1 _ _ (ih _ (by rw [List.length_dropLast]; omega))
  exact this _ xs rfl
def ltB {α : Type} (f : α → PyData) (a b : α) : Bool := dataLt (f a) (f b)
theorem dataLe_eq {α : Type} (f : α → PyData) (a b : α) : dataLe false f a b = !ltB f b a := rfl
theorem ltB_int (a b : Int) : ltB PyData.int a b = decide (a < b) := dataLt_int a b
theorem dataLt_irrefl (d : PyData) : dataLt d d = false := (listOrd itemOrd).irrefl (keyToks d)
theorem ltB_p2 {α β : Type} [DecidableEq α] [DecidableEq β] {f : α → PyData} {g : β → PyData} (F : AlkE f) (G : AlkE g) (Fe : EqE f) (Ge : EqE g) (p q : α × β) : ltB (eP2 f g) p q = if p.1 = q.1 then ltB g p.2 q.2 else ltB f p.1 q.1 := by
  show dataLt (.tuple _) (.tuple _) = _
  rw [dataLt_tuple]
  by_cases h : p.1 = q.1
  · rw [if_pos h, dataLt_all_yes (F.1 _ _) (by rw [Fe]; simp [h])]
    by_cases h2 : p.2 = q.2
    · rw [dataLt_all_yes (G.1 _ _) (by rw [Ge]; simp [h2])]
      unfold ltB; rw [h2]
      have e1 : lexLt itemOrd (keyToksAll []) (keyToksAll []) = false := by
        unfold keyToksAll; rw [lex_one]; simp [itemLt]
      rw [e1]
      exact (dataLt_irrefl _).symm
    · rw [dataLt_all_no (G.1 _ _) (by rw [Ge]; simp [h2])]; rfl
  · rw [if_neg h, dataLt_all_no (F.1 _ _) (by rw [Fe]; simp [h])]; rfl
/-- lists of one kind, compared place by place -/
def ltLs {α : Type} [DecidableEq α] (f : α → PyData) : List α → List α → Bool
  | [], [] => false
  | [], _ :: _ => true
  | _ :: _, [] => false
  | x :: xs, y :: ys => if x = y then ltLs f xs ys else ltB f x y
theorem lex_ltLs {α : Type} [DecidableEq α] {f : α → PyData} (F : AlkE f) (Fe : EqE f) : ∀ xs ys : List α, lexLt itemOrd (keyToksAll (xs.map f)) (keyToksAll (ys.map f)) = ltLs f xs ys
  | [], [] => by
    show lexLt itemOrd (keyToksAll []) (keyToksAll []) = false
    exact (listOrd itemOrd).irrefl (keyToksAll [])
  | [], y :: ys => by
    show lexLt itemOrd (keyToksAll []) (keyToksAll (f y :: ys.map f)) = true
    rw [toks_all_cons]; unfold keyToksAll
    rw [lex_atom (by simp), lex_one]; simp [itemLt]
  | x :: xs, [] => by
    show lexLt itemOrd (keyToksAll (f x :: xs.map f)) (keyToksAll []) = false
    rw [toks_all_cons]; unfold keyToksAll
    rw [lex_atom (by simp), lex_one]; simp [itemLt]
  | x :: xs, y :: ys => by
    show lexLt itemOrd (keyToksAll (f x :: xs.map f)) (keyToksAll (f y :: ys.map f)) = _
    unfold ltLs
    by_cases h : x = y
    · rw [if_pos h, dataLt_all_yes (F.1 _ _) (by rw [Fe]; simp [h]), lex_ltLs F Fe xs ys]
    · rw [if_neg h, dataLt_all_no (F.1 _ _) (by rw [Fe]; simp [h])]; rfl
theorem ltB_t {α : Type} [DecidableEq α] {f : α → PyData} (F : AlkE f) (Fe : EqE f) (xs ys : List α) : ltB (eT f) xs ys = ltLs f xs ys := by
  show dataLt (.tuple _) (.tuple _) = _
  rw [dataLt_tuple, lex_ltLs F Fe]
theorem ltB_l {α : Type} [DecidableEq α] {f : α → PyData} (F : AlkE f) (Fe : EqE f) (xs ys : List α) : ltB (eL f) xs ys = ltLs f xs ys := by
  show dataLt (.list _) (.list _) = _
  rw [dataLt_list, lex_ltLs F Fe]
/-! ### sorted -/
theorem ltB_irr {α : Type} (f : α → PyData) (a : α) : ltB f a a = false := dataLt_irrefl _
theorem dataLe_total {α : Type} (f : α → PyData) : TotalLe (dataLe false f) := sortLe_total _ _ _
theorem pySort_perm {α : Type} (f : α → PyData) (xs : List α) : (pySort f xs).Perm xs := List.mergeSort_perm _ _
theorem pySort_mem {α : Type} {f : α → PyData} {xs : List α} {x : α} : x ∈ pySort f xs ↔ x ∈ xs := (pySort_perm f xs).mem_iff
theorem pySort_len {α : Type} (f : α → PyData) (xs : List α) : (pySort f xs).length = xs.length := (pySort_perm f xs).length_eq
theorem pySort_sorted {α : Type} (f : α → PyData) (xs : List α) : (pySort f xs).Pairwise fun a b => ltB f b a = false :=
  (sort_pairwise (dataLe_total f) xs).imp fun h => by rw [dataLe_eq] at h; simpa using h
/-- an order like that of the others keeps what is sorted -/
theorem pySort_map {α β : Type} {f : α → PyData} {g : β → PyData} (h : α → β) (xs : List α) (hh : ∀ a ∈ xs, ∀ b ∈ xs, ltB f a b = ltB g (h a) (h b)) : (pySort f xs).map h = pySort g (xs.map h) :=
  List.map_mergeSort fun a ha b hb => by rw [dataLe_eq, dataLe_eq, hh b hb a ha]
/-! ### loops that look for something -/
theorem forR_find {α ρ L : Type} {step : L → α → L ⊕ ρ} {p : α → Bool} {g : α → ρ} (l0 : L) (h : ∀ x, step l0 x = if p x = true then .inr (g x) else .inl l0) : ∀ xs : List α, forR step l0 xs = match xs.find? p with
    | some x => .inr (g x)
    | none => .inl l0
  | [] => rfl
  | x :: xs => by
    rw [forR, h x, List.find?_cons]
    cases q : p x with
    | true => rfl
    | false =>
      simp only [Bool.false_eq_true, if_false]
      exact forR_find l0 h xs
/-- the first that fits, kept -/
theorem foldl_first {α β : Type} (p : α → Bool) (g : α → β) : ∀ (xs : List α) (o : Option β), xs.foldl (fun o x => if (o.isNone && p x) = true then some (g x) else o) o = o.or ((xs.find? p).map g)
  | [], o => by simp
  | x :: xs, o => by
    rw [List.foldl_cons, foldl_first p g xs, List.find?_cons]
    cases o with
    | some b => simp
    | none => cases q : p x <;> simp [q]
/-! ### whole numbers -/
theorem rgI_mem_iff {lo hi k : Int} : k ∈ rgI lo hi ↔ lo ≤ k ∧ k < hi := by
  unfold rgI
  rw [List.mem_map]
  constructor
  · rintro ⟨i, h, rfl⟩; have := List.mem_range.mp h; omega
  · rintro ⟨h1, h2⟩; exact ⟨(k - lo).toNat, List.mem_range.mpr (by omega), by omega⟩
theorem rgI_nil {lo hi : Int} (h : hi ≤ lo) : rgI lo hi = [] := by
  unfold rgI; rw [show (hi - lo).toNat = 0 by omega]; rfl
theorem rgI_snoc {lo hi : Int} (h : lo ≤ hi) : rgI lo (hi + 1) = rgI lo hi ++ [hi] := by
  unfold rgI
  rw [show (hi + 1 - lo).toNat = (hi - lo).toNat + 1 by omega, List.range_succ, List.map_append]
  simp; omega
theorem rgI_cons {lo hi : Int} (h : lo < hi) : rgI lo hi = lo :: rgI (lo + 1) hi := by
  unfold rgI
  rw [show (hi - lo).toNat = (hi - (lo + 1)).toNat + 1 by omega, List.range_succ_eq_map, List.map_cons, List.map_map]
  simp only [Int.natCast_zero, Int.add_zero, List.cons.injEq, true_and]
  apply List.map_congr_left
  intro a _
  simp only [Function.comp_apply]
  omega
theorem gI_mem {α : Type} [Inhabited α] {xs : List α} {i : Int} (h : inR xs.length i) : gI xs i ∈ xs := by
  have := gI_some h
  unfold atI at this
  cases q : ixN xs.length i with
  | none => rw [q] at this; cases this
  | some j => rw [q] at this; exact List.mem_of_getElem? this
/-- the things at all places -/
theorem map_gI {α : Type} [Inhabited α] (xs : List α) : (rgI 0 xs.length).map (gI xs) = xs := by
  rw [rgI_zero, List.map_map]
  apply List.ext_getElem?
  intro i
  rw [List.getElem?_map]
  by_cases h : i < xs.length
  · rw [List.getElem?_range h]
    simp [gI_nat, h]
  · rw [List.getElem?_eq_none (by simpa using h), List.getElem?_eq_none (by simpa using h)]; rfl
theorem enumL_eq {α : Type} [Inhabited α] (xs : List α) : enumL xs = (rgI 0 xs.length).map fun k => (k, gI xs k) := by
  rw [rgI_zero, List.map_map]
  unfold enumL
  apply List.ext_getElem?
  intro i
  rw [List.getElem?_map, List.getElem?_map]
  by_cases h : i < xs.length
  · rw [List.getElem?_range h]
    simp [gI_nat, h]
  · rw [List.getElem?_eq_none (by simpa using h), List.getElem?_eq_none (by simpa using h)]; rfl
theorem drN_lit {n : Int} (h1 : 0 < n) (h2 : n < 1073741824) : drN n := ⟨h1, h2⟩
end J
namespace J
open PySem L2 PySem.Spec PyProof.Rows PySem.W
/-! ### plain laws: all sets of names, in order -/
section
variable {α : Type}
def stp (l : List (List α)) (x : α) : List (List α) := l ++ l.map fun s => s ++ [x]
def allS (names : List α) : List (List α) := names.foldl stp [[]]
abbrev encS (f : α → PyData) : Int × List α → PyData := eP2 PyData.int (eT f)
def srtS (f : α → PyData) (l : List (List α)) : List (List α) := (pySort (encS f) (l.map fun s => ((s.length : Int), s))).map fun q => q.2
def lsets (f : α → PyData) (names : List α) : List (List α) := srtS f (allS names)
theorem stp_mem {l : List (List α)} {x : α} {s : List α} : s ∈ stp l x ↔ s ∈ l ∨ ∃ t ∈ l, s = t ++ [x] := by
  unfold stp; simp [List.mem_append, List.mem_map, eq_comm]
theorem allS_snoc (names : List α) (x : α) : allS (names ++ [x]) = stp (allS names) x := by
  unfold allS; rw [List.foldl_append]; rfl
theorem srtS_mem {f : α → PyData} {l : List (List α)} {s : List α} : s ∈ srtS f l ↔ s ∈ l := by
  unfold srtS pySort
  simp only [List.mem_map, List.mem_mergeSort]
  constructor
  · rintro ⟨q, ⟨t, ht, rfl⟩, rfl⟩; exact ht
  · intro h; exact ⟨_, ⟨s, h, rfl⟩, rfl⟩
theorem allS_sub (names : List α) : ∀ s ∈ allS names, s.Sublist names := by
  induction names using J.snocInd with
  | h0 => intro s hs; simp [allS] at hs; subst hs; exact List.Sublist.refl _
  | h1 xs x ih =>
    intro s hs
    rw [allS_snoc, stp_mem] at hs
    rcases hs with hs | ⟨t, ht, rfl⟩
    · exact (ih s hs).trans (List.sublist_append_left _ _)
    · exact (ih t ht).append (List.Sublist.refl _)
theorem allS_self (names : List α) : names ∈ allS names := by
  induction names using J.snocInd with
  | h0 => simp [allS]
  | h1 xs x ih => rw [allS_snoc, stp_mem]; exact .inr ⟨xs, ih, rfl⟩
theorem allS_nil (names : List α) : [] ∈ allS names := by
  induction names using J.snocInd with
  | h0 => simp [allS]
  | h1 xs x ih => rw [allS_snoc, stp_mem]; exact .inl ih
theorem allS_len (names : List α) : (allS names).length = 2 ^ names.length := by
  induction names using J.snocInd with
  | h0 => rfl
  | h1 xs x ih => rw [allS_snoc]; unfold stp; simp [ih, Nat.pow_succ]; omega
theorem allS_all (names s : List α) (h : s.Sublist names) : s ∈ allS names := by
  revert s
  induction names using J.snocInd with
  | h0 => intro s h; simp [allS]; exact List.sublist_nil.mp h
  | h1 xs x ih =>
    intro s h
    rw [allS_snoc, stp_mem]
    obtain ⟨a, b, rfl, ha, hb⟩ := List.sublist_append_iff.mp h
    cases b with
    | nil => rw [List.append_nil]; exact .inl (ih a ha)
    | cons y b =>
      have hb0 : b = [] := by
        have h1 := hb.length_le
        rw [List.length_cons, List.length_singleton] at h1
        exact List.length_eq_zero_iff.mp (by omega)
      subst hb0
      have : y = x := by simpa using hb.subset (List.mem_singleton.mpr rfl : y ∈ [y])
      subst this
      exact .inr ⟨a, ih a ha, rfl⟩
theorem lsets_mem {f : α → PyData} {names s : List α} : s ∈ lsets f names ↔ s.Sublist names := by
  unfold lsets; rw [srtS_mem]; exact ⟨allS_sub _ _, allS_all _ _⟩
theorem lsets_self (f : α → PyData) (names : List α) : names ∈ lsets f names := lsets_mem.mpr (List.Sublist.refl _)
theorem lsets_len (f : α → PyData) (names : List α) : (lsets f names).length = 2 ^ names.length := by
  unfold lsets srtS; rw [List.length_map, pySort_len, List.length_map, allS_len]
theorem allS_map {β : Type} (h : α → β) (names : List α) : allS (names.map h) = (allS names).map (List.map h) := by
  induction names using J.snocInd with
  | h0 => rfl
  | h1 xs x ih =>
    rw [List.map_append, List.map_singleton, allS_snoc, ih, allS_snoc]
    unfold stp
    simp [List.map_append, List.map_map, Function.comp_def]
/-- the sets of names at rising places -/
theorem lsets_map {β : Type} [DecidableEq α] [DecidableEq β] {f : α → PyData} {g : β → PyData} (F : AlkE f) (Fe : EqE f) (G : AlkE g) (Ge : EqE g) (h : α → β) (names : List α) (inj : ∀ a ∈ names, ∀ b ∈ names, h a = h b → a = b) (hf : ∀ a ∈ names, ∀ b ∈ names, ltB f a b = ltB g (h a) (h b)) : lsets g (names.map h) = (lsets f names).map (List.map h) := by
  have lts : ∀ s t : List α, (∀ a ∈ s, a ∈ names) → (∀ a ∈ t, a ∈ names) → ltLs f s t = ltLs g (s.map h) (t.map h) := by
    intro s
    induction s with
    | nil => intro t _ _; cases t <;> rfl
    | cons a s ih =>
      intro t hs ht
      cases t with
      | nil => rfl
      | cons b t =>
        have ha := hs a (by simp)
        have hb := ht b (by simp)
        simp only [List.map_cons, ltLs]
        rw [ih t (fun x hx => hs x (by simp [hx])) (fun x hx => ht x (by simp [hx]))]
        by_cases q : a = b
        · subst q; simp
        · have : h a ≠ h b := fun h => q (inj a ha b hb h)
          rw [if_neg q, if_neg this, hf a ha b hb]
  unfold lsets
  rw [allS_map]
  unfold srtS
  rw [List.map_map, List.map_map]
  have := pySort_map (f := encS f) (g := encS g) (fun q : Int × List α => (q.1, q.2.map h)) ((allS names).map fun s => ((s.length : Int), s)) (fun a ha b hb => by
    obtain ⟨s, hs, rfl⟩ := List.mem_map.mp ha
    obtain ⟨t, ht, rfl⟩ := List.mem_map.mp hb
    rw [ltB_p2 alk_int (alk_t F) eqe_int (eqe_t Fe), ltB_p2 alk_int (alk_t G) eqe_int (eqe_t Ge), ltB_t F Fe, ltB_t G Ge]
    simp only
    rw [lts s t (fun x hx => (allS_sub _ _ hs).subset hx) (fun x hx => (allS_sub _ _ ht).subset hx)])
  rw [List.map_map] at this
  have e : ((fun q : Int × List α => (q.1, q.2.map h)) ∘ fun s : List α => ((s.length : Int), s)) = ((fun s : List β => ((s.length : Int), s)) ∘ List.map h) := by
    funext s; simp
  rw [e] at this
  rw [← this, List.map_map]
  rfl
theorem allS_one [DecidableEq α] (names : List α) : (allS names).count [] = 1 := by
  induction names using J.snocInd with
  | h0 => rfl
  | h1 xs x ih =>
    rw [allS_snoc]; unfold stp
    rw [List.count_append, ih]
    have : (List.map (fun s => s ++ [x]) (allS xs)).count [] = 0 := by
      rw [List.count_eq_zero]; simp
    omega
theorem srtS_perm (f : α → PyData) (l : List (List α)) : (srtS f l).Perm l := by
  unfold srtS
  have := (pySort_perm (encS f) (l.map fun s => ((s.length : Int), s))).map (fun q : Int × List α => q.2)
  rw [List.map_map] at this
  have e : ((fun q : Int × List α => q.2) ∘ fun s : List α => ((s.length : Int), s)) = id := rfl
  rw [e, List.map_id] at this
  exact this
/-- the smallest one ahead -/
theorem lsets_head [DecidableEq α] {f : α → PyData} (F : AlkE f) (Fe : EqE f) (names : List α) : ∃ r, lsets f names = [] :: r ∧ ∀ s ∈ r, s ≠ [] := by
  have hp := srtS_perm f (allS names)
  have hs := pySort_sorted (encS f) ((allS names).map fun s => ((s.length : Int), s))
  have hc := hp.count_eq []
  rw [allS_one] at hc
  have hn : [] ∈ srtS f (allS names) := srtS_mem.mpr (allS_nil _)
  have hq : ∀ q ∈ pySort (encS f) ((allS names).map fun s => ((s.length : Int), s)), q.1 = q.2.length := fun q hq => by
    rw [pySort_mem] at hq
    obtain ⟨s, _, rfl⟩ := List.mem_map.mp hq
    rfl
  unfold lsets
  unfold srtS at hc hn ⊢
  cases e : pySort (encS f) ((allS names).map fun s => ((s.length : Int), s)) with
  | nil => rw [e] at hn; cases hn
  | cons p r =>
    rw [e] at hs hc hn hq
    have hp0 : p.2 = [] := by
      rcases List.mem_cons.mp hn with h | h
      · exact h.symm
      · obtain ⟨q, hqr, hq0⟩ := List.mem_map.mp h
        have := (List.pairwise_cons.mp hs).1 q hqr
        rw [ltB_p2 alk_int (alk_t F) eqe_int (eqe_t Fe), hq q (by simp [hqr]), hq p (by simp), hq0, ltB_t F Fe, ltB_int] at this
        cases e2 : p.2 with
        | nil => rfl
        | cons a s =>
          rw [e2] at this
          simp at this
          omega
    refine ⟨r.map (fun q => q.2), by rw [List.map_cons, hp0], fun s hs h0 => ?_⟩
    subst h0
    rw [List.map_cons, hp0, List.count_cons_self] at hc
    have := List.count_pos_iff.mpr hs
    omega
end
end J
namespace J
open PySem L2 PySem.Spec PyProof.Rows PySem.W
section
variable {T : TC} {a b c e : Expr} {es : List Expr} {env e0 e1 e2 e3 : Env'} {pos p p1 p2 p3 : Pos} {x y z : PyData} {ds : List PyData} {K : PySem.W.Frag} {R C C' H H' : Hp} {σ : L2.St} {v : V} {α β γ : Type} {enc : α → PyData} {dec : β → PyData}
/-! ### order of data -/
def rCmpD (f : PyData → PyData → Bool) (K : PySem.W.Frag) : R2 := fun x y H Q => ∃ d e, Dp K H x d ∧ Dp K H y e ∧ alike d e = true ∧ d ≠ .none ∧ d.depth ≤ 64 ∧ Q (.bl (f d e)) H
theorem op_ltD {X : Cx} (hu : X.A.units + 64 < cLine) : OpR X (compareOp .Lt) (rCmpD dataLt X.K) := by
  intro pins s σ H x y v u Q I rx ry ⟨d, e, hd, he, al, hn, dp, q⟩
  obtain ⟨as, r1⟩ := Dp.reads I d x v hd rx
  obtain ⟨bs, r2⟩ := Dp.reads I e y u he ry
  exact lt_data r1 r2 al hn (by omega) ⟨.bl _, H, I, rfl, q⟩
theorem op_gtD {X : Cx} (hu : X.A.units + 64 < cLine) : OpR X (compareOp .Gt) (rCmpD (fun x y => dataLt y x) X.K) := by
  intro pins s σ H x y v u Q I rx ry ⟨d, e, hd, he, al, hn, dp, q⟩
  obtain ⟨as, r1⟩ := Dp.reads I d x v hd rx
  obtain ⟨bs, r2⟩ := Dp.reads I e y u he ry
  exact gt_data r1 r2 al hn (by omega) ⟨.bl _, H, I, rfl, q⟩
theorem op_leD {X : Cx} (hu : X.A.units + 64 < cLine) : OpR X (compareOp .LtE) (rCmpD (fun x y => !dataLt y x) X.K) := by
  intro pins s σ H x y v u Q I rx ry ⟨d, e, hd, he, al, hn, dp, q⟩
  obtain ⟨as, r1⟩ := Dp.reads I d x v hd rx
  obtain ⟨bs, r2⟩ := Dp.reads I e y u he ry
  exact le_data r1 r2 al hn (by omega) ⟨.bl _, H, I, rfl, q⟩
theorem op_geD {X : Cx} (hu : X.A.units + 64 < cLine) : OpR X (compareOp .GtE) (rCmpD (fun x y => !dataLt x y) X.K) := by
  intro pins s σ H x y v u Q I rx ry ⟨d, e, hd, he, al, hn, dp, q⟩
  obtain ⟨as, r1⟩ := Dp.reads I d x v hd rx
  obtain ⟨bs, r2⟩ := Dp.reads I e y u he ry
  exact ge_data r1 r2 al hn (by omega) ⟨.bl _, H, I, rfl, q⟩
theorem cmpD_ok {f : PyData → PyData → Bool} (al : alike x y = true) (hn : x ≠ .none) (sx : shN 64 x = true) (sy : shN 64 y = true) : Op2B T (rCmpD f) x y (.d (.bool (f x y))) := fun R C H env σ u v Q E hu hv k =>
  ⟨x, y, (rb_rp E hu).dp' sx, (rb_rp E hv).dp' sy, al, hn, (shN_of sx).2, k _ C H (Ex.refl C) E (.bl _)⟩
theorem un64 {X : Cx} (hX : CT X T) : X.A.units + 64 < cLine := by have := hX.room.un; omega
theorem cj_ltE {x y : α} (h : JE2 T a b e0 e2 (enc x) (enc y)) (al : AlkE enc) (sh : ShE 64 enc) : CJ T .Lt a b e0 e2 (ltB enc x y) :=
  cj_mk (r := rCmpD dataLt) (fun X hX => op_ltD (un64 hX)) h (cmpD_ok (al.1 _ _) (al.2 _) (sh _) (sh _))
theorem cj_gtE {x y : α} (h : JE2 T a b e0 e2 (enc x) (enc y)) (al : AlkE enc) (sh : ShE 64 enc) : CJ T .Gt a b e0 e2 (ltB enc y x) :=
  cj_mk (r := rCmpD (fun x y => dataLt y x)) (fun X hX => op_gtD (un64 hX)) h (cmpD_ok (f := fun x y => dataLt y x) (al.1 _ _) (al.2 _) (sh _) (sh _))
theorem cj_leE {x y : α} (h : JE2 T a b e0 e2 (enc x) (enc y)) (al : AlkE enc) (sh : ShE 64 enc) : CJ T .LtE a b e0 e2 (!ltB enc y x) :=
  cj_mk (r := rCmpD (fun x y => !dataLt y x)) (fun X hX => op_leD (un64 hX)) h (cmpD_ok (f := fun x y => !dataLt y x) (al.1 _ _) (al.2 _) (sh _) (sh _))
theorem cj_geE {x y : α} (h : JE2 T a b e0 e2 (enc x) (enc y)) (al : AlkE enc) (sh : ShE 64 enc) : CJ T .GtE a b e0 e2 (!ltB enc x y) :=
  cj_mk (r := rCmpD (fun x y => !dataLt x y)) (fun X hX => op_geD (un64 hX)) h (cmpD_ok (f := fun x y => !dataLt x y) (al.1 _ _) (al.2 _) (sh _) (sh _))
/-- data of any kind, that turn out to be alike -/
def cmpOk (x y : PyData) : Prop := alike x y = true ∧ x ≠ .none ∧ shN 64 x = true ∧ shN 64 y = true
theorem cj_ltA (h : JE2 T a b e0 e2 x y) (k : cmpOk x y) : CJ T .Lt a b e0 e2 (dataLt x y) :=
  cj_mk (r := rCmpD dataLt) (fun X hX => op_ltD (un64 hX)) h (cmpD_ok k.1 k.2.1 k.2.2.1 k.2.2.2)
theorem cj_gtA (h : JE2 T a b e0 e2 x y) (k : cmpOk x y) : CJ T .Gt a b e0 e2 (dataLt y x) :=
  cj_mk (r := rCmpD (fun x y => dataLt y x)) (fun X hX => op_gtD (un64 hX)) h (cmpD_ok (f := fun x y => dataLt y x) k.1 k.2.1 k.2.2.1 k.2.2.2)
theorem cj_leA (h : JE2 T a b e0 e2 x y) (k : cmpOk x y) : CJ T .LtE a b e0 e2 (!dataLt y x) :=
  cj_mk (r := rCmpD (fun x y => !dataLt y x)) (fun X hX => op_leD (un64 hX)) h (cmpD_ok (f := fun x y => !dataLt y x) k.1 k.2.1 k.2.2.1 k.2.2.2)
theorem cj_geA (h : JE2 T a b e0 e2 x y) (k : cmpOk x y) : CJ T .GtE a b e0 e2 (!dataLt x y) :=
  cj_mk (r := rCmpD (fun x y => !dataLt x y)) (fun X hX => op_geD (un64 hX)) h (cmpD_ok (f := fun x y => !dataLt x y) k.1 k.2.1 k.2.2.1 k.2.2.2)
/-! ### data of any kind -/
@[reducible] def eD : PyData → PyData := fun d => d
def isLst : PyData → Bool | .list _ => true | _ => false
def isTup : PyData → Bool | .tuple _ => true | _ => false
def isBoo : PyData → Bool | .bool _ => true | _ => false
def isStr : PyData → Bool | .str _ => true | _ => false
def isInt : PyData → Bool | .int _ => true | .bool _ => true | _ => false
theorem kitLst {x : PyData} (h : noDc x = true) : kitB (tyD x) "list" = some (isLst x) := by cases x <;> first | (simp only [tyD, isLst]; decide +kernel) | cases h
theorem kitTup {x : PyData} (h : noDc x = true) : kitB (tyD x) "tuple" = some (isTup x) := by cases x <;> first | (simp only [tyD, isTup]; decide +kernel) | cases h
theorem kitBoo {x : PyData} (h : noDc x = true) : kitB (tyD x) "bool" = some (isBoo x) := by cases x <;> first | (simp only [tyD, isBoo]; decide +kernel) | cases h
theorem kitStr {x : PyData} (h : noDc x = true) : kitB (tyD x) "str" = some (isStr x) := by cases x <;> first | (simp only [tyD, isStr]; decide +kernel) | cases h
theorem kitInt {x : PyData} (h : noDc x = true) : kitB (tyD x) "int" = some (isInt x) := by cases x <;> first | (simp only [tyD, isInt]; decide +kernel) | cases h
/-- a thing told to be of a kind -/
theorem je_dec {y : α} (h : JE T e e0 e1 (.d x)) (q : enc y = x) : JE T e e0 e1 (.d (enc y)) := q ▸ h
def dI : PyData → Int | .int i => i | _ => 0
def dB : PyData → Bool | .bool i => i | _ => false
def dS : PyData → Str | .str i => i | _ => default
def dA : PyData → PyData := fun d => d
def dL (f : PyData → α) : PyData → List α | .list xs => xs.map f | _ => []
def dT (f : PyData → α) : PyData → List α | .tuple xs => xs.map f | _ => []
def dO (f : PyData → α) : PyData → Option α | .none => none | d => some (f d)
def dP2 (f : PyData → α) (g : PyData → β) : PyData → α × β | .tuple [a, b] => (f a, g b) | d => (f d, g d)
def dP3 (f : PyData → α) (g : PyData → β) (h : PyData → γ) : PyData → α × β × γ | .tuple [a, b, c] => (f a, g b, h c) | d => (f d, g d, h d)
def dP4 {δ : Type} (f : PyData → α) (g : PyData → β) (h : PyData → γ) (i : PyData → δ) : PyData → α × β × γ × δ | .tuple [a, b, c, d] => (f a, g b, h c, i d) | d => (f d, g d, h d, i d)
def dP5 {δ ε : Type} (f : PyData → α) (g : PyData → β) (h : PyData → γ) (i : PyData → δ) (j : PyData → ε) : PyData → α × β × γ × δ × ε | .tuple [a, b, c, d, e] => (f a, g b, h c, i d, j e) | d => (f d, g d, h d, i d, j d)
def dP6 {δ ε ζ : Type} (f : PyData → α) (g : PyData → β) (h : PyData → γ) (i : PyData → δ) (j : PyData → ε) (k : PyData → ζ) : PyData → α × β × γ × δ × ε × ζ | .tuple [a, b, c, d, e, m] => (f a, g b, h c, i d, j e, k m) | d => (f d, g d, h d, i d, j d, k d)
theorem je_isNA {j pos'} (ha : JE T a e0 e1 (.b x)) : JE T (.Compare a [.Is] [.Constant .none j pos'] pos) e0 e1 (.d (.bool (isNoneD x))) := je_isN ha
/-! ### chains of two comparisons -/
theorem je_chain {op op' : CmpOp} {r r' : PySem.W.Frag → R2} {x y z : PyData} {k k' : Bool} (hr : ∀ X, CT X T → OpR X (compareOp op) (r X.K)) (hr' : ∀ X, CT X T → OpR X (compareOp op') (r' X.K)) (ha : JE T a e0 e1 (.d x)) (hb : JE T b e1 e2 (.d y)) (hc : k = true → JE T c e2 e2 (.d z))
    (ho : Op2B T r x y (.d (.bool k))) (ho' : Op2B T r' y z (.d (.bool k'))) (hm : lastMarks [op, op'] [b, c] = false := by with_unfolding_all rfl) : JE T (.Compare a [op, op'] [b, c] pos) e0 e2 (.d (.bool (k && k'))) := fun X hX => by
  cases k with
  | true =>
    refine (pe_chain (hr X hX) (hr' X hX) (ha X hX) (hb X hX) (hc rfl X hX) hm).wk fun σ H Q ⟨R, C, E, q⟩ => ?_
    rw [hX.K] at *
    refine ⟨R, C, E, fun u C1 H1 c1 E1 r1 => ⟨R, C1, E1, fun v C2 H2 c2 E2 r2 => ?_⟩⟩
    refine ho R C2 H2 e2 σ u v _ E2 (.inl (r1.mono c2)) (.inl r2) fun w C3 H3 c3 E3 r3 => ?_
    cases r3
    refine ⟨true, rfl, ?_⟩
    rw [if_pos rfl]
    refine ⟨R, C3, E3, fun w' C4 H4 c4 E4 r4 => ?_⟩
    exact ho' R C4 H4 e2 σ v w' Q E4 (.inl ((r2.mono c3).mono c4)) (.inl r4) fun w5 C5 H5 c5 E5 r5 => q w5 C5 H5 ((((c1.trans c2).trans c3).trans c4).trans c5) E5 r5
  | false =>
    refine (pe_chain (tc := fun _ _ _ => False) (hr X hX) (hr' X hX) (ha X hX) (hb X hX) pe_dead hm).wk fun σ H Q ⟨R, C, E, q⟩ => ?_
    rw [hX.K] at *
    refine ⟨R, C, E, fun u C1 H1 c1 E1 r1 => ⟨R, C1, E1, fun v C2 H2 c2 E2 r2 => ?_⟩⟩
    refine ho R C2 H2 e2 σ u v _ E2 (.inl (r1.mono c2)) (.inl r2) fun w C3 H3 c3 E3 r3 => ?_
    cases r3
    refine ⟨false, rfl, ?_⟩
    rw [if_neg Bool.false_ne_true]
    exact q _ C3 H3 ((c1.trans c2).trans c3) E3 (.bl _)
section
variable {i j k : Int}
theorem je_chI {op op' : CmpOp} {f g : Int → Int → Bool} (hr : ∀ X, CT X T → OpR X (compareOp op) (rI0 fun i j => .bl (f i j))) (hr' : ∀ X, CT X T → OpR X (compareOp op') (rI0 fun i j => .bl (g i j))) (ha : JE T a e0 e1 (.d (.int i))) (hb : JE T b e1 e2 (.d (.int j))) (hc : f i j = true → JE T c e2 e2 (.d (.int k)))
    (hm : lastMarks [op, op'] [b, c] = false := by with_unfolding_all rfl) : JE T (.Compare a [op, op'] [b, c] pos) e0 e2 (.d (.bool (f i j && g j k))) :=
  je_chain (r := fun _ => rI0 fun i j => .bl (f i j)) (r' := fun _ => rI0 fun i j => .bl (g i j)) hr hr' ha hb hc op2_B0 op2_B0 hm
end
theorem je_lele {i j k : Int} (ha : JE T a e0 e1 (.d (.int i))) (hb : JE T b e1 e2 (.d (.int j))) (hc : decide (i ≤ j) = true → JE T c e2 e2 (.d (.int k))) (hm : lastMarks [.LtE, .LtE] [b, c] = false := by with_unfolding_all rfl) : JE T (.Compare a [.LtE, .LtE] [b, c] pos) e0 e2 (.d (.bool (decide (i ≤ j) && decide (j ≤ k)))) :=
  je_chI (f := fun i j => decide (i ≤ j)) (g := fun i j => decide (i ≤ j)) (fun X _ => op_le) (fun X _ => op_le) ha hb hc hm
theorem je_lelt {i j k : Int} (ha : JE T a e0 e1 (.d (.int i))) (hb : JE T b e1 e2 (.d (.int j))) (hc : decide (i ≤ j) = true → JE T c e2 e2 (.d (.int k))) (hm : lastMarks [.LtE, .Lt] [b, c] = false := by with_unfolding_all rfl) : JE T (.Compare a [.LtE, .Lt] [b, c] pos) e0 e2 (.d (.bool (decide (i ≤ j) && decide (j < k)))) :=
  je_chI (f := fun i j => decide (i ≤ j)) (g := fun i j => decide (i < j)) (fun X _ => op_le) (fun X _ => op_lt) ha hb hc hm
theorem je_ltle {i j k : Int} (ha : JE T a e0 e1 (.d (.int i))) (hb : JE T b e1 e2 (.d (.int j))) (hc : decide (i < j) = true → JE T c e2 e2 (.d (.int k))) (hm : lastMarks [.Lt, .LtE] [b, c] = false := by with_unfolding_all rfl) : JE T (.Compare a [.Lt, .LtE] [b, c] pos) e0 e2 (.d (.bool (decide (i < j) && decide (j ≤ k)))) :=
  je_chI (f := fun i j => decide (i < j)) (g := fun i j => decide (i ≤ j)) (fun X _ => op_lt) (fun X _ => op_le) ha hb hc hm
theorem je_ltlt {i j k : Int} (ha : JE T a e0 e1 (.d (.int i))) (hb : JE T b e1 e2 (.d (.int j))) (hc : decide (i < j) = true → JE T c e2 e2 (.d (.int k))) (hm : lastMarks [.Lt, .Lt] [b, c] = false := by with_unfolding_all rfl) : JE T (.Compare a [.Lt, .Lt] [b, c] pos) e0 e2 (.d (.bool (decide (i < j) && decide (j < k)))) :=
  je_chI (f := fun i j => decide (i < j)) (g := fun i j => decide (i < j)) (fun X _ => op_lt) (fun X _ => op_lt) ha hb hc hm
theorem jt_ch {k : Bool} {op op' : CmpOp} (h : JE T (.Compare a [op, op'] [b, c] pos) e0 e1 (.d (.bool k))) (h2 : JT T (.Compare a [op, op'] [b, c] pos) e0 e1 k) : JT T (.Compare a [op, op'] [b, c] pos) e0 e1 k := h2
/-- .. as a test -/
theorem jt_chI {i j k : Int} {op op' : CmpOp} {f g : Int → Int → Bool} (hr : ∀ X, CT X T → OpR X (compareOp op) (rI0 fun i j => .bl (f i j))) (hr' : ∀ X, CT X T → OpR X (compareOp op') (rI0 fun i j => .bl (g i j))) (ha : JE T a e0 e1 (.d (.int i))) (hb : JE T b e1 e2 (.d (.int j))) (hc : f i j = true → JE T c e2 e2 (.d (.int k)))
    (hm : lastMarks [op, op'] [b, c] = false := by with_unfolding_all rfl) : JT T (.Compare a [op, op'] [b, c] pos) e0 e2 (f i j && g j k) := fun X hX => by
  cases q : f i j with
  | true =>
    refine (pt_chain (hr X hX) (hr' X hX) (ha X hX) (hb X hX) (hc q X hX) hm).wk fun σ H Q ⟨R, C, E, kk⟩ => ?_
    refine ⟨R, C, E, fun u C1 H1 c1 E1 r1 => ⟨R, C1, E1, fun v C2 H2 c2 E2 r2 => ?_⟩⟩
    cases r1; cases r2
    refine ⟨i, j, rfl, rfl, f i j, rfl, ?_⟩
    rw [if_pos q]
    refine ⟨R, C2, E2, fun w' C4 H4 c4 E4 r4 => ?_⟩
    cases r4
    exact ⟨j, k, rfl, rfl, g j k, rfl, kk C4 H4 ((c1.trans c2).trans c4) E4⟩
  | false =>
    refine (pt_chain (tc := fun _ _ _ => False) (hr X hX) (hr' X hX) (ha X hX) (hb X hX) pe_dead hm).wk fun σ H Q ⟨R, C, E, kk⟩ => ?_
    refine ⟨R, C, E, fun u C1 H1 c1 E1 r1 => ⟨R, C1, E1, fun v C2 H2 c2 E2 r2 => ?_⟩⟩
    cases r1; cases r2
    refine ⟨i, j, rfl, rfl, f i j, rfl, ?_⟩
    rw [q, if_neg Bool.false_ne_true]
    exact ⟨false, rfl, kk C2 H2 (c1.trans c2) E2⟩
theorem jt_lele {i j k : Int} (ha : JE T a e0 e1 (.d (.int i))) (hb : JE T b e1 e2 (.d (.int j))) (hc : decide (i ≤ j) = true → JE T c e2 e2 (.d (.int k))) (hm : lastMarks [.LtE, .LtE] [b, c] = false := by with_unfolding_all rfl) : JT T (.Compare a [.LtE, .LtE] [b, c] pos) e0 e2 (decide (i ≤ j) && decide (j ≤ k)) :=
  jt_chI (f := fun i j => decide (i ≤ j)) (g := fun i j => decide (i ≤ j)) (fun X _ => op_le) (fun X _ => op_le) ha hb hc hm
theorem jt_lelt {i j k : Int} (ha : JE T a e0 e1 (.d (.int i))) (hb : JE T b e1 e2 (.d (.int j))) (hc : decide (i ≤ j) = true → JE T c e2 e2 (.d (.int k))) (hm : lastMarks [.LtE, .Lt] [b, c] = false := by with_unfolding_all rfl) : JT T (.Compare a [.LtE, .Lt] [b, c] pos) e0 e2 (decide (i ≤ j) && decide (j < k)) :=
  jt_chI (f := fun i j => decide (i ≤ j)) (g := fun i j => decide (i < j)) (fun X _ => op_le) (fun X _ => op_lt) ha hb hc hm
theorem jt_ltle {i j k : Int} (ha : JE T a e0 e1 (.d (.int i))) (hb : JE T b e1 e2 (.d (.int j))) (hc : decide (i < j) = true → JE T c e2 e2 (.d (.int k))) (hm : lastMarks [.Lt, .LtE] [b, c] = false := by with_unfolding_all rfl) : JT T (.Compare a [.Lt, .LtE] [b, c] pos) e0 e2 (decide (i < j) && decide (j ≤ k)) :=
  jt_chI (f := fun i j => decide (i < j)) (g := fun i j => decide (i ≤ j)) (fun X _ => op_lt) (fun X _ => op_le) ha hb hc hm
theorem jt_ltlt {i j k : Int} (ha : JE T a e0 e1 (.d (.int i))) (hb : JE T b e1 e2 (.d (.int j))) (hc : decide (i < j) = true → JE T c e2 e2 (.d (.int k))) (hm : lastMarks [.Lt, .Lt] [b, c] = false := by with_unfolding_all rfl) : JT T (.Compare a [.Lt, .Lt] [b, c] pos) e0 e2 (decide (i < j) && decide (j < k)) :=
  jt_chI (f := fun i j => decide (i < j)) (g := fun i j => decide (i < j)) (fun X _ => op_lt) (fun X _ => op_lt) ha hb hc hm
end
end J
namespace J
open PySem L2 PySem.Spec PyProof.Rows PySem.W
section
variable {T : TC} {a b c e : Expr} {es : List Expr} {env e0 e1 e2 e3 : Env'} {pos p p1 p2 p3 : Pos} {x y z : PyData} {ds : List PyData} {K : PySem.W.Frag} {R C C' H H' : Hp} {σ : L2.St} {v : V} {α β γ : Type} {enc : α → PyData} {dec : β → PyData}
/-! ### xs * n -/
def repX (xs : List α) (n : Int) : List α := (List.replicate n.toNat xs).flatten
theorem repX_map (f : α → β) (xs : List α) (n : Int) : repX (xs.map f) n = (repX xs n).map f := by
  unfold repX; rw [List.map_flatten, List.map_replicate]
theorem rps_rep {vs : List V} {xs : List PyData} (r : Rps K C vs xs) : ∀ n : Nat, Rps K C (List.replicate n vs).flatten (List.replicate n xs).flatten
  | 0 => .nil
  | n + 1 => by
    rw [List.replicate_succ, List.replicate_succ, List.flatten_cons, List.flatten_cons]
    exact r.append (rps_rep r n)
def repOk (n : Nat) (k : Int) : Prop := -(2 ^ 63) ≤ k ∧ k < 2 ^ 63 ∧ n * k.toNat ≤ 16777216
theorem rep_len (xs : List α) (k : Int) : (repX xs k).length = xs.length * k.toNat := by
  unfold repX
  rw [List.length_flatten, List.map_replicate, List.sum_replicate_nat, Nat.mul_comm]
theorem je_repL {xs : List α} {k : Int} (h : JE2 T a b e0 e2 (.list (xs.map enc)) (.int k)) (hk : repOk xs.length k) : JE T (.BinOp a .Mult b pos) e0 e2 (.o (.list ((repX xs k).map enc))) :=
  je_bin (r := fun _ => rRep) (fun X _ => op_rep) h fun R C H env σ u v Q E hu hv kk => by
    obtain ⟨p, vs, rfl, h1, l1, r1⟩ := rb_lst E hu
    have := rb_int E hv
    subst this
    obtain ⟨k1, k2, k3⟩ := hk
    have el := r1.len
    rw [List.length_map] at el
    refine ⟨p, k, vs, rfl, rfl, h1, k1, k2, by rw [sizeLine_eq, el]; exact k3, fun t ht => ?_⟩
    have r2 := rps_rep r1 k.toNat
    have e2 : (List.replicate k.toNat (xs.map enc)).flatten = (repX xs k).map enc := by rw [← repX_map]; rfl
    rw [e2] at r2
    obtain ⟨E', r⟩ := E.freshO ht (by rw [r2.len, List.length_map, rep_len]; exact k3) r2
    exact kk _ C _ (Ex.refl C) E' r
def repOkT (n : Nat) (k : Int) : Prop := 0 < n ∧ n ≤ 1000 ∧ 2 ≤ k ∧ k ≤ 1000
theorem je_repT {xs : List α} {k : Int} (h : JE2 T a b e0 e2 (.tuple (xs.map enc)) (.int k)) (hk : repOkT xs.length k) : JE T (.BinOp a .Mult b pos) e0 e2 (.d (.tuple ((repX xs k).map enc))) :=
  je_bin (r := fun K => rRepT K) (fun X _ => op_repT) h fun R C H env σ u v Q E hu hv kk => by
    obtain ⟨p, vs, rfl, h1, c1, l1, r1⟩ := rb_tup E hu
    have := rb_int E hv
    subst this
    obtain ⟨k0, k1, k2, k3⟩ := hk
    have el := r1.len
    rw [List.length_map] at el
    refine ⟨p, k, vs, rfl, rfl, h1, fun q => by subst q; simp at el; omega, k2, k3, by omega, fun t ht => ?_⟩
    have r2 := rps_rep r1 k.toNat
    have e2 : (List.replicate k.toNat (xs.map enc)).flatten = (repX xs k).map enc := by rw [← repX_map]; rfl
    rw [e2] at r2
    obtain ⟨c, E', r⟩ := E.freshT ht (by
      rw [r2.len, List.length_map, rep_len]
      have h5 : k.toNat ≤ 1000 := by omega
      have := Nat.mul_le_mul k1 h5
      show _ ≤ 16777216
      omega) r2
    exact kk _ _ _ c E' r
/-! ### xs.index(x) of a list as a value -/
structure PlainE (o : Expr) (nm : Str) (apos : Pos) (e : Expr) (es : List Expr) (cpos : Pos) : Prop where
  base : ∀ v : Env, attributeBase o nm v (eval o v) = eval o v
  few : ∀ v : Env, ((backTo cpos (starEach (e :: es) v)).all (fun x => !x.1) && (backToKw cpos (keywordEach [] v)).all (fun x => x.1.isSome)
      && decide ((e :: es).length + ([] : List Keyword).length + (if ([] : List Keyword).isEmpty then 0 else 1) < 30)) = true
  line : (apos.endLine == cpos.line) = true
  hs : ∀ v : Env, starEach (e :: es) v = (false, eval e v) :: starEach es v
  plain : ∀ v : Env, (backTo cpos (starEach es v)).any (·.1) = false
def idxL [DecidableEq α] (xs : List α) (x : α) : Int := (xs.findIdx fun y => decide (y = x) : Nat)
theorem je_index [DecidableEq α] {xs : List α} {x : α} {o : Expr} {apos : Pos} (h : JE T o e0 e1 (.d (.list (xs.map enc)))) (h2 : JE T e e1 e2 (.d (enc x))) (sh : ShE 63 enc) (sh' : ShE 64 enc) (eq : EqE enc) (hx : x ∈ xs)
    (hp : PlainE o "index" apos e [] pos := by exact ⟨fun _ => rfl, fun _ => rfl, rfl, fun _ => rfl, fun _ => rfl⟩) :
    JE T (.Call (.Attribute o "index" apos) [e] [] pos) e0 e2 (.d (.int (idxL xs x))) := fun X hX =>
  (pe_bm PySem.F.plainAttrs_list PySem.F.slot_list_index PySem.F.type_list_index (mt_indexD (by have := hX.room.un; omega)) (h X hX) (pa_cons (h2 X hX) pa_nil (hp.hs X.env)) (hp.base X.env) (hp.few X.env) hp.line (hp.hs X.env) (hp.plain X.env)).wk fun σ H Q ⟨R, C, E, k⟩ => by
    rw [hX.K] at *
    refine ⟨R, C, E, fun u C1 H1 c1 E1 r1 => ?_⟩
    have r1' := r1
    cases r1 with
    | lst q l r =>
    refine ⟨.inl ⟨rfl, _, SqL.of (E1.cH _ _ q)⟩, R, C1, E1, fun w C2 H2 c2 E2 r2 => ?_⟩
    have hr : Rp T.K H2 _ (PyData.list (xs.map enc)) := (r1'.mono c2).mono E2.cH
    have hy : Rp T.K H2 w (enc x) := r2.mono E2.cH
    have s1 : shN 64 (.list (xs.map enc)) = true := by
      rw [shN, List.all_eq_true]; intro d hd
      obtain ⟨y, _, rfl⟩ := List.mem_map.mp hd; exact sh y
    have hlt : (xs.findIdx fun y => decide (y = x)) < xs.length := List.findIdx_lt_length_of_exists ⟨x, hx, by simp⟩
    refine ⟨_, w, enc x, xs.map enc, xs.findIdx (fun y => decide (y = x)), enc (xs[xs.findIdx fun y => decide (y = x)]), rfl, rfl, hr.dp' s1, hy.dp' (sh' x), hr.shaped s1, hy.shaped (sh' x), by simp [List.getElem?_eq_getElem hlt], ?_, fun m z' hm hz => ?_, k _ C2 H2 (c1.trans c2) E2 (.int _)⟩
    · rw [eq]; exact List.findIdx_getElem (p := fun y => decide (y = x)) (w := hlt)
    · rw [List.getElem?_map] at hz
      have hml : m < xs.length := by omega
      rw [List.getElem?_eq_getElem hml] at hz
      cases hz
      rw [eq]
      have := List.not_of_lt_findIdx hm
      simpa using this
/-! ### is True, is False; a text in a text -/
theorem cj_isB {x y : Bool} (h : JE2 T a b e0 e2 (.bool x) (.bool y)) : CJ T .Is a b e0 e2 (decide (x = y)) :=
  cj_mk (r := fun _ => fun x y H Q => ∃ a b, x = .bl a ∧ y = .bl b ∧ Q (.bl (decide (a = b))) H) (fun X _ => op_is_bl) h fun R C H env σ u v Q E hu hv k => ⟨x, y, rb_bl E hu, rb_bl E hv, k _ C H (Ex.refl C) E (.bl _)⟩
theorem cj_isnotB {x y : Bool} (h : JE2 T a b e0 e2 (.bool x) (.bool y)) : CJ T .IsNot a b e0 e2 (!decide (x = y)) :=
  cj_mk (r := fun _ => fun x y H Q => ∃ a b, x = .bl a ∧ y = .bl b ∧ Q (.bl (!decide (a = b))) H) (fun X _ => op_isnot_bl) h fun R C H env σ u v Q E hu hv k => ⟨x, y, rb_bl E hu, rb_bl E hv, k _ C H (Ex.refl C) E (.bl _)⟩
def subS (i j : Str) : Bool := !(Builtin.Str.occurrences j i 0 j.length 1).isEmpty
theorem cj_inS {i j : Str} (h : JE2 T a b e0 e2 (.str i) (.str j)) (hm : behindInMarks .In b = false := by rfl) : CJ T .In a b e0 e2 (subS i j) :=
  cj_mk (r := fun _ => fun x y H Q => ∃ i j, x = .str i ∧ y = .str j ∧ Q (.bl (!(Builtin.Str.occurrences j i 0 j.length 1).isEmpty)) H) (fun X _ => op_in_str) h (fun R C H env σ u v Q E hu hv k => ⟨i, j, rb_str E hu, rb_str E hv, k _ C H (Ex.refl C) E (.bl _)⟩) hm
end
end J
namespace J
open PySem L2 PySem.Spec PyProof.Rows PySem.W
section
variable {T : TC} {a b c e : Expr} {es : List Expr} {env e0 e1 e2 e3 : Env'} {pos p p1 p2 p3 : Pos} {x y z : PyData} {ds : List PyData} {K : PySem.W.Frag} {R C C' H H' : Hp} {σ : L2.St} {v : V} {α β γ : Type} {enc : α → PyData} {tg iter elt : Expr} {ifs : List Expr} {scope : Scope}
theorem je_lcFq {S : Type} {xs : List α} (m : List β × S) (own : List (Str × Nat)) (Ev : S → Env') (dec : β → PyData) (c : S → α → Bool × S) (g : α → β) (s0 : S) (hm : m = filS c g s0 xs) (hi : JI T tg iter e0 (Ev s0) (xs.map enc)) (hnd : T.N.Nodup) (ok : blkC T.N T.sc scope own = true) (hu : ∀ s, unk (Ev s) (own.map (·.2)))
    (turn : ∀ s x, x ∈ xs → LcF T scope tg elt ifs own Ev (enc x) s (c s x) (dec (g x))) (hs : ∀ (v : Env) x, foldedSetIterable iter v x = pure x := by intro _ _; rfl) : JE T (.ListComp elt [⟨tg, iter, ifs, 0⟩] scope pos) e0 (Ev m.2) (.o (.list (m.1.map dec))) := by
  subst hm; exact je_lcF own Ev dec c g s0 hi hnd ok hu turn hs
theorem lcf_let {S : Type} {own : List (Str × Nat)} {Ev : S → Env'} {d w : PyData} {s : S} {γ : Type} {v : γ} {k : γ → Bool × S} (h : ∀ q, q = v → LcF T scope tg elt ifs own Ev d s (k q) w) : LcF T scope tg elt ifs own Ev d s (Let v k) w := h v rfl
theorem cj_eqA (h : JE2 T a b e0 e2 x y) (k : shN 64 x = true ∧ shN 64 y = true) : CJ T .Eq a b e0 e2 (PyData.eqv x y) := cj_eqD h k.1 k.2
theorem cj_neA (h : JE2 T a b e0 e2 x y) (k : shN 64 x = true ∧ shN 64 y = true) : CJ T .NotEq a b e0 e2 (!PyData.eqv x y) := cj_neD h k.1 k.2
/-! ### names of the module that hold data -/
structure Glb (K : PySem.W.Frag) (mg : Str → Option Value) (nm : Str) (d : PyData) : Prop where
  ex : ∃ v u, mg nm = some u ∧ RelV v u ∧ ∀ C, Rp K C v d
theorem je_globd {nm : Str} (hg : glB T.sc nm = true) (g : Glb T.K T.mg nm x) (hd : (nm == ("__debug__" : Str)) = false := by decide) : JE T (.Name nm pos) env env (.d x) := by
  obtain ⟨v, u, h1, h2, h3⟩ := g.ex
  exact je_glob hg h1 h2 h3 hd
theorem glb_str {mg : Str → Option Value} {nm s : Str} {t : Tok} (m : mg nm = some (.str s t)) (ok : sOk s) : Glb K mg nm (.str s) := ⟨.str s, _, m, ⟨t, rfl⟩, fun C => .str ok⟩
theorem glb_int {mg : Str → Option Value} {nm : Str} {i : Int} {t : Tok} (m : mg nm = some (.int i t)) : Glb K mg nm (.int i) := ⟨.int i, _, m, ⟨t, rfl⟩, fun C => .int i⟩
theorem glb_strs {mg : Str → Option Value} {nm : Str} {a : Addr} {dd : Option Addr} {its : List Value} {n : Nat} {sl : Array (Option Value)} {xs : List Str} (m : mg nm = some (.ref a)) (l : K.lookup a = some ⟨.type "tuple", dd, .seq its.toArray n, sl⟩) (hv : Vals (xs.map V.str) its) (hl : its.length ≤ 1000) (ok : ∀ x ∈ xs, sOk x) : Glb K mg nm (.tuple (xs.map .str)) :=
  ⟨.ref a, .ref a, m, rfl, fun C => by
    have hlen : xs.length = its.length := by have := hv.length; simpa using this
    refine .tup (.inr ⟨_, its.toArray, n, l, rfl, rfl, ?_, by simpa using hv⟩) ?_ (Rps.ofStrs ok)
    · rw [List.size_toArray, sizeLine_eq]; omega
    · rw [List.length_map]; show _ ≤ 16777216; omega⟩
theorem glb_ints {mg : Str → Option Value} {nm : Str} {a : Addr} {dd : Option Addr} {its : List Value} {n : Nat} {sl : Array (Option Value)} {xs : List Int} (m : mg nm = some (.ref a)) (l : K.lookup a = some ⟨.type "tuple", dd, .seq its.toArray n, sl⟩) (hv : Vals (xs.map V.int) its) (hl : its.length ≤ 1000) : Glb K mg nm (.tuple (xs.map .int)) :=
  ⟨.ref a, .ref a, m, rfl, fun C => by
    have hlen : xs.length = its.length := by have := hv.length; simpa using this
    refine .tup (.inr ⟨_, its.toArray, n, l, rfl, rfl, ?_, by simpa using hv⟩) ?_ Rps.ints
    · rw [List.size_toArray, sizeLine_eq]; omega
    · rw [List.length_map]; show _ ≤ 16777216; omega⟩
end
end J
namespace J
open PySem L2 PySem.Spec PyProof.Rows PySem.W
/-- whether x is one of ys -/
def inB {α : Type} [DecidableEq α] (x : α) (ys : List α) : Bool := decide (x ∈ ys)
@[simp] theorem inB_iff {α : Type} [DecidableEq α] {x : α} {ys : List α} : inB x ys = true ↔ x ∈ ys := by unfold inB; simp
theorem inB_dec {α : Type} [DecidableEq α] {x : α} {ys : List α} [Decidable (x ∈ ys)] : inB x ys = decide (x ∈ ys) := by unfold inB; congr
theorem inB_not {α : Type} [DecidableEq α] {x : α} {ys : List α} : inB x ys = false ↔ x ∉ ys := by unfold inB; simp
section
variable {T : TC} {a b c e : Expr} {es : List Expr} {env e0 e1 e2 e3 : Env'} {pos p p1 p2 p3 : Pos} {α β : Type} {enc : α → PyData} {xs : List α}
theorem je_sortLc (hg : glB T.sc "sorted" = true) (hm : T.mg "sorted" = none) (ha : JE T e e0 e1 (.b (.list (xs.map enc)))) (al : AlkE enc) (so : Sortable (xs.map enc)) (sh : shN 64 (.list (xs.map enc)) = true := by simp [shN]) (hp : Plain e [] pos := by exact ⟨fun _ => rfl, fun _ => rfl⟩) : JE T (.Call (.Name "sorted" p) [e] [] pos) e0 e1 (.o (.list ((pySort enc xs).map enc))) :=
  je_bi1 (r := rSortD) (fun X hX => cr_sortD (room_units hX)) hg hm (by decide +kernel) ha (fun R C H env σ v Q E hv k => by
    obtain ⟨p, vs, rfl, h1, l1, r1⟩ := rb_lst E hv
    obtain ⟨q1, q2⟩ := shN_all (n := 63) sh
    have aa := al.all xs
    refine ⟨p, vs, xs.map enc, rfl, SqL.of h1, (r1.mono E.cH).dps q1, aa.1, so, by omega, fun q hq => ?_⟩
    · have e1 : (vs.zip (xs.map enc)).map (·.2) = xs.map enc := List.map_snd_zip (by rw [r1.len]; exact Nat.le_refl _)
      have key : ((vs.zip (xs.map enc)).mergeSort (dataLe false (·.2))).map (·.2) = (pySort enc xs).map enc := by
        rw [sort_maps (r := dataLe false fun b : V × PyData => b.2) (s := dataLe false fun d => d) (fun b : V × PyData => b.2) (fun _ _ _ _ => rfl), e1]
        unfold pySort
        rw [sort_maps (r := dataLe false enc) (s := dataLe false fun d => d) enc (fun _ _ _ _ => rfl)]
      have rr := rps_of_pairs (zs := (vs.zip (xs.map enc)).mergeSort (dataLe false (·.2))) (K := T.K) (C := C) fun b hb => rps_pairs r1 b (List.mem_mergeSort.mp hb)
      rw [key] at rr
      obtain ⟨E', r⟩ := E.freshO hq (by rw [List.length_map, List.length_mergeSort, List.length_zip]; omega) rr
      exact k _ C _ (Ex.refl C) E' r) hp
section
variable [DecidableEq α] {x : α} {ys : List α}
theorem cj_inLB (h : JE2 T a b e0 e2 (enc x) (.list (ys.map enc))) (sh : ShE 63 enc) (sh' : ShE 64 enc) (eq : EqE enc) (hm : behindInMarks .In b = false := by rfl) : CJ T .In a b e0 e2 (inB x ys) := cj_inL' h sh sh' eq hm
theorem cj_notInLB (h : JE2 T a b e0 e2 (enc x) (.list (ys.map enc))) (sh : ShE 63 enc) (sh' : ShE 64 enc) (eq : EqE enc) (hm : behindInMarks .NotIn b = false := by rfl) : CJ T .NotIn a b e0 e2 (!inB x ys) := cj_notInL' h sh sh' eq hm
theorem cj_inTB (h : JE2 T a b e0 e2 (enc x) (.tuple (ys.map enc))) (fl : FlE enc) (eq : EqE enc) (hm : behindInMarks .In b = false := by rfl) : CJ T .In a b e0 e2 (inB x ys) := cj_inT' h fl eq hm
theorem cj_notInTB (h : JE2 T a b e0 e2 (enc x) (.tuple (ys.map enc))) (fl : FlE enc) (eq : EqE enc) (hm : behindInMarks .NotIn b = false := by rfl) : CJ T .NotIn a b e0 e2 (!inB x ys) := cj_notInT' h fl eq hm
end
end
end J
namespace J
open PySem L2 PySem.Spec PyProof.Rows PySem.W
/-! ### min(a, b), max(a, b) of data -/
section
variable {prog : Program} {w : World} {A : Around} {E : Value → Shared → Prop} {s : Shared}
theorem min_twoH {a b : Value} {Q : Value → Shared → Prop}
    (h : wpAny (model prog w) A.in1 (pyIter (.ref s.heap.objs.size)) (fun it s₂ => ∃ I fp wr G n P St H bt, it = .ref I ∧ WalksS prog w A.in1 I fp wr G n P St ∧ St 0 s₂ ∧ (∀ b ∈ fp, b < s₂.heap.objs.size) ∧ 0 < n ∧
      (∀ b o, H.get? b = some o → b ∉ wr) ∧ (∀ b o, H.get? b = some o → s₂.heap.get? b = some o) ∧ CmpIn prog w A.in1 .Lt H P bt ∧ ∀ v s', P (argBest bt (n - 1)) v → Moved wr G s₂ s' → Q v s') E
      { s with heap := s.heap.push { cls := .type "tuple", data := .seq #[a, b] } }) :
    wpAny (model prog w) A (call (.builtin "min") [a, b]) Q E s := by
  have hname : (toString "min" ++ toString ".loop" : String) = "min.loop" := by decide
  refine call_function_tree F.kind_min F.plain_min F.entry_min (F.args_min2 _ _) ?_
  show wpAny _ A.in1 (Builtin.Builtins.bindParams "min" ["key", "default"] 0 ⟨[], []⟩ >>= _) _ _ s
  refine wpAny_bind (wpAny_of_eq (show Builtin.Builtins.bindParams "min" ["key", "default"] 0 ⟨[], []⟩ = pure [none, none] from rfl) ?_)
  show wpAny _ A.in1 (newTuple [a, b] >>= _) _ _ s
  refine wpAny_bind (wpAny_newObj_type ?_)
  refine wpAny_bind (wpAny_mono h (fun it s₂ h₂ => ?_) fun _ _ e => e)
  obtain ⟨I, fp, wr, G, n, P, St, H, bt, rfl, W, hst, hfp, hn, hw, hkeep, hcmp, hQ⟩ := h₂
  refine wpAny_bind (wpAny_newObj_type ?_)
  have hSf : s₂.heap.objs.size ∉ fp := fun hm => Nat.lt_irrefl _ (hfp _ hm)
  rw [hname]
  refine wpAny_pure ⟨plainId_quiet F.plain_min_loop _, codeAny_min_loop_firstH W H hw bt hcmp s₂.heap.objs.size hSf (fresh_in hkeep) _ hn (fun b o e => Heap.get?_push_of_some _ (hkeep b o e)) (W.frame 0 s₂ _ s₂.toks hst (Nat.le_refl _) fun b _ o e => Heap.get?_push_of_some _ e) (Heap.get?_push_size _ rfl) fun v s' hP hm => ?_⟩
  exact hQ v s' hP (Moved.drop_new (tk := s₂.toks) hm (Nat.le_refl _))
theorem max_twoH {a b : Value} {Q : Value → Shared → Prop}
    (h : wpAny (model prog w) A.in1 (pyIter (.ref s.heap.objs.size)) (fun it s₂ => ∃ I fp wr G n P St H bt, it = .ref I ∧ WalksS prog w A.in1 I fp wr G n P St ∧ St 0 s₂ ∧ (∀ b ∈ fp, b < s₂.heap.objs.size) ∧ 0 < n ∧
      (∀ b o, H.get? b = some o → b ∉ wr) ∧ (∀ b o, H.get? b = some o → s₂.heap.get? b = some o) ∧ CmpIn prog w A.in1 .Gt H P bt ∧ ∀ v s', P (argBest bt (n - 1)) v → Moved wr G s₂ s' → Q v s') E
      { s with heap := s.heap.push { cls := .type "tuple", data := .seq #[a, b] } }) :
    wpAny (model prog w) A (call (.builtin "max") [a, b]) Q E s := by
  have hname : (toString "max" ++ toString ".loop" : String) = "max.loop" := by decide
  refine call_function_tree F.kind_max F.plain_max F.entry_max (F.args_max2 _ _) ?_
  show wpAny _ A.in1 (Builtin.Builtins.bindParams "max" ["key", "default"] 0 ⟨[], []⟩ >>= _) _ _ s
  refine wpAny_bind (wpAny_of_eq (show Builtin.Builtins.bindParams "max" ["key", "default"] 0 ⟨[], []⟩ = pure [none, none] from rfl) ?_)
  show wpAny _ A.in1 (newTuple [a, b] >>= _) _ _ s
  refine wpAny_bind (wpAny_newObj_type ?_)
  refine wpAny_bind (wpAny_mono h (fun it s₂ h₂ => ?_) fun _ _ e => e)
  obtain ⟨I, fp, wr, G, n, P, St, H, bt, rfl, W, hst, hfp, hn, hw, hkeep, hcmp, hQ⟩ := h₂
  refine wpAny_bind (wpAny_newObj_type ?_)
  have hSf : s₂.heap.objs.size ∉ fp := fun hm => Nat.lt_irrefl _ (hfp _ hm)
  rw [hname]
  refine wpAny_pure ⟨plainId_quiet F.plain_max_loop _, codeAny_max_loop_firstH W H hw bt hcmp s₂.heap.objs.size hSf (fresh_in hkeep) _ hn (fun b o e => Heap.get?_push_of_some _ (hkeep b o e)) (W.frame 0 s₂ _ s₂.toks hst (Nat.le_refl _) fun b _ o e => Heap.get?_push_of_some _ e) (Heap.get?_push_size _ rfl) fun v s' hP hm => ?_⟩
  exact hQ v s' hP (Moved.drop_new (tk := s₂.toks) hm (Nat.le_refl _))
theorem min_two_data {a b : Value} {x y : PyData} {as : List Addr} {Q : Value → Shared → Prop} (hh : A.handled = none) (hr : ReadsAll s.heap [a, b] [x, y] as) (ha : AlikeAll [x, y]) (hu : A.units + 1 + PyData.depthAll [x, y] < cLine)
    (h : ∀ h' tk, (∀ b o, s.heap.get? b = some o → h'.get? b = some o) → Q (if dataLt y x = true then b else a) { s with heap := h', toks := tk }) : wpAny (model prog w) A (call (.builtin "min") [a, b]) Q E s := by
  have hT : (s.heap.push { cls := .type "tuple", data := .seq #[a, b] }).IsTuple s.heap.objs.size #[a, b] := ⟨_, Heap.get?_push_size _ rfl, rfl, 0, rfl⟩
  have hr1 : ReadsAll (s.heap.push { cls := .type "tuple", data := .seq #[a, b] }) (#[a, b] : Array Value).toList [x, y] as := ReadsAll.keeps (fun b o e => Heap.get?_push_of_some _ e) hr
  refine min_twoH (iter_tupleW (s := { s with heap := s.heap.push { cls := .type "tuple", data := .seq #[a, b] } }) (A := A.in1) hh hT fun s₂ e W st hfp hw hk => ?_)
  refine ⟨_, _, _, _, _, _, _, s.heap.push { cls := .type "tuple", data := .seq #[a, b] }, _, rfl, W, st, hfp, by simp, hw, hk, cmpIn_lt (s := { s with heap := s.heap.push { cls := .type "tuple", data := .seq #[a, b] } }) (A := A.in1) hr1 ha (by show A.units + 1 + _ < _; exact hu), fun v s' hP m => ?_⟩
  obtain ⟨h', tk, rfl, hk'⟩ := moved_old (s := { s with heap := s.heap.push { cls := .type "tuple", data := .seq #[a, b] } }) e rfl m
  have := h h' tk fun b o e => hk' b o (Heap.get?_push_of_some _ e)
  cases q : dataLt y x with
  | true =>
    rw [q, if_pos rfl] at this
    have e1 : argBest (fun i j => dataLt ([x, y].getD i .none) ([x, y].getD j .none)) ((#[a, b] : Array Value).size - 1) = 1 := by simp [argBest, q]
    rw [e1] at hP
    have : v = b := by simpa using hP.symm
    subst this; assumption
  | false =>
    rw [q, if_neg Bool.false_ne_true] at this
    have e1 : argBest (fun i j => dataLt ([x, y].getD i .none) ([x, y].getD j .none)) ((#[a, b] : Array Value).size - 1) = 0 := by simp [argBest, q]
    rw [e1] at hP
    have : v = a := by simpa using hP.symm
    subst this; assumption
end
section
variable {X : Cx}
def rMin2 (K : PySem.W.Frag) : List V → Hp → VK → Prop := fun vs H Q => ∃ u v x y, vs = [u, v] ∧ Dp K H u x ∧ Dp K H v y ∧ AlikeAll [x, y] ∧ PyData.depthAll [x, y] ≤ 64 ∧ Q (if dataLt y x = true then v else u) H
theorem cr_min2D (hc : X.calm = true) (hu : X.A.units + 200 < cLine) : CallR X (.builtin "min") (rMin2 X.K) := by
  intro pins s σ H vs us Q I r h
  obtain ⟨u, v, x, y, rfl, hx, hy, al, dp, q⟩ := h
  obtain ⟨u1, u2, rfl, r1, r2⟩ := vals2 r
  obtain ⟨as, hr⟩ := Dp.readsAll I [x, y] [u, v] [u1, u2] (.cons hx (.cons hy .nil)) (.cons r1 (.cons r2 .nil))
  refine min_two_data (I.ok.hd hc) hr al (by omega) fun h' tk k => ⟨_, H, I.kept k, ?_, q⟩
  cases dataLt y x
  · exact r1
  · exact r2
end
section
variable {T : TC} {a b c e : Expr} {e0 e1 e2 : Env'} {pos p : Pos} {α : Type} {enc : α → PyData} {x y : α}
def min2 (enc : α → PyData) (x y : α) : α := if ltB enc y x = true then y else x
theorem je_min2E (hg : glB T.sc "min" = true) (hm : T.mg "min" = none) (ha : JA T [a, b] e0 e1 [enc x, enc y]) (al : AlkE enc) (sh : ShE 63 enc) (hp : Plain a [b] pos := by exact ⟨fun _ => rfl, fun _ => rfl⟩) : JE T (.Call (.Name "min" p) [a, b] [] pos) e0 e1 (.d (enc (min2 enc x y))) :=
  je_bi (r := rMin2) (fun X hX => cr_min2D hX.calm (room_units hX)) hg hm (by decide +kernel) ha (fun R C H env σ vs Q E hv k => by
    cases hv with
    | cons h1 h2 =>
    cases h2 with
    | cons h2 h3 =>
    cases h3
    have s1 := shN_of (sh x)
    have s2 := shN_of (sh y)
    have hal := al.all [x, y]
    refine ⟨_, _, enc x, enc y, rfl, (h1.mono E.cH).dp s1.1, (h2.mono E.cH).dp s2.1, hal, depthAll_le (by
      intro z hz
      rcases List.mem_cons.mp hz with rfl | hz
      · have := s1.2; omega
      · rw [List.mem_singleton] at hz; subst hz; have := s2.2; omega), k _ C H (Ex.refl C) E ?_⟩
    unfold min2 ltB
    split
    · exact h2
    · exact h1) hp
end
end J
namespace J
open PySem L2 PySem.Spec PyProof.Rows PySem.W
section
variable {T : TC} {a b c e : Expr} {es : List Expr} {env e0 e1 e2 e3 : Env'} {pos p p1 p2 p3 : Pos} {x y z : PyData}
/-- what is known behind may be forgotten -/
theorem je_leo (h : JE T e e0 e1 (.d x)) (l : Le e2 e1) : JE T e e0 e2 (.d x) := fun X hX => (h X hX).wk fun σ H Q ⟨R, C, E, k⟩ => ⟨R, C, E, fun v C' H' c E' r => k v C' H' c (E'.le l) r⟩
theorem je_oneU {op} (h : JE T a e0 e1 (.d x)) (l : Le e2 e1) : JE T (.BoolOp op [a] pos) e0 e2 (.d x) := je_leo (je_one h) l
theorem je_andU {c c' : Bool} {rest : List Expr} (h : JE T a e0 e1 (.d (.bool c))) (h' : c = true → JE T (.BoolOp .And (b :: rest) pos) e1 e2 (.d (.bool c'))) (l : Le e2 e1) : JE T (.BoolOp .And (a :: b :: rest) pos) e0 e2 (.d (.bool (c && c'))) := fun X hX => by
  cases c with
  | true =>
    refine (pe_and (h X hX) (h' rfl X hX)).wk fun σ H Q ⟨R, C, E, k⟩ => ⟨R, C, E, fun v C1 H1 c1 E1 r1 => ?_⟩
    cases r1
    refine ⟨true, rfl, ?_⟩
    simp only [if_true]
    exact ⟨R, C1, E1, fun w C2 H2 c2 E2 r2 => k w C2 H2 (c1.trans c2) E2 r2⟩
  | false =>
    refine (pe_and (h X hX) pe_dead).wk fun σ H Q ⟨R, C, E, k⟩ => ⟨R, C, E, fun v C1 H1 c1 E1 r1 => ?_⟩
    cases r1
    refine ⟨false, rfl, ?_⟩
    simp only [Bool.false_eq_true, if_false]
    exact k _ C1 H1 c1 (E1.le l) (.bl false)
end
end J
namespace J
open PySem L2 PySem.Spec PyProof.Rows PySem.W
/-! ### tuple * n for every n -/
theorem tuple_mul1 (l : Addr) (items : Array Value) (n : Nat) (dd : Option Addr) (sl : Array (Option Value)) (u : Tok) :
    Meets (Builtin.«tuple.__mul__» ⟨[.ref l, .int 1 u], []⟩) (fun _ R s => s.heap.get? l = some { cls := .type "tuple", dict := dd, data := .seq items n, slots := sl } ∧
      R (.ok (.ret (Value.ref l))) s) :=
  .of_wp fun prog w A R s h => by
    obtain ⟨hp, g, d, tk, os⟩ := s
    obtain ⟨hl, h⟩ := h
    have f1 := AutoSeq1.idx_int
    have c1 : (items.isEmpty || (1 : Int) == 1) = true := by rw [Bool.or_eq_true]; exact .inr rfl
    have c2 : (decide ((1 : Int) < -(2 ^ 63)) || decide ((1 : Int) ≥ 2 ^ 63)) = false := by decide
    wp_walk using wpAny_loadPart' hl
    repeat (first
      | (refine wpAny_ite_false (decide_eq_false (by rw [c2]; exact Bool.false_ne_true)) ?_; wp_walk using wpAny_loadPart' hl)
      | (refine wpAny_ite_true (decide_eq_true c1) ?_; wp_walk using wpAny_loadPart' hl))
    exact ⟨_, rfl, h⟩
theorem tuple_mul0 (l : Addr) (items : Array Value) (n : Nat) (dd : Option Addr) (sl : Array (Option Value)) (u : Tok) (hi : items.isEmpty = false) :
    Meets (Builtin.«tuple.__mul__» ⟨[.ref l, .int 0 u], []⟩) (fun _ R s => s.heap.get? l = some { cls := .type "tuple", dict := dd, data := .seq items n, slots := sl } ∧
      R (.ok (.ret (Value.ref s.heap.objs.size))) { s with heap := s.heap.push { cls := Value.type "tuple", data := Data.seq #[] }, toks := s.toks }) :=
  .of_wp fun prog w A R s h => by
    obtain ⟨hp, g, d, tk, os⟩ := s
    obtain ⟨hl, h⟩ := h
    have f1 := AutoSeq1.idx_int
    have c1 : (items.isEmpty || (0 : Int) == 1) = false := by rw [hi]; rfl
    have c0 : (decide ((0 : Int) < -(2 ^ 63)) || decide ((0 : Int) ≥ 2 ^ 63)) = false := by decide
    have c2 : (decide ((0 : Int) ≤ 0) || items.isEmpty) = true := by rw [Bool.or_eq_true]; exact .inl rfl
    wp_walk using wpAny_loadPart' hl
    repeat (first
      | (refine wpAny_ite_false (decide_eq_false (by rw [c0]; exact Bool.false_ne_true)) ?_; wp_walk using wpAny_loadPart' hl)
      | (refine wpAny_ite_false (decide_eq_false (by rw [c1]; exact Bool.false_ne_true)) ?_; wp_walk using wpAny_loadPart' hl)
      | (refine wpAny_ite_true (decide_eq_true c2) ?_; wp_walk using wpAny_loadPart' hl))
    exact ⟨_, rfl, h⟩
def rRep1 (K : PySem.W.Frag) : R2 := fun x y H Q => ∃ l xs, x = .ref l ∧ y = .int 1 ∧ SqT K H l xs ∧ Q (.ref l) H
def rRep0 (K : PySem.W.Frag) : R2 := fun x y H Q => ∃ l xs, x = .ref l ∧ y = .int 0 ∧ SqT K H l xs ∧ xs ≠ [] ∧ ∀ p, H p = none → Q (.ref p) (upd H p (.tup []))
section
variable {X : Cx}
theorem op_rep1 : OpR X (binaryOp .Mult) (rRep1 X.K) := by
  intro pins s σ H x y v u Q I rx ry h
  obtain ⟨l, xs, rfl, rfl, hT, q⟩ := h
  cases rx
  obtain ⟨t, rfl⟩ := ry
  obtain ⟨its, r, ⟨⟨cls, dd, data, sl⟩, ho, hc, n, hd⟩, hs⟩ := I.tuple hT
  simp only at hc hd
  subst hc hd
  refine wpAny_binaryOp_repeat_ref (T := "tuple") (U := "int") (by decide) ⟨_, ho, rfl⟩ (fun s' => typeIs_int s' 1 t) noFill_tuple_mul F.fills_int_mul F.slot_int_rmul repeat_tuple F.slot_int_index.lookup
    (call_meets F.slot_int_rmul (typeIs_int s 1 t) F.entry_int_rmul (F.args_int_rmul_2 _ _) (int_rmul_tuple 1 t l its.toArray n dd sl)
      ⟨ho, rfl, ⟨_, ho, rfl⟩, call_meets F.slot_tuple_mul ⟨_, ho, rfl⟩ F.entry_tuple_mul (F.args_tuple_mul_2 _ _) (tuple_mul1 l its.toArray n dd sl t) ⟨ho, ?_⟩⟩)
  exact ⟨.ref l, H, I, rfl, q⟩
theorem op_rep0 : OpR X (binaryOp .Mult) (rRep0 X.K) := by
  intro pins s σ H x y v u Q I rx ry h
  obtain ⟨l, xs, rfl, rfl, hT, hne, q⟩ := h
  cases rx
  obtain ⟨t, rfl⟩ := ry
  obtain ⟨its, r, ⟨⟨cls, dd, data, sl⟩, ho, hc, n, hd⟩, hs⟩ := I.tuple hT
  simp only at hc hd
  subst hc hd
  have hi : its.toArray.isEmpty = false := by
    cases its with
    | nil => cases r; exact absurd rfl hne
    | cons a b => rfl
  refine wpAny_binaryOp_repeat_ref (T := "tuple") (U := "int") (by decide) ⟨_, ho, rfl⟩ (fun s' => typeIs_int s' 0 t) noFill_tuple_mul F.fills_int_mul F.slot_int_rmul repeat_tuple F.slot_int_index.lookup
    (call_meets F.slot_int_rmul (typeIs_int s 0 t) F.entry_int_rmul (F.args_int_rmul_2 _ _) (int_rmul_tuple 0 t l its.toArray n dd sl)
      ⟨ho, rfl, ⟨_, ho, rfl⟩, call_meets F.slot_tuple_mul ⟨_, ho, rfl⟩ F.entry_tuple_mul (F.args_tuple_mul_2 _ _) (tuple_mul0 l its.toArray n dd sl t hi) ⟨ho, ?_⟩⟩)
  refine ⟨.ref s.heap.objs.size, _, I.laid (t' := s.toks) (o := .tup []) (fun b ob q => Heap.get?_push_of_some _ q) (Nat.le_refl _) ?_, rfl, q _ (I.hok.fresh (Nat.le_refl _))⟩
  exact ⟨Nat.zero_le _, [], .nil, IsTup.new _ _⟩
end
/-- lists of at most one thing are sorted whatever it is, but None -/
def SortOk (ds : List PyData) : Prop := Sortable ds ∨ (ds.length < 2 ∧ ∀ d, d ∈ ds → d ≠ .none)
section
variable {prog : Program} {w : World} {A : Around} {s : Shared} {β : Type} {R : Value → β → Prop} {enc : β → PyData} {vs : List Value} {bs : List β}
theorem sortsAt_ok {vs : List Value} {ds : List PyData} (e : EachIs (fun v d => ∃ as, Reads s.heap v d as) vs ds) (hal : AllAlike ds) (hk : SortOk ds) (hu : ∀ d, d ∈ ds → A.units + d.depth < cLine) : SortsAt prog w A s (dataKind s.heap ds) vs := by
  rcases hk with hk | ⟨h1, hn⟩
  · exact SortsAt.data e hal hk hu
  · refine ⟨fun v hv => ?_, general', fun E x y a b Q ha hb hq => ?_, fun h2 => absurd h2 (by rw [e.length]; omega)⟩
    · obtain ⟨d, hd, as, r⟩ := e.left v hv
      exact ⟨_, dataKind_some hal hd r⟩
    · obtain ⟨d, as, hd, ra, rfl⟩ := dataKind_inv ha
      obtain ⟨d', as', hd', rb, rfl⟩ := dataKind_inv hb
      have hu' := hu d hd
      exact oneLt_alike (f := false) (fun q => absurd q (by decide)) ra rb (hal d hd d' hd') (hn d hd) (Nat.lt_of_le_of_lt (Nat.add_le_add_left (Nat.min_le_left _ _) _) hu') hq
theorem sorted_dataU {l : Addr} {Q : Value → Shared → Prop} (hl : s.heap.IsList l vs.toArray) (e : EachIs R vs bs) (er : EachIs (fun v b => ∃ as, Reads s.heap v (enc b) as) vs bs) (hal : AllAlike (bs.map enc)) (hk : SortOk (bs.map enc)) (hL : bs.length ≤ sizeLine)
    (hu : ∀ b, b ∈ bs → A.units + 2 + (enc b).depth < cLine) (h : ∀ out, out.length = bs.length → EachIs R out (bs.mergeSort (dataLe false enc)) → Q (.ref (s.heap.objs.size + 1)) { s with heap := sortedAll s.heap vs (List.toArray out) }) :
    wpAny (model prog w) A (call (.builtin "sorted") [.ref l]) Q E' s := by
  have er' : EachIs (fun v b => ∃ as, Reads (sortingHeap (copyHeap s.heap vs) (s.heap.objs.size + 1) vs) v (enc b) as) vs bs := er.mono fun _ _ ⟨as, r⟩ => ⟨as, PyProof.Rows.Reads.keeps (fun _ _ => sorting_copy_old) r⟩
  exact sorted_vals hl (sortsAt_ok (s := { s with heap := sortingHeap (copyHeap s.heap vs) (s.heap.objs.size + 1) vs }) (each_map (R := fun v d => ∃ as, Reads (sortingHeap (copyHeap s.heap vs) (s.heap.objs.size + 1) vs) v d as) enc er') hal hk (bound_map hu)) (by rw [e.length]; exact hL)
    (h _ (by rw [sortVals_length false rfl]; exact e.length) (sortVals_data false e er' hal))
end

section
variable {X : Cx}
def rSortU (K : PySem.W.Frag) : List V → Hp → VK → Prop := fun vs H Q => ∃ (a : Addr) (ys : List V) (ds : List PyData), vs = [.ref a] ∧ SqL K H a ys ∧ DpAll K H ys ds ∧ AllAlike ds ∧ SortOk ds ∧ PyData.depthAll ds ≤ 64 ∧
  ∀ p, H p = none → Q (.ref p) (upd H p (.lst (((ys.zip ds).mergeSort (dataLe false (·.2))).map (·.1))))
theorem cr_sortU (hu : X.A.units + 200 < cLine) : CallR X (.builtin "sorted") (rSortU X.K) := by
  intro pins s σ H xs us Q I rv h
  obtain ⟨a, ys, ds, rfl, hq, hd, al, so, dp, q⟩ := h
  have eu := Vals.ref1 rv
  subst eu
  obtain ⟨its, r, pl, hz⟩ := I.list hq
  obtain ⟨as, ra⟩ := Dp.readsAll I ds ys its hd r
  have hlen : ys.length = ds.length := dpAll_len hd
  have e1 : (ys.zip ds).map (·.2) = ds := List.map_snd_zip (by omega)
  have R1 := zipR r hlen
  have R2 := zipRd r ra
  have hdep : ∀ b, b ∈ ys.zip ds → X.A.units + 2 + b.2.depth < cLine := fun b hb => by
    have hm : b.2 ∈ ds := by
      have : b.2 ∈ (ys.zip ds).map (·.2) := List.mem_map.mpr ⟨b, hb, rfl⟩
      rw [e1] at this; exact this
    have := depth_mem hm
    omega
  refine sorted_dataU (R := fun (u : Value) (b : V × PyData) => RelV b.1 u) (enc := fun b => b.2) (bs := ys.zip ds) pl.isList R1 R2 (by rw [e1]; exact al) (by rw [e1]; exact so) (by rw [List.length_zip]; omega) hdep fun out ho hout => ?_
  obtain ⟨e, he⟩ := sortedAll_at s.heap its out.toArray
  have hv := eachVals hout
  have hn : H (s.heap.objs.size + 1) = none := I.hok.fresh (Nat.le_succ _)
  refine ⟨.ref (s.heap.objs.size + 1), _, I.laid (a := s.heap.objs.size + 1) (o := .lst _) (t' := s.toks) (fun b ob q => sortedAll_old q) (Nat.le_succ _) ?_, rfl, q _ hn⟩
  exact ⟨by rw [List.length_map, List.length_mergeSort, List.length_zip]; omega, out, e, hv, he⟩
end
section
variable {T : TC} {a b c e : Expr} {es : List Expr} {env e0 e1 e2 e3 : Env'} {pos p p1 p2 p3 : Pos} {α β : Type} {enc : α → PyData} {xs : List α}
theorem je_sortLu (hg : glB T.sc "sorted" = true) (hm : T.mg "sorted" = none) (ha : JE T e e0 e1 (.b (.list (xs.map enc)))) (al : AlkE enc) (so : SortOk (xs.map enc)) (sh : shN 64 (.list (xs.map enc)) = true := by simp [shN]) (hp : Plain e [] pos := by exact ⟨fun _ => rfl, fun _ => rfl⟩) : JE T (.Call (.Name "sorted" p) [e] [] pos) e0 e1 (.o (.list ((pySort enc xs).map enc))) :=
  je_bi1 (r := rSortU) (fun X hX => cr_sortU (room_units hX)) hg hm (by decide +kernel) ha (fun R C H env σ v Q E hv k => by
    obtain ⟨p, vs, rfl, h1, l1, r1⟩ := rb_lst E hv
    obtain ⟨q1, q2⟩ := shN_all (n := 63) sh
    have aa := al.all xs
    refine ⟨p, vs, xs.map enc, rfl, SqL.of h1, (r1.mono E.cH).dps q1, aa.1, so, by omega, fun q hq => ?_⟩
    · have e1 : (vs.zip (xs.map enc)).map (·.2) = xs.map enc := List.map_snd_zip (by rw [r1.len]; exact Nat.le_refl _)
      have key : ((vs.zip (xs.map enc)).mergeSort (dataLe false (·.2))).map (·.2) = (pySort enc xs).map enc := by
        rw [sort_maps (r := dataLe false fun b : V × PyData => b.2) (s := dataLe false fun d => d) (fun b : V × PyData => b.2) (fun _ _ _ _ => rfl), e1]
        unfold pySort
        rw [sort_maps (r := dataLe false enc) (s := dataLe false fun d => d) enc (fun _ _ _ _ => rfl)]
      have rr := rps_of_pairs (zs := (vs.zip (xs.map enc)).mergeSort (dataLe false (·.2))) (K := T.K) (C := C) fun b hb => rps_pairs r1 b (List.mem_mergeSort.mp hb)
      rw [key] at rr
      obtain ⟨E', r⟩ := E.freshO hq (by rw [List.length_map, List.length_mergeSort, List.length_zip]; omega) rr
      exact k _ C _ (Ex.refl C) E' r) hp
def repOkU (n : Nat) (k : Int) : Prop := 0 < n ∧ n ≤ 1000 ∧ 0 ≤ k ∧ k ≤ 1000
theorem je_repTu {xs : List α} {k : Int} (h : JE2 T a b e0 e2 (.tuple (xs.map enc)) (.int k)) (hk : repOkU xs.length k) : JE T (.BinOp a .Mult b pos) e0 e2 (.d (.tuple ((repX xs k).map enc))) := by
  obtain ⟨k0, k1, k2, k3⟩ := hk
  by_cases h2 : 2 ≤ k
  · exact je_repT h ⟨k0, k1, h2, k3⟩
  by_cases h1 : k = 1
  · subst h1
    have e1 : repX xs 1 = xs := by show (List.replicate 1 xs).flatten = xs; simp
    rw [e1]
    exact je_bin (r := fun K => rRep1 K) (fun X _ => op_rep1) h fun R C H env σ u v Q E hu hv kk => by
      obtain ⟨p, vs, rfl, h1, c1, l1, r1⟩ := rb_tup E hu
      have := rb_int E hv
      subst this
      exact ⟨p, vs, rfl, rfl, h1, kk _ C H (Ex.refl C) E (.tup c1 l1 r1)⟩
  · have h0 : k = 0 := by omega
    subst h0
    have e1 : repX xs 0 = [] := rfl
    rw [e1]
    exact je_bin (r := fun K => rRep0 K) (fun X _ => op_rep0) h fun R C H env σ u v Q E hu hv kk => by
      obtain ⟨p, vs, rfl, h1, c1, l1, r1⟩ := rb_tup E hu
      have := rb_int E hv
      subst this
      have el := r1.len
      rw [List.length_map] at el
      refine ⟨p, vs, rfl, rfl, h1, fun q => by subst q; simp at el; omega, fun t ht => ?_⟩
      obtain ⟨c, E', r⟩ := E.freshT (vs := []) (ds := []) ht (Nat.zero_le _) .nil
      exact kk _ _ _ c E' r
end
end J
namespace J
open PySem L2 PySem.Spec PyProof.Rows
/-! ### plain laws of lists -/
theorem cut_to {α : Type} (xs : List α) (k : Nat) : cutL xs none (some (k : Int)) = xs.take k := by
  unfold cutL
  rw [HT.sIx_nat, HT.sIx_none, List.drop_zero, Nat.sub_zero, List.take_eq_take_iff]
  omega
theorem cut_from {α : Type} (xs : List α) (k : Nat) : cutL xs (some (k : Int)) none = xs.drop k := by
  unfold cutL
  rw [HT.sIx_nat, HT.sIx_none]
  have e1 : xs.drop (min k xs.length) = xs.drop k := by
    by_cases h : k ≤ xs.length
    · rw [Nat.min_eq_left h]
    · rw [Nat.min_eq_right (by omega), List.drop_length, List.drop_eq_nil_of_le (by omega)]
  rw [e1]
  exact List.take_of_length_le (by rw [List.length_drop]; omega)
theorem cut_from1 {α : Type} (xs : List α) : cutL xs (some 1) none = xs.drop 1 := cut_from xs 1
theorem foldl_fil {α β : Type} (p : α → Bool) (f : α → β) : ∀ (xs : List α) (l : List β), xs.foldl (fun l x => if p x = true then l ++ [f x] else l) l = l ++ (xs.filter p).map f
  | [], l => by simp
  | x :: xs, l => by
    rw [List.foldl_cons, foldl_fil p f xs]
    cases q : p x <;> simp [q]
theorem foldl_flat {α β : Type} (f : α → List β) : ∀ (xs : List α) (l : List β), xs.foldl (fun l x => l ++ f x) l = l ++ xs.flatMap f
  | [], l => by simp
  | x :: xs, l => by rw [List.foldl_cons, foldl_flat f xs, List.flatMap_cons, List.append_assoc]
theorem flat_foldl {α β γ : Type} (f : α → List β) (g : γ → β → γ) : ∀ (xs : List α) (b : γ), (xs.flatMap f).foldl g b = xs.foldl (fun b x => (f x).foldl g b) b
  | [], b => rfl
  | x :: xs, b => by rw [List.flatMap_cons, List.foldl_append, List.foldl_cons, flat_foldl f g xs]
theorem foldl_ext {α β : Type} {f g : β → α → β} : ∀ {xs : List α} (b : β), (∀ x ∈ xs, ∀ b, f b x = g b x) → xs.foldl f b = xs.foldl g b
  | [], _, _ => rfl
  | x :: xs, b, h => by rw [List.foldl_cons, List.foldl_cons, h x (by simp), foldl_ext _ fun y hy => h y (by simp [hy])]
theorem forR_inl {α L ρ : Type} {step : L → α → L ⊕ ρ} {g : L → α → L} : ∀ {xs : List α} (l : L), (∀ x ∈ xs, ∀ l, step l x = .inl (g l x)) → forR step l xs = .inl (xs.foldl g l)
  | [], _, _ => rfl
  | x :: xs, l, h => by
    rw [forR, h x (by simp), List.foldl_cons]
    exact forR_inl _ fun y hy => h y (by simp [hy])
theorem zip_drop_mem {α : Type} {P : α → α → Prop} : ∀ {xs : List α}, xs.Pairwise P → ∀ q ∈ xs.zip (xs.drop 1), P q.1 q.2
  | [], _ => fun q h => by simp at h
  | [x], _ => fun q h => by simp at h
  | x :: y :: xs, h => fun q hq => by
    have h1 := List.pairwise_cons.mp h
    have hq : q ∈ (x, y) :: (y :: xs).zip ((y :: xs).drop 1) := by simpa using hq
    rcases List.mem_cons.mp hq with rfl | hq
    · exact h1.1 y (by simp)
    · exact zip_drop_mem h1.2 q hq
theorem pairs_of {α : Type} {P : α → α → Prop} (sym : ∀ a b, P a b → P b a) : ∀ {xs : List α}, xs.Nodup → (xs.Pairwise P ↔ ∀ a ∈ xs, ∀ c ∈ xs, c ≠ a → P a c)
  | [], _ => by simp
  | x :: xs, h => by
    obtain ⟨h1, h2⟩ := List.nodup_cons.mp h
    rw [List.pairwise_cons, pairs_of sym h2]
    constructor
    · rintro ⟨q1, q2⟩ a ha c hc hne
      rcases List.mem_cons.mp ha with ea | ha'
      · rcases List.mem_cons.mp hc with ec | hc'
        · exact absurd (ec.trans ea.symm) hne
        · rw [ea]; exact q1 c hc'
      · rcases List.mem_cons.mp hc with ec | hc'
        · rw [ec]; exact sym _ _ (q1 a ha')
        · exact q2 a ha' c hc' hne
    · intro q
      exact ⟨fun c hc => q x (by simp) c (by simp [hc]) fun e => h1 (e ▸ hc), fun a ha c hc hne => q a (by simp [ha]) c (by simp [hc]) hne⟩
theorem idxL_nd {α : Type} [DecidableEq α] {xs : List α} (h : xs.Nodup) {i : Nat} (hi : i < xs.length) : idxL xs xs[i] = (i : Int) := by
  unfold idxL
  congr 1
  rw [List.findIdx_eq hi]
  refine ⟨by simp, fun j hj => ?_⟩
  have := (List.pairwise_iff_getElem.mp h) j i (by omega) hi hj
  exact decide_eq_false this
theorem zip_fst_sub {α β : Type} : ∀ (xs : List α) (ys : List β), ((xs.zip ys).map (·.1)).Sublist xs
  | [], _ => by simp
  | x :: xs, [] => by simp
  | x :: xs, y :: ys => by
    rw [List.zip_cons_cons, List.map_cons]
    exact (zip_fst_sub xs ys).cons₂ x
theorem nodup_lt {α : Type} {f : α → PyData} {xs : List α} (h : xs.Pairwise fun a b => ltB f a b = true) : xs.Nodup := h.imp fun q e => by
  rw [e, ltB_irr] at q; cases q
theorem rgI_take {n : Int} {i : Nat} (h : (i : Int) ≤ n) : (rgI 0 n).take i = rgI 0 i := by
  unfold rgI
  rw [← List.map_take, List.take_range, Nat.min_eq_left (by omega)]
  congr 2
theorem rgI_at {n : Int} {i : Nat} {x : Int} (h : (rgI 0 n)[i]? = some x) : x = (i : Int) ∧ (i : Int) < n := by
  unfold rgI at h
  rw [List.getElem?_map] at h
  have hi : i < (n - 0).toNat := by
    cases q : (List.range (n - 0).toNat)[i]? with
    | none => rw [q] at h; cases h
    | some j => have := (List.getElem?_eq_some_iff.mp q).1; simpa using this
  rw [List.getElem?_range hi] at h
  have h := Option.some.inj h
  simp only at h
  omega
theorem mapS_in {α β S : Type} (f : S → α → β × S) : ∀ (xs : List α) (s : S), ∀ y ∈ (mapS f s xs).1, ∃ s', ∃ x ∈ xs, y = (f s' x).1
  | [], s => fun y h => by simp [mapS] at h
  | x :: xs, s => fun y h => by
    simp only [mapS, List.mem_cons] at h
    rcases h with rfl | h
    · exact ⟨s, x, by simp, rfl⟩
    · obtain ⟨s', z, hz, e⟩ := mapS_in f xs _ y h
      exact ⟨s', z, by simp [hz], e⟩
theorem mapS_keep {α β γ S : Type} (f : S → α → β × S) (g : β → γ) (h : α → γ) (hh : ∀ s x, g (f s x).1 = h x) : ∀ (xs : List α) (s : S), (mapS f s xs).1.map g = xs.map h
  | [], s => rfl
  | x :: xs, s => by simp only [mapS, List.map_cons, mapS_keep f g h hh xs, hh]
theorem filS_in {α β S : Type} (c : S → α → Bool × S) (g : α → β) : ∀ (xs : List α) (s : S), ∀ y ∈ (filS c g s xs).1, ∃ x ∈ xs, y = g x
  | [], s => fun y h => by simp [filS] at h
  | x :: xs, s => fun y h => by
    simp only [filS] at h
    split at h
    · simp only [List.mem_cons] at h
      rcases h with rfl | h
      · exact ⟨x, by simp, rfl⟩
      · obtain ⟨z, hz, e⟩ := filS_in c g xs _ y h
        exact ⟨z, by simp [hz], e⟩
    · obtain ⟨z, hz, e⟩ := filS_in c g xs _ y h
      exact ⟨z, by simp [hz], e⟩
theorem filS_sub {α S : Type} (c : S → α → Bool × S) : ∀ (xs : List α) (s : S), (filS c (fun x => x) s xs).1.Sublist xs
  | [], s => by simp [filS]
  | x :: xs, s => by
    simp only [filS]
    split
    · exact (filS_sub c xs _).cons₂ x
    · exact (filS_sub c xs _).cons x
end J
namespace J
open PySem L2 PySem.Spec PyProof.Rows PySem.W
section
variable {T : TC} {a b c e : Expr} {es : List Expr} {env e0 e1 e2 e3 : Env'} {pos p p1 p2 p3 : Pos} {K : PySem.W.Frag} {R C C' H H' : Hp} {σ : L2.St} {v : V}
/-! ### text + text -/
theorem len_app (i j : Str) : (i ++ j).length = i.length + j.length := by
  show (Array.size (i.cps ++ j.cps)) = _
  rw [Array.size_append]; rfl
theorem sOk_app {i j : Str} (hi : sOk i) (hj : sOk j) (h : i.length + j.length ≤ LN) : sOk (i ++ j) := by
  refine ⟨?_, by rw [len_app]; exact h⟩
  have a := hi.1
  have b := hj.1
  unfold PyData.strOk at a b ⊢
  show (i.cps ++ j.cps).all _ = true
  rw [Array.all_append, a, b]; rfl
theorem je_addS {i j : Str} (h : JE2 T a b e0 e2 (.str i) (.str j)) (hl : i.length + j.length ≤ LN) : JE T (.BinOp a .Add b pos) e0 e2 (.d (.str (i ++ j))) :=
  je_bin (r := fun _ => fun x y H Q => ∃ i j, x = .str i ∧ y = .str j ∧ i.length + j.length ≤ sizeLine ∧ Q (.str (i ++ j)) H) (fun X _ => op_add_str) h fun R C H env σ u v Q E hu hv k => by
    have h1 := rb_str E hu
    have h2 := rb_str E hv
    subst h1 h2
    have r1 := rb_rp E hu
    have r2 := rb_rp E hv
    cases r1 with
    | str o1 => cases r2 with
      | str o2 => exact ⟨i, j, rfl, rfl, by rw [sizeLine_eq]; exact hl, k _ C H (Ex.refl C) E (.str (sOk_app o1 o2 hl))⟩
end
end J
namespace J
open PySem L2 PySem.Spec PyProof.Rows PySem.W PySem.SeqAt
/-! ### sorted lists of tuples, empty ones too -/
section
variable {prog : Program} {w : World} {A : Around} {E : Value → Shared → Prop} {s : Shared}
theorem call_tuple_ltD {Q : Value → Shared → Prop} {l b : Addr} {items items2 : Array Value} {e r : Nat → Bool} (hl : s.heap.IsTuple l items) (hb : s.heap.IsTuple b items2)
    (he : ∀ j (h1 : j < items.size) (h2 : j < items2.size), EqAt A.in1 s items[j] items2[j] (e j)) (hr : ∀ j (h1 : j < items.size) (h2 : j < items2.size), e j = false → RcLt A.in1 s items[j] items2[j] (r j))
    (h : Q (.bool (firstLt e r (decide (items.size < items2.size)) (List.range (min items.size items2.size)))) s) : wpAny (model prog w) A (call (.builtin "tuple.__lt__") [.ref l, .ref b]) Q E s := by
  obtain ⟨⟨cls, dd, data, sl⟩, ho, hc, n, hd⟩ := id hl
  obtain ⟨⟨cls2, dd2, data2, sl2⟩, ho2, hc2, n2, hd2⟩ := id hb
  simp only at hc hd hc2 hd2
  subst hc hd hc2 hd2
  exact call_meets F.slot_tuple_lt ⟨_, ho, rfl⟩ F.entry_tuple_lt (F.args_tuple_lt_2 _ _) (tuple_ltAt l b items items2 n n2 dd dd2 sl sl2 e r) ⟨ho, ho2, he, hr, h⟩
theorem oneLt_tup {xs ys : List PyData} {a b : Value} {as bs : List Addr} {Q : Bool → Shared → Prop} (ra : Reads s.heap a (.tuple xs) as) (rb : Reads s.heap b (.tuple ys) bs) (hal : alikeAll xs ys = true)
    (hu : A.units + min (PyData.tuple xs).depth (PyData.tuple ys).depth < cLine) (hq : Q (dataLt (.tuple xs) (.tuple ys)) s) : wpAny (model prog w) A (oneLt' true a b) Q E s := by
  cases ra with
  | @tuple l o vs n _ as₁ h1 h2 h3 h4 =>
    cases rb with
    | @tuple l' o' vs' n' _ bs₁ k1 k2 k3 k4 =>
      have n1 : vs.size = xs.length := by simpa using ReadsAll.length _ _ _ h4
      have n2 : vs'.size = ys.length := by simpa using ReadsAll.length _ _ _ k4
      rw [dataLt_tuple, ← firstLt_toks xs ys hal, ← n1, ← n2] at hq
      rw [oneLt'_eq]
      simp only [if_true]
      refine wpAny_bind (wpAny_cRoomFor (room_here hu) ?_)
      refine wpAny_bind (wpAny_callSpecialIfBound?_slot (T := "tuple") ⟨_, h1, h2⟩ F.slot_tuple_lt (call_tuple_ltD (e := pairEq xs ys) (r := fun j => dataLt (xs.getD j .none) (ys.getD j .none)) ⟨_, h1, h2, _, h3⟩ ⟨_, k1, k2, _, k3⟩ (fun j j1 j2 => ?_) (fun j j1 j2 hj => ?_) ?_))
      · have := eqAt_alikeAll xs ys A.in1 s vs.toList vs'.toList _ _ h4 k4 hal (room_in hu) j (by simpa using j1) (by simpa using j2)
        simpa using this
      · have := rcLt_alikeAll xs ys A.in1 s vs.toList vs'.toList _ _ h4 k4 hal (room_in hu) j (by simpa using j1) (by simpa using j2) hj
        simpa using this
      · exact wpAny_truthy_bool hq
end
section
variable {M : Model} {A : Around} {E : Value → Shared → Prop} {s : Shared}
/-- the first things of tuples -/
def FirstIs (h : Heap) (v : Value) (o : Option Value) : Prop := ∃ a ob xs n, v = .ref a ∧ h.get? a = some ob ∧ ob.cls = .type "tuple" ∧ ob.data = .seq xs n ∧ xs[0]? = o
theorem firsts_any : ∀ (vs : List Value) (fs : List (Option Value)) {Q : List (Option Value) → Shared → Prop}, EachIs (FirstIs s.heap) vs fs → Q fs s → wpAny M A (vs.mapM firstOfTuple') Q E s
  | _, _, _, .nil, h => by rw [List.mapM_nil]; exact wpAny_pure h
  | _, _, Q, .cons (a := v) (as := vs) (b := f) (bs := fs) t ts, h => by
    obtain ⟨a, o, xs, n, rfl, ho, hc, hd, hf⟩ := t
    rw [List.mapM_cons]
    refine wpAny_bind ?_
    rw [kas_first_eq]
    refine wpAny_bind (Looks.here (show Looks M s.heap (typeOf (.ref a)) o.cls from (Looks.ld ho).andThen .now) ?_)
    rw [hc, if_neg (by first | decide | simp)]
    refine wpAny_bind (listItems_at ho hd (wpAny_pure ?_))
    rw [hf]
    exact wpAny_bind (firsts_any vs fs (Q := fun bs s' => wpAny M A (pure (f :: bs)) Q E s') ts (wpAny_pure h))
theorem tup_kind {vs : List Value} {fs : List (Option Value)} {Q : SortKind → Shared → Prop} (h2 : 2 ≤ vs.length) (t : EachIs (FirstIs s.heap) vs fs) (hn : fs.all (·.isSome) = false) (h : Q (if (fs[0]?.bind id).isSome = true then general' else oneType') s) :
    wpAny M A (keyKind' vs.toArray) Q E s := by
  rw [keyKind'_eq, List.mapM_toArray, map_eq_pure_bind]
  refine wpAny_bind (wpAny_bind (firsts_any vs fs t (wpAny_pure ?_)))
  have hall : (fs.toArray.all fun x => x.isSome) = false := by simpa using hn
  rw [if_neg (by rw [hall]; decide)]
  have h0 : fs.toArray[0]? = fs[0]? := by simp
  rw [h0]
  cases q : (fs[0]?.bind id).isSome with
  | true =>
    rw [q] at h
    simp only [if_true] at h ⊢
    exact wpAny_pure h
  | false =>
    rw [q] at h
    simp only [Bool.false_eq_true, if_false] at h ⊢
    rw [oneTypeOnly'_eq, List.mapM_toArray, map_eq_pure_bind]
    have hT : ∀ v ∈ vs, Looks M s.heap (typeOf v) (.type "tuple") := fun v hv => by
      obtain ⟨f, _, a, o, xs, n, rfl, ho, hc, hd, hf⟩ := t.left v hv
      exact hc ▸ (Looks.ld ho).andThen .now
    refine wpAny_bind (wpAny_bind (wpAny_bind (kas_mapM (r := Value.type "tuple") _ (fun v hv Q' hq => (hT v hv).here hq) (wpAny_pure ?_))))
    obtain ⟨v₁, v₂, rest, rfl⟩ : ∃ v₁ v₂ rest, vs = v₁ :: v₂ :: rest := by
      match vs, h2 with
      | [], h2 => simp at h2
      | [_], h2 => simp at h2
      | v₁ :: v₂ :: rest, _ => exact ⟨v₁, v₂, rest, rfl⟩
    have hall2 : ((List.map (fun _ => Value.type "tuple") (v₁ :: v₂ :: rest)).toArray.all fun x => x == Value.type "tuple") = true := by
      simp only [List.all_toArray, List.all_map, List.all_eq_true]
      intro _ _
      rfl
    have h0 : (List.map (fun _ => Value.type "tuple") (v₁ :: v₂ :: rest)).toArray[0]? = some (Value.type "tuple") := by simp
    rw [h0]
    simp only [hall2, if_true]
    exact wpAny_pure (wpAny_pure h)
end
section
variable {prog : Program} {w : World} {A : Around} {s : Shared} {β : Type} {R : Value → β → Prop} {enc : β → PyData} {vs : List Value} {bs : List β}
theorem firsts_of {h : Heap} : ∀ {vs : List Value} {ds : List PyData}, EachIs (fun v d => ∃ as, Reads h v d as) vs ds → (∀ d, d ∈ ds → ∃ xs, d = .tuple xs) → ∃ fs, EachIs (FirstIs h) vs fs ∧ (fs.all (·.isSome) = true → ∀ d, d ∈ ds → ∃ x r, d = .tuple (x :: r))
  | _, _, .nil, _ => ⟨[], .nil, fun _ d hd => by cases hd⟩
  | _, _, .cons (b := d) ⟨as, r⟩ t, ht => by
    obtain ⟨fs, h1, h2⟩ := firsts_of t fun d hd => ht d (List.mem_cons_of_mem _ hd)
    obtain ⟨ys, rfl⟩ := ht d (List.mem_cons_self ..)
    cases r with
    | @tuple a o xs n _ _ ho hc hd hr =>
      refine ⟨xs[0]? :: fs, .cons ⟨a, o, xs, n, rfl, ho, hc, hd, rfl⟩ h1, fun q d hd => ?_⟩
      rw [List.all_cons, Bool.and_eq_true] at q
      rcases List.mem_cons.mp hd with rfl | hd
      · cases ys with
        | nil =>
          have : xs.toList = [] := by cases e : xs.toList with
            | nil => rfl
            | cons a b => rw [e] at hr; cases hr
          have : xs[0]? = none := by rw [← Array.getElem?_toList, this]; rfl
          rw [this] at q; exact absurd q.1 (by decide)
        | cons y ys => exact ⟨y, ys, rfl⟩
      · exact h2 q.2 d hd
theorem sortsAt_tup {vs : List Value} {ds : List PyData} (e : EachIs (fun v d => ∃ as, Reads s.heap v d as) vs ds) (hal : AllAlike ds) (ht : ∀ d, d ∈ ds → ∃ xs, d = .tuple xs) (hu : ∀ d, d ∈ ds → A.units + d.depth < cLine) : SortsAt prog w A s (dataKind s.heap ds) vs := by
  obtain ⟨fs, f1, f2⟩ := firsts_of e ht
  cases q : fs.all (·.isSome) with
  | true => exact SortsAt.data e hal (.inl (f2 q)) hu
  | false =>
    refine ⟨fun v hv => ?_, (if (fs[0]?.bind id).isSome = true then general' else oneType'), ?_, fun h2 E Q hq => tup_kind h2 f1 q hq⟩
    · obtain ⟨d, hd, as, r⟩ := e.left v hv
      exact ⟨_, dataKind_some hal hd r⟩
    · intro E x y a b Q ha hb hq
      obtain ⟨d, as, hd, ra, rfl⟩ := dataKind_inv ha
      obtain ⟨d', as', hd', rb, rfl⟩ := dataKind_inv hb
      have hu' := hu d hd
      have room : A.units + min d.depth d'.depth < cLine := Nat.lt_of_le_of_lt (Nat.add_le_add_left (Nat.min_le_left _ _) _) hu'
      have al := hal d hd d' hd'
      obtain ⟨xs, rfl⟩ := ht d hd
      obtain ⟨ys, rfl⟩ := ht d' hd'
      cases (fs[0]?.bind id).isSome with
      | true => exact oneLt_alike (f := false) (fun q => absurd q (by decide)) ra rb al (by simp) room hq
      | false => exact oneLt_tup ra rb (by simpa [alike] using al) room hq
theorem sorted_dataT {l : Addr} {E' : Value → Shared → Prop} {Q : Value → Shared → Prop} (hl : s.heap.IsList l vs.toArray) (e : EachIs R vs bs) (er : EachIs (fun v b => ∃ as, Reads s.heap v (enc b) as) vs bs) (hal : AllAlike (bs.map enc)) (hk : ∀ d, d ∈ bs.map enc → ∃ xs, d = .tuple xs) (hL : bs.length ≤ sizeLine)
    (hu : ∀ b, b ∈ bs → A.units + 2 + (enc b).depth < cLine) (h : ∀ out, out.length = bs.length → EachIs R out (bs.mergeSort (dataLe false enc)) → Q (.ref (s.heap.objs.size + 1)) { s with heap := sortedAll s.heap vs (List.toArray out) }) :
    wpAny (model prog w) A (call (.builtin "sorted") [.ref l]) Q E' s := by
  have er' : EachIs (fun v b => ∃ as, Reads (sortingHeap (copyHeap s.heap vs) (s.heap.objs.size + 1) vs) v (enc b) as) vs bs := er.mono fun _ _ ⟨as, r⟩ => ⟨as, PyProof.Rows.Reads.keeps (fun _ _ => sorting_copy_old) r⟩
  exact sorted_vals hl (sortsAt_tup (s := { s with heap := sortingHeap (copyHeap s.heap vs) (s.heap.objs.size + 1) vs }) (each_map (R := fun v d => ∃ as, Reads (sortingHeap (copyHeap s.heap vs) (s.heap.objs.size + 1) vs) v d as) enc er') hal hk (bound_map hu)) (by rw [e.length]; exact hL)
    (h _ (by rw [sortVals_length false rfl]; exact e.length) (sortVals_data false e er' hal))
end
section
variable {X : Cx}
def rSortV (K : PySem.W.Frag) : List V → Hp → VK → Prop := fun vs H Q => ∃ (a : Addr) (ys : List V) (ds : List PyData), vs = [.ref a] ∧ SqL K H a ys ∧ DpAll K H ys ds ∧ AllAlike ds ∧ (∀ d, d ∈ ds → ∃ xs, d = .tuple xs) ∧ PyData.depthAll ds ≤ 64 ∧
  ∀ p, H p = none → Q (.ref p) (upd H p (.lst (((ys.zip ds).mergeSort (dataLe false (·.2))).map (·.1))))
theorem cr_sortV (hu : X.A.units + 200 < cLine) : CallR X (.builtin "sorted") (rSortV X.K) := by
  intro pins s σ H xs us Q I rv h
  obtain ⟨a, ys, ds, rfl, hq, hd, al, so, dp, q⟩ := h
  have eu := Vals.ref1 rv
  subst eu
  obtain ⟨its, r, pl, hz⟩ := I.list hq
  obtain ⟨as, ra⟩ := Dp.readsAll I ds ys its hd r
  have hlen : ys.length = ds.length := dpAll_len hd
  have e1 : (ys.zip ds).map (·.2) = ds := List.map_snd_zip (by omega)
  have R1 := zipR r hlen
  have R2 := zipRd r ra
  have hdep : ∀ b, b ∈ ys.zip ds → X.A.units + 2 + b.2.depth < cLine := fun b hb => by
    have hm : b.2 ∈ ds := by
      have : b.2 ∈ (ys.zip ds).map (·.2) := List.mem_map.mpr ⟨b, hb, rfl⟩
      rw [e1] at this; exact this
    have := depth_mem hm
    omega
  refine sorted_dataT (R := fun (u : Value) (b : V × PyData) => RelV b.1 u) (enc := fun b => b.2) (bs := ys.zip ds) pl.isList R1 R2 (by rw [e1]; exact al) (by rw [e1]; exact so) (by rw [List.length_zip]; omega) hdep fun out ho hout => ?_
  obtain ⟨e, he⟩ := sortedAll_at s.heap its out.toArray
  have hv := eachVals hout
  have hn : H (s.heap.objs.size + 1) = none := I.hok.fresh (Nat.le_succ _)
  refine ⟨.ref (s.heap.objs.size + 1), _, I.laid (a := s.heap.objs.size + 1) (o := .lst _) (t' := s.toks) (fun b ob q => sortedAll_old q) (Nat.le_succ _) ?_, rfl, q _ hn⟩
  exact ⟨by rw [List.length_map, List.length_mergeSort, List.length_zip]; omega, out, e, hv, he⟩
end
section
variable {T : TC} {a b c e : Expr} {es : List Expr} {env e0 e1 e2 e3 : Env'} {pos p p1 p2 p3 : Pos} {α β : Type} {f : α → PyData} {xs : List (List α)}
theorem je_sortLv (hg : glB T.sc "sorted" = true) (hm : T.mg "sorted" = none) (ha : JE T e e0 e1 (.b (.list (xs.map (eT f))))) (al : AlkE (eT f)) (sh : shN 64 (.list (xs.map (eT f))) = true := by simp [shN]) (hp : Plain e [] pos := by exact ⟨fun _ => rfl, fun _ => rfl⟩) : JE T (.Call (.Name "sorted" p) [e] [] pos) e0 e1 (.o (.list ((pySort (eT f) xs).map (eT f)))) :=
  je_bi1 (r := rSortV) (fun X hX => cr_sortV (room_units hX)) hg hm (by decide +kernel) ha (fun R C H env σ v Q E hv k => by
    obtain ⟨p, vs, rfl, h1, l1, r1⟩ := rb_lst E hv
    obtain ⟨q1, q2⟩ := shN_all (n := 63) sh
    have aa := al.all xs
    refine ⟨p, vs, xs.map (eT f), rfl, SqL.of h1, (r1.mono E.cH).dps q1, aa.1, fun d hd => by obtain ⟨x, _, rfl⟩ := List.mem_map.mp hd; exact ⟨_, rfl⟩, by omega, fun q hq => ?_⟩
    · have e1 : (vs.zip (xs.map (eT f))).map (·.2) = xs.map (eT f) := List.map_snd_zip (by rw [r1.len]; exact Nat.le_refl _)
      have key : ((vs.zip (xs.map (eT f))).mergeSort (dataLe false (·.2))).map (·.2) = (pySort (eT f) xs).map (eT f) := by
        rw [sort_maps (r := dataLe false fun b : V × PyData => b.2) (s := dataLe false fun d => d) (fun b : V × PyData => b.2) (fun _ _ _ _ => rfl), e1]
        unfold pySort
        rw [sort_maps (r := dataLe false (eT f)) (s := dataLe false fun d => d) (eT f) (fun _ _ _ _ => rfl)]
      have rr := rps_of_pairs (zs := (vs.zip (xs.map (eT f))).mergeSort (dataLe false (·.2))) (K := T.K) (C := C) fun b hb => rps_pairs r1 b (List.mem_mergeSort.mp hb)
      rw [key] at rr
      obtain ⟨E', r⟩ := E.freshO hq (by rw [List.length_map, List.length_mergeSort, List.length_zip]; omega) rr
      exact k _ C _ (Ex.refl C) E' r) hp
end
end J
namespace J
open PySem L2 PySem.Spec PyProof.Rows PySem.W
/-! ### going into a Let -/
theorem let_b {α : Type} {v : α} {f : α → Bool} (h : ∀ x, v = x → f x = true) : Let v f = true := h v rfl
theorem let_p {α : Type} {v : α} {f : α → Prop} (h : ∀ x, v = x → f x) : Let v f := h v rfl
theorem mapS_count {α β S : Type} (f : S → α → β × S) : ∀ (xs : List α) (s : S), (mapS f s xs).1.length = xs.length
  | [], s => rfl
  | x :: xs, s => by simp only [mapS, List.length_cons, mapS_count f xs]
/-! ### the order of data tells things apart; the least of them -/
theorem dataLt_trans (x y z : PyData) (h1 : dataLt x y = true) (h2 : dataLt y z = true) : dataLt x z = true := (listOrd itemOrd).trans _ _ _ h1 h2
theorem dataLt_neg (x y z : PyData) (h : dataLt x z = true) : dataLt x y = true ∨ dataLt y z = true := (listOrd itemOrd).negTrans _ _ _ h
def Tri {α : Type} (f : α → PyData) : Prop := ∀ a b, ltB f a b = false → ltB f b a = false → a = b
theorem tri_int : Tri PyData.int := fun a b h1 h2 => by
  rw [ltB_int] at h1 h2
  have := of_decide_eq_false h1
  have := of_decide_eq_false h2
  omega
theorem tri_str : Tri PyData.str := fun a b h1 h2 => by
  unfold ltB at h1 h2
  rw [dataLt_str] at h1 h2
  have e : b.cps.toList = a.cps.toList := List.le_antisymm (of_decide_eq_false h1) (of_decide_eq_false h2)
  cases a; cases b
  simp only at e
  rw [Array.toList_inj.mp e]
theorem tri_p2 {α β : Type} [DecidableEq α] [DecidableEq β] {f : α → PyData} {g : β → PyData} (F : AlkE f) (G : AlkE g) (Fe : EqE f) (Ge : EqE g) (tf : Tri f) (tg : Tri g) : Tri (eP2 f g) := fun p q h1 h2 => by
  rw [ltB_p2 F G Fe Ge] at h1 h2
  by_cases e : p.1 = q.1
  · rw [if_pos e] at h1
    rw [if_pos e.symm] at h2
    exact Prod.ext e (tg _ _ h1 h2)
  · rw [if_neg e] at h1
    rw [if_neg fun z => e z.symm] at h2
    exact absurd (tf _ _ h1 h2) e
theorem tri_ls {α : Type} [DecidableEq α] {f : α → PyData} (tf : Tri f) : ∀ xs ys : List α, ltLs f xs ys = false → ltLs f ys xs = false → xs = ys
  | [], [], _, _ => rfl
  | [], _ :: _, h, _ => by cases h
  | _ :: _, [], _, h => by cases h
  | x :: xs, y :: ys, h1, h2 => by
    unfold ltLs at h1 h2
    by_cases e : x = y
    · rw [if_pos e] at h1
      rw [if_pos e.symm] at h2
      rw [e, tri_ls tf xs ys h1 h2]
    · rw [if_neg e] at h1
      rw [if_neg fun z => e z.symm] at h2
      exact absurd (tf _ _ h1 h2) e
theorem tri_t {α : Type} [DecidableEq α] {f : α → PyData} (F : AlkE f) (Fe : EqE f) (tf : Tri f) : Tri (eT f) := fun xs ys h1 h2 => by
  rw [ltB_t F Fe] at h1 h2
  exact tri_ls tf xs ys h1 h2
theorem fold_min {α : Type} (f : α → PyData) : ∀ (xs : List α) (x : α), (xs.foldl (fun a y => if dataLt (f y) (f a) = true then y else a) x ∈ x :: xs) ∧ ∀ y ∈ x :: xs, ltB f y (xs.foldl (fun a y => if dataLt (f y) (f a) = true then y else a) x) = false
  | [], x => ⟨by simp, fun y hy => by rw [List.mem_singleton.mp hy]; exact ltB_irr f x⟩
  | z :: xs, x => by
    rw [List.foldl_cons]
    obtain ⟨h1, h2⟩ := fold_min f xs (if dataLt (f z) (f x) = true then z else x)
    generalize xs.foldl (fun a y => if dataLt (f y) (f a) = true then y else a) (if dataLt (f z) (f x) = true then z else x) = m at h1 h2 ⊢
    constructor
    · rcases List.mem_cons.mp h1 with h | h
      · rw [h]; split <;> simp
      · simp [h]
    · intro y hy
      have h0 := h2 _ (List.mem_cons_self ..)
      rcases List.mem_cons.mp hy with rfl | hy
      · by_cases q : dataLt (f z) (f y) = true
        · rw [if_pos q] at h0
          cases e : ltB f y m with
          | false => rfl
          | true =>
            have : ltB f z m = true := dataLt_trans _ _ _ q e
            rw [this] at h0; cases h0
        · rw [if_neg q] at h0; exact h0
      · rcases List.mem_cons.mp hy with rfl | hy
        · by_cases q : dataLt (f y) (f x) = true
          · rw [if_pos q] at h0; exact h0
          · rw [if_neg q] at h0
            cases e : ltB f y m with
            | false => rfl
            | true =>
              rcases dataLt_neg _ (f x) _ e with w | w
              · exact absurd w q
              · have : ltB f x m = true := w
                rw [this] at h0; cases h0
        · exact h2 y (by simp [hy])
theorem pyMin_mem {α : Type} [Inhabited α] {f : α → PyData} {xs : List α} (h : xs ≠ []) : pyMin f xs ∈ xs := by
  cases xs with
  | nil => exact absurd rfl h
  | cons x xs => exact (fold_min f xs x).1
theorem pyMin_le {α : Type} [Inhabited α] {f : α → PyData} {xs : List α} : ∀ y ∈ xs, ltB f y (pyMin f xs) = false := by
  cases xs with
  | nil => intro y hy; cases hy
  | cons x xs => exact (fold_min f xs x).2
/-- the least is one alone -/
theorem pyMin_eq {α : Type} [Inhabited α] {f : α → PyData} (t : Tri f) {xs : List α} {m : α} (hm : m ∈ xs) (h : ∀ y ∈ xs, ltB f y m = false) : pyMin f xs = m := by
  have hne : xs ≠ [] := by intro q; subst q; cases hm
  exact t _ _ (h _ (pyMin_mem hne)) (pyMin_le m hm)
/-! ### things of any kind -/
theorem tup_back {x : PyData} (h : isTup x = true) : (eT eD) ((dT dA) x) = x := by
  cases x <;> first | (cases h; done) | skip
  rename_i xs
  show PyData.tuple ((xs.map dA).map eD) = _
  rw [List.map_map, show (eD ∘ dA) = (id : PyData → PyData) from rfl, List.map_id]
theorem lst_back {x : PyData} (h : isLst x = true) : (eL eD) ((dL dA) x) = x := by
  cases x <;> first | (cases h; done) | skip
  rename_i xs
  show PyData.list ((xs.map dA).map eD) = _
  rw [List.map_map, show (eD ∘ dA) = (id : PyData → PyData) from rfl, List.map_id]
theorem str_back {y : PyData} (h : isStr y = true) : PyData.str (dS y) = y := by
  cases y <;> first | rfl | cases h
theorem int_back {y : PyData} (h : (J.isInt y && !isBoo y) = true) : PyData.int (dI y) = y := by
  cases y <;> simp_all [J.isInt, isBoo, dI]
theorem tup_of {x : PyData} (h : isTup x = true) : ∃ xs, x = .tuple xs := by
  cases x <;> first | exact ⟨_, rfl⟩ | cases h
theorem str_of {x : PyData} (h : isStr x = true) : ∃ xs, x = .str xs := by
  cases x <;> first | exact ⟨_, rfl⟩ | cases h
theorem dTA_tup (xs : List PyData) : (dT dA) (.tuple xs) = xs := by show xs.map dA = xs; exact List.map_id' xs
theorem dTA_enc {α : Type} (f : α → PyData) (xs : List α) : dT dA (eT f xs) = xs.map f := by
  show (xs.map f).map dA = _
  simp [dA, Function.comp_def]
theorem dTS_enc (t : List Str) : dT dS (eT PyData.str t) = t := by
  show (t.map _).map dS = _
  simp [dS, Function.comp_def]
/-- no dict anywhere, however deep -/
inductive Nice : Nat → PyData → Prop
  | none {n} : Nice n .none
  | bool {n b} : Nice n (.bool b)
  | int {n i} : Nice n (.int i)
  | str {n s} : Nice n (.str s)
  | list {n xs} : (∀ x ∈ xs, Nice n x) → Nice (n + 1) (.list xs)
  | tuple {n xs} : (∀ x ∈ xs, Nice n x) → Nice (n + 1) (.tuple xs)
theorem Nice.nd {n : Nat} {x : PyData} (h : Nice n x) : noDc x = true := by cases h <;> rfl
theorem Nice.of_tup {n : Nat} {xs : List PyData} (h : Nice (n + 1) (.tuple xs)) : ∀ x ∈ xs, Nice n x := by cases h; assumption
theorem Nice.of_tup0 {n : Nat} {xs : List PyData} (h : Nice n (.tuple xs)) : ∀ x ∈ xs, ∃ m, Nice m x := by
  cases h with
  | tuple h => exact fun x hx => ⟨_, h x hx⟩
theorem Nice.of_lst0 {n : Nat} {xs : List PyData} (h : Nice n (.list xs)) : ∀ x ∈ xs, ∃ m, Nice m x := by
  cases h with
  | list h => exact fun x hx => ⟨_, h x hx⟩
/-- the same, to be counted out -/
def niceB : Nat → PyData → Bool
  | 0, .list _ => false
  | 0, .tuple _ => false
  | n + 1, .list xs => xs.all (niceB n)
  | n + 1, .tuple xs => xs.all (niceB n)
  | _, .dict _ => false
  | _, _ => true
theorem nice_of : ∀ (n : Nat) (x : PyData), niceB n x = true → Nice n x
  | 0, .none, _ => .none
  | 0, .bool _, _ => .bool
  | 0, .int _, _ => .int
  | 0, .str _, _ => .str
  | 0, .list _, h => by simp [niceB] at h
  | 0, .tuple _, h => by simp [niceB] at h
  | 0, .dict _, h => by simp [niceB] at h
  | n + 1, .none, _ => .none
  | n + 1, .bool _, _ => .bool
  | n + 1, .int _, _ => .int
  | n + 1, .str _, _ => .str
  | n + 1, .list xs, h => .list fun x hx => nice_of n x (by simp only [niceB, List.all_eq_true] at h; exact h x hx)
  | n + 1, .tuple xs, h => .tuple fun x hx => nice_of n x (by simp only [niceB, List.all_eq_true] at h; exact h x hx)
  | n + 1, .dict _, h => by simp [niceB] at h
theorem nice_all {n : Nat} {xs : List PyData} (h : xs.all (niceB n) = true) : ∀ x ∈ xs, Nice n x := fun x hx => nice_of n x (by rw [List.all_eq_true] at h; exact h x hx)
theorem pick {α : Type} [Inhabited α] {xs : List α} {P : α → Prop} (h : ∀ x ∈ xs, P x) (d : Dr) (n : Nat) (hn : xs.length = n) (h0 : 0 < n) : P (gI xs (nxt d (n : Int)).1) := by
  have a1 := nxt_lo (d := d) (many := (n : Int)) (by omega)
  have a2 := nxt_hi (d := d) (many := (n : Int)) (by omega)
  exact h _ (gI_mem ⟨by omega, by omega⟩)
theorem pick_in {n : Nat} (d : Dr) (h0 : 0 < n) : inR n (nxt d (n : Int)).1 := by
  have a1 := nxt_lo (d := d) (many := (n : Int)) (by omega)
  have a2 := nxt_hi (d := d) (many := (n : Int)) (by omega)
  exact ⟨by omega, by omega⟩
end J
namespace J
open PySem L2 PySem.Spec PyProof.Rows
/-! ### comprehensions over a list that the def owns -/
section
variable {T : TC} {a b e : Expr} {es : List Expr} {env e0 e1 e2 e3 : Env'} {pos p : Pos} {x y z : PyData} {ds : List PyData} {K : PySem.W.Frag} {R C C' H H' : Hp} {σ σ' : L2.St} {v : V}
/-- J yields the items while the comprehension's environments stand -/
def tIJE (K : PySem.W.Frag) (e0 : Env') (ev : Nat → Env') (items : List PyData) : TI := fun σ H Rr' => ∃ R C, EnvC K R C e0 σ H ∧ ∀ J C1 H1, Ex C C1 → EnvC K R C1 (ev 0) σ H1 → items.length ≤ LN →
  (∀ n C' H', Ex C1 C' → EnvC K R C' (ev n) σ H' → J.stop items.length H' ∧ ∀ i d, items[i]? = some d → J.go i H' ∧ ∀ x H3, J.yld i H' x H3 → ∃ C2, Ex C' C2 ∧ EnvC K R C2 (ev n) σ H3 ∧ (∀ D, H3 D = none → H' D = none) ∧ (∀ D o, H' D = some o → H3 D = some o) ∧ (∀ D o, H' D = some o → C' D = none → C2 D = none) ∧ Rp K C2 x d) → Rr' J H1
def JIE (T : TC) (tg iter : Expr) (e0 : Env') (ev : Nat → Env') (items : List PyData) : Prop := ∀ X, CT X T → PI X tg iter (tIJE X.K e0 ev items)
variable {tg : Expr}
theorem jie_var (i : Nat) {nm : Str} {xs : List PyData} {k0 : Option Addr} (he : e0[i]? = some (.o k0 (.list xs)) := by rfl) (hN : T.N[i]? = some nm := by rfl) (hv : visB T.sc nm = true := by rfl) (hd : (nm == ("__debug__" : Str)) = false := by decide) (hcd : (nm == ("__classdict__" : Str)) = false := by decide) : JIE T tg (.Name nm p) e0 (fun _ => e0) xs := fun X hX => by
  refine (pi_list (pe_var (i := i) (by rw [hX.N]; exact hN) (by rw [hX.sc]; exact vis_of hv) hd hcd)).wk fun σ H Rr' ⟨R, C, E, k⟩ => ?_
  obtain ⟨q, s0, h0, h2, h3, vs, h4, l, r⟩ := E.own i k0 _ he
  refine ⟨.ref q, s0, q, rfl, ⟨vs, SqL.of h4⟩, k _ C H (Ex.refl C) E (by rw [← r.len]; exact l) fun n C' H' c E' => ?_⟩
  obtain ⟨q', s1, _, g2, g3, ws, g4, l', r'⟩ := E'.own i k0 _ he
  rw [s0] at s1; cases s1
  refine ⟨⟨ws, SqL.of g4, by rw [r'.len]; exact Nat.le_refl _⟩, fun j d hd => ?_⟩
  obtain ⟨w, hw, rw⟩ := r'.getD hd
  refine ⟨⟨_, w, SqL.of g4, hw⟩, fun x H3 hy => ?_⟩
  obtain ⟨rfl, hx⟩ := hy
  have := hx _ (SqL.of g4)
  rw [hw] at this; cases this
  exact ⟨C', Ex.refl C', E', fun _ h => h, fun _ _ h => h, fun _ _ _ h => h, rw⟩
end
section
variable {T : TC} {a b e : Expr} {es : List Expr} {env e0 e1 e2 e3 : Env'} {pos p : Pos} {x y z : PyData} {ds : List PyData} {K : PySem.W.Frag} {R C C' H H' : Hp} {σ σ' : L2.St} {v : V}
/-- the reading of a comprehension -/
theorem lc_runE {X : Cx} (hX : CT X T) {tg elt : Expr} {ifs : List Expr} {scope : Scope} {own : List (Str × Nat)} {xs : List PyData} (ev : Nat → Env') (outs : Nat → List PyData) (o0 : outs 0 = [])
    (hu : ∀ i, i ≤ xs.length → unk (ev i) (own.map (·.2))) (turn : ∀ i d, xs[i]? = some d → LcTurn T scope tg elt ifs (own.map (·.2)) d (ev i) (ev (i + 1)) (outs i) (outs (i + 1))) :
    ∀ (σ : L2.St) (H : Hp) (Q : VK), tJ X.K e0 (ev xs.length) (.o (.list (outs xs.length))) σ H Q → tLc (tIJE X.K e0 ev xs) (tTgJ (T.blk scope) X.K tg) (tIfsJ (T.blk scope) X.K ifs) (tEltJ (T.blk scope) X.K elt) (own.map (·.2)) σ H Q := by
  rintro σ H Q ⟨R, C, E, k⟩
  refine ⟨R, C, E, fun J C1 H1 c1 E1 hln io D hD => ?_⟩
  have olen : ∀ i, i ≤ xs.length → (outs i).length ≤ i := by
    intro i
    induction i with
    | zero => intro _; rw [o0]; exact Nat.le_refl _
    | succ i ih =>
      intro hi
      have hi' : i < xs.length := hi
      obtain ⟨js, F1, F2, c, _, _, _, ht, hf⟩ := (turn i _ (List.getElem?_eq_getElem hi')).ex
      cases c with
      | true =>
        obtain ⟨_, z, _, _, e⟩ := ht rfl
        rw [e, List.length_append]
        have := ih (Nat.le_of_lt hi')
        simp; omega
      | false =>
        rw [(hf rfl).2]
        have := ih (Nat.le_of_lt hi')
        omega
  refine ⟨fun i m H' => i + m = xs.length ∧ ∃ C' acc, Ex C1 C' ∧ EnvC X.K R C' (ev i) σ H' ∧ H' D = some (.lst acc) ∧ C' D = none ∧ R D = none ∧ NotOwn (ev i) σ D ∧ Rps X.K C' acc (outs i), ⟨xs.length, by omega, C1, [], Ex.refl _, E1.newO hD, upd_same, E1.cN hD, E1.rN hD, E1.notOwn hD, by rw [o0]; exact .nil⟩, ?_⟩
  rintro i m H' ⟨him, C', acc, cc, E', hHD, cD, rD, nD, rp⟩
  obtain ⟨st, go⟩ := io i C' H' cc E'
  by_cases hi : i < xs.length
  · right
    obtain ⟨g1, g2⟩ := go i xs[i] (List.getElem?_eq_getElem hi)
    refine ⟨g1, fun H2 => ∃ C2 acc2, Ex C1 C2 ∧ EnvC X.K R C2 (ev (i + 1)) σ H2 ∧ H2 D = some (.lst acc2) ∧ C2 D = none ∧ R D = none ∧ NotOwn (ev (i + 1)) σ D ∧ Rps X.K C2 acc2 (outs (i + 1)), fun H2 ⟨C2, acc2, h⟩ => ⟨m - 1, by omega, by omega, C2, acc2, h⟩, fun w H2 hy => ?_⟩
    obtain ⟨C2, c2, E2, n1, n2, n3, rw⟩ := g2 w H2 hy
    have hH2D := n2 D _ hHD
    have cD2 : C2 D = none := n3 D _ hHD cD
    obtain ⟨js, F1, F2, c, hjs, jg, jt, ht, hf⟩ := (turn i xs[i] (List.getElem?_eq_getElem hi)).ex
    -- with the new list as a part of what stands
    have lift : ∀ {R0 C0 : Hp} {en : Env'} {s0 : L2.St} {H0 : Hp} {o : HO}, EnvC X.K R0 C0 en s0 H0 → H0 D = some o → C0 D = none → NotOwn en s0 D → EnvC X.K (upd R0 D o) C0 en s0 H0 := fun {R0 C0 en s0 H0 o} E0 h1 h2 h3 => by
      refine ⟨E0.len, E0.cH, fun q u e => ?_, fun q e => ?_, E0.dat, fun j w x e => ?_, E0.apart, E0.lk⟩
      · by_cases h : q = D
        · subst h; rw [upd_same] at e; cases e; exact h1
        · rw [upd_ne h] at e; exact E0.rH _ _ e
      · by_cases h : q = D
        · subst h; exact h2
        · rw [upd_ne h] at e; exact E0.rc _ e
      · obtain ⟨q, k1, k0, k2, k3, k4⟩ := E0.own j w x e
        have hq : q ≠ D := fun h => by subst h; exact h3 j w x e k1
        exact ⟨q, k1, k0, k2, by rw [upd_ne hq]; exact k3, k4⟩
    have unlift : ∀ {C0 : Hp} {en : Env'} {s0 : L2.St} {H0 : Hp} {o : HO}, EnvC X.K (upd R D o) C0 en s0 H0 → EnvC X.K R C0 en s0 H0 ∧ H0 D = some o ∧ C0 D = none ∧ NotOwn en s0 D := fun {C0 en s0 H0 o} E0 => by
      refine ⟨⟨E0.len, E0.cH, fun q u e => ?_, fun q e => ?_, E0.dat, fun j w x e => ?_, E0.apart, E0.lk⟩, E0.rH D o upd_same, E0.rc D (by rw [upd_same]; simp), fun j w x e s1 => ?_⟩
      · by_cases h : q = D
        · subst h; rw [rD] at e; cases e
        · exact E0.rH q u (by rw [upd_ne h]; exact e)
      · by_cases h : q = D
        · subst h; exact absurd rD e
        · exact E0.rc q (by rw [upd_ne h]; exact e)
      · obtain ⟨q, k1, k0, k2, k3, k4⟩ := E0.own j w x e
        have hq : q ≠ D := fun h => by subst h; rw [upd_same] at k3; cases k3
        exact ⟨q, k1, k0, k2, by rw [upd_ne hq] at k3; exact k3, k4⟩
      · obtain ⟨q, k1, k0, k2, k3, k4⟩ := E0.own j w x e
        rw [k1] at s1; cases s1
        rw [upd_same] at k3; cases k3
    have E2' := lift (E2.wipe (hu i (Nat.le_of_lt hi))) hH2D cD2 (fun j w x e s1 => nD j w x e (by
      rw [wipe_get] at s1
      split at s1
      · cases q : σ[j]? <;> rw [q] at s1 <;> cases s1
      · exact s1))
    refine ⟨js, xs[i], ev i, F1, jg, _, C2, E2', rw, fun σ3 s3 l3 E3 => ⟨?_, F1, F2, c, jt, _, C2, E3, fun C4 H4 c4 E4 => ?_⟩⟩
    · have := wipe_eq (σ := L2.wipe σ (own.map (·.2))) (σ' := σ3) (vs := own.map (·.2)) l3 fun j hj => s3 j fun h => hj (hjs h)
      rw [this]
      apply List.ext_getElem?
      intro q
      rw [wipe_get, wipe_get]
      split
      · cases σ[q]? <;> rfl
      · rfl
    have fin : ∀ {C5 H5 : Hp} {en : Env'}, Le (ev (i + 1)) en → EnvC X.K (upd R D (.lst acc)) C5 en σ3 H5 → EnvC X.K R C5 (ev (i + 1)) σ H5 ∧ H5 D = some (.lst acc) ∧ C5 D = none ∧ NotOwn (ev (i + 1)) σ D := fun {C5 H5 en} le E5 => by
      have hU := hu (i + 1) hi
      have E5' := (E5.le le).resig (σ' := σ) (by rw [l3, wipe_length]) fun j x e hx => by
        have hj : j ∉ own.map (·.2) := fun h => hx (hU j h x e)
        rw [s3 j (fun h => hj (hjs h)), wipe_get, if_neg hj]
      exact unlift E5'
    cases c with
    | true =>
      dsimp only
      rw [if_pos rfl]
      obtain ⟨F3, z, je, le, eo⟩ := ht rfl
      refine ⟨F2, F3, .d z, je, _, C4, E4, fun y C5 H5 c5 E5 r5 => ?_⟩
      obtain ⟨E6, h6, cD6, no6⟩ := fin le E5
      refine ⟨acc, h6, lnS' (by rw [rp.len]; have := olen i (Nat.le_of_lt hi); have : LN = 16777216 := rfl; have hln' : xs.length ≤ LN := hln; omega), C5, acc ++ [y], (cc.trans c2).trans (c4.trans c5), ?_, upd_same, cD6, rD, no6, by rw [eo]; exact (rp.mono ((c2.trans c4).trans c5)).snoc r5⟩
      -- the list grown: nobody else looks at it
      refine ⟨E6.len, fun q u e => by rw [upd_ne (ne_of_none e cD6)]; exact E6.cH _ _ e, fun q u e => by rw [upd_ne (ne_of_none e rD)]; exact E6.rH _ _ e, E6.rc, E6.dat, fun j w x e => ?_, E6.apart, E6.lk⟩
      obtain ⟨q, k1, k0, k2, k3, k4⟩ := E6.own j w x e
      have hq : q ≠ D := fun h => by subst h; exact no6 j w x e k1
      exact ⟨q, k1, k0, k2, k3, by rw [upd_ne hq]; exact k4⟩
    | false =>
      dsimp only
      rw [if_neg Bool.false_ne_true]
      obtain ⟨le, eo⟩ := hf rfl
      obtain ⟨E6, h6, cD6, no6⟩ := fin le E4
      exact ⟨C4, acc, (cc.trans c2).trans c4, E6, h6, cD6, rD, no6, by rw [eo]; exact rp.mono (c2.trans c4)⟩
  · left
    have ei : i = xs.length := by omega
    subst ei
    exact ⟨st, k (.ref D) C' H' (c1.trans cc) E' ⟨D, rfl, cD, rD, nD, acc, hHD, by rw [rp.len]; exact Nat.le_trans (olen _ (Nat.le_refl _)) hln, rp⟩⟩
theorem je_lcGE {tg iter elt : Expr} {ifs : List Expr} {scope : Scope} {xs : List PyData} (own : List (Str × Nat)) (ev : Nat → Env') (outs : Nat → List PyData) (hi : JIE T tg iter e0 ev xs) (hnd : T.N.Nodup) (ok : blkC T.N T.sc scope own = true) (o0 : outs 0 = [])
    (hu : ∀ i, i ≤ xs.length → unk (ev i) (own.map (·.2))) (turn : ∀ i d, xs[i]? = some d → LcTurn T scope tg elt ifs (own.map (·.2)) d (ev i) (ev (i + 1)) (outs i) (outs (i + 1))) (hs : ∀ (v : Env) x, foldedSetIterable iter v x = pure x := by intro _ _; rfl) :
    JE T (.ListComp elt [⟨tg, iter, ifs, 0⟩] scope pos) e0 (ev xs.length) (.o (.list (outs xs.length))) := fun X hX =>
  (pe_lc (own := own) (wi := tIJE X.K e0 ev xs) (g := tTgJ (T.blk scope) X.K tg) (tt := tIfsJ (T.blk scope) X.K ifs) (te := tEltJ (T.blk scope) X.K elt) hX.calm (by rw [hX.N]; exact hnd) (hi X hX) (by rw [hX.N, hX.sc]; exact blkOk_by ok)
    (fun s H C cl fp => ⟨fun pins s1 σ H1 v u Q I r ⟨js, d, F1, F2, jg, q⟩ => (jg _ (hX.blk scope s H C cl fp)).run pins s1 σ H1 v u Q I r q⟩)
    (fun s H C cl fp => ⟨fun pins s1 σ H1 Q I ⟨F1, F2, c, jt, q⟩ => (jt _ (hX.blk scope s H C cl fp)).run pins s1 σ H1 Q I q⟩)
    (fun s H C cl fp => ⟨fun pins s1 σ H1 Q I ⟨F1, F2, r, je, q⟩ => (je _ (hX.blk scope s H C cl fp)).run pins s1 σ H1 Q I q⟩) (hs X.env)).wk (lc_runE hX ev outs o0 hu turn)


variable {α β : Type} {tg iter elt : Expr} {ifs : List Expr} {scope : Scope} {enc : α → PyData} {dec : β → PyData} {xs : List α}
theorem je_lcB (own : List (Str × Nat)) (p : α → Bool) (g : α → PyData) (hi : JIE T tg iter e0 (fun _ => e0) (xs.map enc)) (hnd : T.N.Nodup) (ok : blkC T.N T.sc scope own = true) (hu : unk e0 (own.map (·.2)))
    (turn : ∀ x, x ∈ xs → LcP T scope tg elt ifs own e0 (enc x) (p x) (g x)) (hs : ∀ (v : Env) x, foldedSetIterable iter v x = pure x := by intro _ _; rfl) : JE T (.ListComp elt [⟨tg, iter, ifs, 0⟩] scope pos) e0 e0 (.o (.list ((xs.filter p).map g))) := by
  have := je_lcGE (pos := pos) (elt := elt) (ifs := ifs) (scope := scope) own (fun _ => e0) (fun i => ((xs.take i).filter p).map g) hi hnd ok (by simp) (fun _ _ => hu) (lcp_turn turn) hs
  simpa using this
theorem je_lcB0 (own : List (Str × Nat)) (g : α → β) (hi : JIE T tg iter e0 (fun _ => e0) (xs.map enc)) (hnd : T.N.Nodup) (ok : blkC T.N T.sc scope own = true) (hu : unk e0 (own.map (·.2)))
    (turn : ∀ x, x ∈ xs → LcP T scope tg elt [] own e0 (enc x) true (dec (g x))) (hs : ∀ (v : Env) x, foldedSetIterable iter v x = pure x := by intro _ _; rfl) : JE T (.ListComp elt [⟨tg, iter, [], 0⟩] scope pos) e0 e0 (.o (.list ((xs.map g).map dec))) := by
  have := je_lcB (pos := pos) own (fun _ => true) (fun x => dec (g x)) hi hnd ok hu turn hs
  rw [show xs.filter (fun _ => true) = xs from List.filter_eq_self.mpr (fun _ _ => rfl)] at this
  rw [List.map_map]; exact this
theorem je_lcB1 (own : List (Str × Nat)) (p : α → Bool) (g : α → β) (hi : JIE T tg iter e0 (fun _ => e0) (xs.map enc)) (hnd : T.N.Nodup) (ok : blkC T.N T.sc scope own = true) (hu : unk e0 (own.map (·.2)))
    (turn : ∀ x, x ∈ xs → LcP T scope tg elt ifs own e0 (enc x) (p x) (dec (g x))) (hs : ∀ (v : Env) x, foldedSetIterable iter v x = pure x := by intro _ _; rfl) : JE T (.ListComp elt [⟨tg, iter, ifs, 0⟩] scope pos) e0 e0 (.o (.list (((xs.filter p).map g).map dec))) := by
  have := je_lcB (pos := pos) own p (fun x => dec (g x)) hi hnd ok hu turn hs
  rw [List.map_map]; exact this
end
/-! ### sum of a tuple of whole numbers -/
section
variable {prog : Program} {w : World} {A : Around} {E : Value → Shared → Prop} {s : Shared}
theorem sum_rawT {l : Addr} {its : List Value} {ns : List Int} {Q : Value → Shared → Prop} (hh : A.handled = none) (hl : s.heap.IsTuple l its.toArray) (hi : IntsAre its ns)
    (h : ∀ h' tk t', (∀ b o, s.heap.get? b = some o → h'.get? b = some o) → Q (.int ns.sum t') { s with heap := h', toks := tk }) : wpAny (model prog w) A (call (.builtin "sum") [.ref l]) Q E s := by
  obtain ⟨xs, e⟩ := hi.allInts.items
  have hn : numsOf (intItems xs).toList = ns := by rw [← e]; exact hi.numsOf
  rw [nums_intItems] at hn
  rw [e] at hl
  refine PySem.W.ktm_sumG hh hl fun h' tk t' hk => ?_
  have := h h' tk t' hk
  rw [preSum_eq, List.take_of_length_le (by simp), hn]; exact this
end
section
variable {X : Cx}
def rSumT (K : PySem.W.Frag) : List V → Hp → VK → Prop := fun vs H Q => ∃ (a : Addr) (ns : List Int), vs = [V.ref a] ∧ SqT K H a (ns.map V.int) ∧ Q (.int ns.sum) H
theorem cr_sumT (hc : X.calm = true) : CallR X (.builtin "sum") (rSumT X.K) := by
  intro pins s σ H vs us Q I r h
  obtain ⟨a, ns, rfl, hs, q⟩ := h
  obtain ⟨its, rv, hl, _⟩ := I.tuple hs
  rw [Vals.ref1 r]
  exact sum_rawT (I.ok.hd hc) hl rv.ints fun h' tk t' hk => ⟨.int _, H, I.kept hk, ⟨_, rfl⟩, q⟩
end
section
variable {T : TC} {a b e : Expr} {es : List Expr} {env e0 e1 e2 e3 : Env'} {pos p : Pos}
theorem je_sumT {ns : List Int} (hg : glB T.sc "sum" = true) (hm : T.mg "sum" = none) (ha : JE T e e0 e1 (.b (.tuple (ns.map .int)))) (hp : Plain e [] pos := by exact ⟨fun _ => rfl, fun _ => rfl⟩) : JE T (.Call (.Name "sum" p) [e] [] pos) e0 e1 (.d (.int ns.sum)) :=
  je_bi1 (r := rSumT) (fun X hX => cr_sumT hX.calm) hg hm (by decide +kernel) ha (fun R C H env σ v Q E hv k => by
    obtain ⟨p, vs, rfl, h1, c1, l1, r1⟩ := rb_tup E hv
    have e := r1.int
    subst e
    exact ⟨p, ns, rfl, h1, k _ C H (Ex.refl C) E (.int _)⟩) hp
end
/-! ### things as things or None -/
section
variable {T : TC} {e : Expr} {e0 e1 : Env'} {α : Type} {enc : α → PyData} {xs : List α}
theorem some_map (enc : α → PyData) (xs : List α) : (xs.map some).map (eO enc) = xs.map enc := by rw [List.map_map]; rfl
theorem je_soLo (h : JE T e e0 e1 (.o (.list (xs.map enc)))) : JE T e e0 e1 (.o (.list ((xs.map some).map (eO enc)))) := by rw [some_map]; exact h
theorem je_soLd (h : JE T e e0 e1 (.d (.list (xs.map enc)))) : JE T e e0 e1 (.d (.list ((xs.map some).map (eO enc)))) := by rw [some_map]; exact h
theorem je_soLb (h : JE T e e0 e1 (.b (.list (xs.map enc)))) : JE T e e0 e1 (.b (.list ((xs.map some).map (eO enc)))) := by rw [some_map]; exact h
theorem je_soTd (h : JE T e e0 e1 (.d (.tuple (xs.map enc)))) : JE T e e0 e1 (.d (.tuple ((xs.map some).map (eO enc)))) := by rw [some_map]; exact h
theorem je_soTb (h : JE T e e0 e1 (.b (.tuple (xs.map enc)))) : JE T e e0 e1 (.b (.tuple ((xs.map some).map (eO enc)))) := by rw [some_map]; exact h
end
/-! ### x in t, t a tuple of data of any kind -/
section
variable {X : Cx}
def rInTD (K : PySem.W.Frag) : R2 := fun x y H Q => ∃ d ds, Dp K H x d ∧ Dp K H y (.tuple ds) ∧ SeqAt.shaped d = true ∧ SeqAt.shaped (.list ds) = true ∧ Q (.bl (ds.any fun z => PyData.eqv z d)) H
def rNotInTD (K : PySem.W.Frag) : R2 := fun x y H Q => ∃ d ds, Dp K H x d ∧ Dp K H y (.tuple ds) ∧ SeqAt.shaped d = true ∧ SeqAt.shaped (.list ds) = true ∧ Q (.bl (!ds.any fun z => PyData.eqv z d)) H
theorem op_inTD (hu : X.A.units + 65 < cLine) : OpR X (compareOp .In) (rInTD X.K) := by
  intro pins s σ H x y v u Q I rx ry h
  obtain ⟨d, ds, hd, he, sd, se, q⟩ := h
  obtain ⟨as, r1⟩ := Dp.reads I d x v hd rx
  obtain ⟨bs, r2⟩ := Dp.reads I (.tuple ds) y u he ry
  exact SeqAt.in_tuple_reads r2 r1 (SeqAt.canLay_of_shaped se) (SeqAt.canLay_of_shaped sd) (room_in_shaped sd hu) ⟨.bl _, H, I, rfl, q⟩
theorem op_notInTD (hu : X.A.units + 65 < cLine) : OpR X (compareOp .NotIn) (rNotInTD X.K) := by
  intro pins s σ H x y v u Q I rx ry h
  obtain ⟨d, ds, hd, he, sd, se, q⟩ := h
  obtain ⟨as, r1⟩ := Dp.reads I d x v hd rx
  obtain ⟨bs, r2⟩ := Dp.reads I (.tuple ds) y u he ry
  exact SeqAt.notIn_tuple_reads r2 r1 (SeqAt.canLay_of_shaped se) (SeqAt.canLay_of_shaped sd) (room_in_shaped sd hu) ⟨.bl _, H, I, rfl, q⟩
end
section
variable {T : TC} {a b : Expr} {e0 e1 e2 : Env'} {α : Type} {enc : α → PyData}
theorem shaped_tl {K : PySem.W.Frag} {C : Hp} {v : V} {ys : List PyData} (r : Rp K C v (.tuple ys)) (sy : shN 64 (.list ys) = true) : SeqAt.shaped (.list ys) = true := by
  have s1 : shN 64 (.tuple ys) = true := by simpa [shN] using sy
  have := r.shaped s1
  simpa [SeqAt.shaped, PyData.canLay0, PyData.depth] using this
theorem cj_inTBd [DecidableEq α] {x : α} {ys : List α} (h : JE2 T a b e0 e2 (enc x) (.tuple (ys.map enc))) (sh : ShE 63 enc) (sh' : ShE 64 enc) (eq : EqE enc) (hm : behindInMarks .In b = false := by rfl) : CJ T .In a b e0 e2 (inB x ys) := by
  have sy := sh_l sh ys
  have sx := sh' x
  have : CJ T .In a b e0 e2 ((ys.map enc).any fun z => PyData.eqv z (enc x)) := cj_mk (r := rInTD) (fun X hX => op_inTD (by have := hX.room.un; omega)) h (fun R C H env σ u v Q E hu hv k =>
    ⟨enc x, ys.map enc, (rb_rp E hu).dp' sx, (rb_rp E hv).dp' (by simpa [shN] using sy), (rb_rp E hu).shaped sx, shaped_tl (rb_rp E hv) sy, k _ C H (Ex.refl C) E (.bl _)⟩) hm
  rw [any_eqE eq] at this; exact this
theorem cj_notInTBd [DecidableEq α] {x : α} {ys : List α} (h : JE2 T a b e0 e2 (enc x) (.tuple (ys.map enc))) (sh : ShE 63 enc) (sh' : ShE 64 enc) (eq : EqE enc) (hm : behindInMarks .NotIn b = false := by rfl) : CJ T .NotIn a b e0 e2 (!inB x ys) := by
  have sy := sh_l sh ys
  have sx := sh' x
  have : CJ T .NotIn a b e0 e2 (!(ys.map enc).any fun z => PyData.eqv z (enc x)) := cj_mk (r := rNotInTD) (fun X hX => op_notInTD (by have := hX.room.un; omega)) h (fun R C H env σ u v Q E hu hv k =>
    ⟨enc x, ys.map enc, (rb_rp E hu).dp' sx, (rb_rp E hv).dp' (by simpa [shN] using sy), (rb_rp E hu).shaped sx, shaped_tl (rb_rp E hv) sy, k _ C H (Ex.refl C) E (.bl _)⟩) hm
  rw [any_eqE eq] at this; exact this
end
/-! ### sorted lists are one alone -/
theorem pySort_eq {α : Type} {f : α → PyData} (t : Tri f) {xs ys : List α} (h : xs.Perm ys) (s : ys.Pairwise fun a b => ltB f b a = false) : pySort f xs = ys :=
  List.Perm.eq_of_pairwise (le := fun a b => ltB f b a = false) (fun a b _ _ h1 h2 => t a b h2 h1) (pySort_sorted f xs) s ((pySort_perm f xs).trans h)
theorem flat_congr {α β : Type} {f g : α → List β} : ∀ {xs : List α}, (∀ x ∈ xs, f x = g x) → xs.flatMap f = xs.flatMap g
  | [], _ => rfl
  | x :: xs, h => by rw [List.flatMap_cons, List.flatMap_cons, h x (by simp), flat_congr fun y hy => h y (by simp [hy])]
/-! ### things as things of any kind -/
section
variable {T : TC} {e : Expr} {e0 e1 : Env'} {α : Type} {enc : α → PyData} {xs : List α}
theorem any_map (ds : List PyData) : ds.map eD = ds := List.map_id' ds
theorem je_anyLo (h : JE T e e0 e1 (.o (.list (xs.map enc)))) : JE T e e0 e1 (.o (.list ((xs.map enc).map eD))) := by rw [any_map]; exact h
theorem je_anyLd (h : JE T e e0 e1 (.d (.list (xs.map enc)))) : JE T e e0 e1 (.d (.list ((xs.map enc).map eD))) := by rw [any_map]; exact h
theorem je_anyLb (h : JE T e e0 e1 (.b (.list (xs.map enc)))) : JE T e e0 e1 (.b (.list ((xs.map enc).map eD))) := by rw [any_map]; exact h
theorem je_anyTd (h : JE T e e0 e1 (.d (.tuple (xs.map enc)))) : JE T e e0 e1 (.d (.tuple ((xs.map enc).map eD))) := by rw [any_map]; exact h
theorem je_anyTb (h : JE T e e0 e1 (.b (.tuple (xs.map enc)))) : JE T e e0 e1 (.b (.tuple ((xs.map enc).map eD))) := by rw [any_map]; exact h
end
end J
namespace J
open PySem L2 PySem.Spec PyProof.Rows PySem.W
section
variable {T : TC} {a b c e : Expr} {es : List Expr} {env e0 e1 e2 e3 : Env'} {pos p p1 p2 p3 : Pos} {x y z : PyData}
/-! ### tests whose later operands draw -/
theorem jw_orD {c c' : Bool} {rest : List Expr} (h : JT T a e0 e1 c) (h' : c = false → JW T (.BoolOp .Or (b :: rest) pos) e1 e2 c') (ht : c = true → Le e3 e1) (hf : c = false → Le e3 e2) : JW T (.BoolOp .Or (a :: b :: rest) pos) e0 e3 (c || c') := fun X hX => by
  cases c with
  | false => exact (pw_or (h X hX) (h' rfl X hX)).wk fun σ H Q ⟨R, C, E, k⟩ => ⟨R, C, E, fun C' H' c1 E' => by
      show tTJ X.K e1 e2 c' σ H' Q
      exact ⟨R, C', E', fun C2 H2 c2 E2 => k C2 H2 (c1.trans c2) (E2.le (hf rfl))⟩⟩
  | true => exact (pw_or (h X hX) pw_dead).wk fun σ H Q ⟨R, C, E, k⟩ => ⟨R, C, E, fun C' H' c1 E' => k C' H' c1 (E'.le (ht rfl))⟩
theorem jw_andD {c c' : Bool} {rest : List Expr} (h : JT T a e0 e1 c) (h' : c = true → JW T (.BoolOp .And (b :: rest) pos) e1 e2 c') (ht : c = false → Le e3 e1) (hf : c = true → Le e3 e2) : JW T (.BoolOp .And (a :: b :: rest) pos) e0 e3 (c && c') := fun X hX => by
  cases c with
  | true => exact (pw_and (h X hX) (h' rfl X hX)).wk fun σ H Q ⟨R, C, E, k⟩ => ⟨R, C, E, fun C' H' c1 E' => by
      show tTJ X.K e1 e2 c' σ H' Q
      exact ⟨R, C', E', fun C2 H2 c2 E2 => k C2 H2 (c1.trans c2) (E2.le (hf rfl))⟩⟩
  | false => exact (pw_and (h X hX) pw_dead).wk fun σ H Q ⟨R, C, E, k⟩ => ⟨R, C, E, fun C' H' c1 E' => k C' H' c1 (E'.le (ht rfl))⟩
end
section
variable {T : TC} {a b c e : Expr} {es : List Expr} {env e0 e1 e2 e3 : Env'} {pos p p1 p2 p3 : Pos} {x y z : PyData}
theorem je_andD {c c' : Bool} {rest : List Expr} (h : JE T a e0 e1 (.d (.bool c))) (h' : c = true → JE T (.BoolOp .And (b :: rest) pos) e1 e2 (.d (.bool c'))) (ht : c = false → Le e3 e1) (hf : c = true → Le e3 e2) : JE T (.BoolOp .And (a :: b :: rest) pos) e0 e3 (.d (.bool (c && c'))) := fun X hX => by
  cases c with
  | true =>
    refine (pe_and (h X hX) (h' rfl X hX)).wk fun σ H Q ⟨R, C, E, k⟩ => ⟨R, C, E, fun v C1 H1 c1 E1 r1 => ?_⟩
    cases r1
    refine ⟨true, rfl, ?_⟩
    simp only [if_true]
    exact ⟨R, C1, E1, fun w C2 H2 c2 E2 r2 => k w C2 H2 (c1.trans c2) (E2.le (hf rfl)) r2⟩
  | false =>
    refine (pe_and (h X hX) pe_dead).wk fun σ H Q ⟨R, C, E, k⟩ => ⟨R, C, E, fun v C1 H1 c1 E1 r1 => ?_⟩
    cases r1
    refine ⟨false, rfl, ?_⟩
    simp only [Bool.false_eq_true, if_false]
    exact k _ C1 H1 c1 (E1.le (ht rfl)) (.bl false)
end
/-! ### text * n -/
def repS (x : Str) (n : Int) : Str := ⟨(List.replicate n.toNat x.cps).foldl (· ++ ·) #[]⟩
structure RepS (x : Str) (n : Int) : Prop where
  lo : 2 ≤ n
  hi : n ≤ 1000
  ne : (x.length == 0) = false
  sm : x.length ≤ 1000
  ln : (repS x n).length ≤ 1000000
  ok : sOk (repS x n)
section
variable {X : Cx}
def rRepS : R2 := fun x y H Q => ∃ s n, x = .str s ∧ y = .int n ∧ RepS s n ∧ Q (.str (repS s n)) H
theorem op_repS : OpR X (binaryOp .Mult) rRepS := by
  intro pins s σ H x y v u Q I rx ry h
  obtain ⟨z, n, rfl, rfl, k, q⟩ := h
  obtain ⟨t, rfl⟩ := rx
  obtain ⟨t', rfl⟩ := ry
  obtain ⟨h1, h2, h3, h4, h5, h6⟩ := k
  have c0 : (decide (n < -(2 ^ 63 : Int)) || decide (n ≥ 2 ^ 63)) = false := by
    rw [decide_eq_false (by omega), decide_eq_false (by omega)]; rfl
  have hm : ((z.length : Nat) : Int) * n ≤ 1000 * 1000 := Int.mul_le_mul (by omega) h2 (by omega) (by omega)
  refine P.mul_str c0 (fun _ _ hgt => ?_) (fun _ _ => ?_) ?_
  · have h7 : ((z.length : Nat) : Int) ≤ (2 ^ 63 - 1) / n := Int.le_ediv_of_mul_le (by omega) (by omega)
    omega
  · unfold Builtin.Str.tooLong
    rw [sizeLine_eq]
    refine decide_eq_false ?_
    have : z.length * n.toNat ≤ 1000 * 1000 := Nat.mul_le_mul h4 (by omega)
    omega
  · rw [if_neg (by omega)]
    have c1 : (n == 1 || z.length == 0) = false := by
      rw [h3, Bool.or_false]; exact beq_eq_false_iff_ne.mpr (by omega)
    rw [c1]
    simp only [Bool.false_eq_true, if_false]
    exact ⟨by show (repS z n).length ≤ _; rw [sizeLine_eq]; omega, ⟨.str (repS z n), H, I.tok _, ⟨_, rfl⟩, q⟩⟩
end
section
variable {T : TC} {a b c e : Expr} {es : List Expr} {env e0 e1 e2 e3 : Env'} {pos p p1 p2 p3 : Pos} {x y z : PyData}
theorem je_mulS {i : Str} {n : Int} (h : JE2 T a b e0 e2 (.str i) (.int n)) (hk : RepS i n) : JE T (.BinOp a .Mult b pos) e0 e2 (.d (.str (repS i n))) :=
  je_bin (r := fun _ => rRepS) (fun X _ => op_repS) h fun R C H env σ u v Q E hu hv k =>
    ⟨i, n, rb_str E hu, rb_int E hv, hk, k _ C H (Ex.refl C) E (.str hk.ok)⟩
end
end J
namespace J
open PySem L2 PySem.Spec PyProof.Rows
/-! ### t[lo:hi].count(None), a true part of a tuple -/
def tSlC (K : PySem.W.Frag) (te : TE) (tl th : TO) : TE := fun σ H Q => te σ H fun x H1 => tl σ H1 fun l H2 => th σ H2 fun u H3 =>
  ∃ (a : Addr) (vs : List V) (ds : List PyData), x = .ref a ∧ SqT K H3 a vs ∧ ¬ (HT.sIx vs.length 0 l = 0 ∧ HT.sIx vs.length vs.length u = vs.length) ∧
    DpAll K H3 (cutV vs l u) ds ∧ PyData.canLayAll0 ds = true ∧ Q (.int ((ds.countP fun y => PyData.eqv y .none : Nat) : Int)) H3
theorem pe_slC {X : Cx} {e : Expr} {te : TE} {lo hi : Option Expr} {tl th : TO} {pos p2 apos cpos : Pos} {j : Nat} {pn : Pos} (hun : X.A.units + 65 < cLine) (he : PE X e te) (hl : PO X lo tl) (hu : PO X hi th)
    (hbase : attributeBase (.Subscript e (.Slice lo hi none p2) pos) "count" X.env (eval (.Subscript e (.Slice lo hi none p2) pos) X.env) = eval (.Subscript e (.Slice lo hi none p2) pos) X.env)
    (hfew : ((backTo cpos (starEach [.Constant .none j pn] X.env)).all (fun x => !x.1) && (backToKw cpos (keywordEach [] X.env)).all (fun x => x.1.isSome)
      && decide (([.Constant .none j pn] : List Expr).length + ([] : List Keyword).length + (if ([] : List Keyword).isEmpty then 0 else 1) < 30)) = true)
    (hline : (apos.endLine == cpos.line) = true) (hs : starEach [.Constant .none j pn] X.env = [(false, eval (.Constant .none j pn) X.env)]) :
    PE X (.Call (.Attribute (.Subscript e (.Slice lo hi none p2) pos) "count" apos) [.Constant .none j pn] [] cpos) (tSlC X.K te tl th) := by
  refine ⟨fun pins s σ H Q I h => ?_⟩
  refine wpAny_Call_method_late hbase hfew hline rfl ?_
  refine Subscript_ (thn (he.run pins s σ H _ I h) fun v s1 ⟨x, H1, I1, r1, q1⟩ => ?_)
  refine wpAny_Slice (thn (hl.run pins s1 σ H1 _ I1 q1) fun vl s2 ⟨l, H2, I2, pl, q2⟩ => thn (hu.run pins s2 σ H2 _ I2 q2) fun vu s3 ⟨u, H3, I3, pu, q3⟩ => ?_)
  rw [evalPart_none]
  refine wpAny_pure ?_
  have I4 : Inv X pins σ H3 { s3 with heap := s3.heap.push { cls := .type "slice", data := .fields #[vl, vu, .none] } } := I3.kept (t' := s3.toks) fun b ob q => Heap.get?_push_of_some _ q
  obtain ⟨a, vs, ds, rfl, hx, hw, hd, hc, q⟩ := q3
  cases r1
  obtain ⟨its, r, ht, hz⟩ := I4.tuple hx
  have hlen : its.toArray.size = vs.length := by rw [List.size_toArray]; exact r.length.symm
  refine tail_any (ops := [.ref s3.heap.objs.size, .ref a]) ht.typeIs PyProof.Rows.slot_tuple_getitem.lookup ?_ (by with_unfolding_all rfl)
  refine HT.getItem_tuple_cut ht (Heap.IsSliceOf.new ..) pl pu (by rw [hlen]; exact hw) ?_ (by rw [hlen]; exact hz)
  rw [hlen]
  generalize eh : Heap.push (Heap.push s3.heap { cls := .type "slice", data := .fields #[vl, vu, .none] }) _ = h5
  have I5 : Inv X pins σ H3 { s3 with heap := h5 } := by
    rw [← eh]; exact I4.kept (t' := s3.toks) fun b ob q => Heap.get?_push_of_some _ q
  have hit : h5.get? (s3.heap.push { cls := .type "slice", data := .fields #[vl, vu, .none] }).objs.size = some { cls := .type "tuple", data := .seq ((List.take (HT.sIx vs.length vs.length u - HT.sIx vs.length 0 l) (List.drop (HT.sIx vs.length 0 l) its)).toArray) } := by
    rw [← eh]; exact Heap.get?_push_size _ rfl
  generalize (s3.heap.push { cls := .type "slice", data := .fields #[vl, vu, .none] }).objs.size = t at hit ⊢
  have rv : Vals (cutV vs l u) (List.take (HT.sIx vs.length vs.length u - HT.sIx vs.length 0 l) (List.drop (HT.sIx vs.length 0 l) its)) := (r.drop _).take _
  generalize (List.take (HT.sIx vs.length vs.length u - HT.sIx vs.length 0 l) (List.drop (HT.sIx vs.length 0 l) its)) = cut at hit rv
  obtain ⟨as, rs⟩ := Dp.readsAll I5 ds _ cut hd rv
  refine ⟨"tuple", "tuple.count", PySem.F.plainAttrs_tuple, PySem.F.slot_tuple_count, PySem.F.type_tuple_count, ⟨_, hit, rfl⟩, fun b eb => by cases eb; exact ⟨_, hit, rfl⟩, ?_⟩
  rw [hs]
  refine Calls.callWith_builtin rfl (Calls.evalArgs_plain ?_)
  refine Calls.spliced_cons (show wpAny _ _ (eval (.Constant .none j pn) X.env) _ _ _ from Constant_none (Calls.spliced_nil ?_))
  refine call_meets PySem.F.slot_tuple_count ⟨_, hit, rfl⟩ PySem.F.entry_tuple_count (PySem.F.args_tuple_count_2 _ _)
    (SeqAt.tuple_countAt t cut.toArray _ _ _ .none (fun y => PyData.eqv (SeqAt.readOf h5 y) .none)) ⟨hit, SeqAt.items_eqAt (as := as) (bs := []) (by simpa using rs) Reads.none hc rfl ?_, ?_⟩
  · exact room_in_shaped (d := .none) rfl hun
  · rw [← SeqAt.readsAll_map ds cut as hc rs, List.countP_map] at q
    exact ⟨.int _, H3, I5.tok _, ⟨_, rfl⟩, q⟩
section
variable {T : TC} {a : Expr} {e0 e1 e2 e3 : Env'} {pos : Pos} {α : Type} {enc : α → PyData}
theorem shc {p : PyData → Prop} {x : PyData} {xs : List PyData} (h : p x) (h' : ∀ y ∈ xs, p y) : ∀ y ∈ x :: xs, p y := fun y hy => by
  rcases List.mem_cons.mp hy with rfl | hy
  · exact h
  · exact h' y hy
theorem shn {p : PyData → Prop} : ∀ y ∈ ([] : List PyData), p y := fun y hy => by cases hy
def cntN (xs : List PyData) : Int := ((xs.countP fun y => PyData.eqv y .none : Nat) : Int)
/-- the part of a tuple is a true one -/
def cutTrue (n : Nat) (lo hi : Option Int) : Prop := ¬ (HT.sIx n 0 lo = 0 ∧ HT.sIx n n hi = n)
theorem je_slCount {xs : List PyData} {lo hi : Option Int} {l u : Option Expr} {p2 apos cpos pn : Pos} {j : Nat} (h : JE T a e0 e1 (.d (.tuple xs))) (hl : JO T l e1 e2 lo) (hu : JO T u e2 e3 hi) (hw : cutTrue xs.length lo hi)
    (sh : ∀ x ∈ xs, shN 63 x = true) (hf : PlainE (.Subscript a (.Slice l u none p2) pos) "count" apos (.Constant .none j pn) [] cpos := by exact ⟨fun _ => rfl, fun _ => rfl, rfl, fun _ => rfl, fun _ => rfl⟩) :
    JE T (.Call (.Attribute (.Subscript a (.Slice l u none p2) pos) "count" apos) [.Constant .none j pn] [] cpos) e0 e3 (.d (.int (cntN (cutL xs lo hi)))) := fun X hX =>
  (pe_slC (by have := hX.room.un; omega) (h X hX) (hl X hX) (hu X hX) (hf.base X.env) (hf.few X.env) hf.line (hf.hs X.env)).wk fun σ H Q ⟨R, C, E, k⟩ => ⟨R, C, E, fun v C1 H1 c1 E1 r1 => ⟨R, C1, E1, fun C2 H2 c2 E2 => ⟨R, C2, E2, fun C3 H3 c3 E3 => by
    rw [hX.K] at *
    obtain ⟨p, vs, rfl, h1, q1, l1, r1⟩ := rb_tup E3 (.inl (r1.mono (c2.trans c3)))
    have sc : ∀ x ∈ cutL xs lo hi, shN 63 x = true := fun x hx => sh x (List.drop_subset _ _ (List.take_subset _ _ hx))
    have ss : shN 64 (.tuple (cutL xs lo hi)) = true := by rw [shN, List.all_eq_true]; exact sc
    have pa : pureAll (cutL xs lo hi) = true := pureAll_of fun x hx => (shN_of (sc x hx)).1
    have rc := rps_cut r1 lo hi
    have rl := r1.len
    refine ⟨p, vs, cutL xs lo hi, rfl, h1, by rw [rl]; exact hw, (rc.mono E3.cH).dps pa, rc.can pa, k _ C3 H3 ((c1.trans c2).trans c3) E3 (.int _)⟩⟩⟩⟩
end
end J
namespace J
/-- turns enough for a while -/
@[irreducible] def fuel : Nat := 1000000
theorem fuel_eq : fuel = 1000000 := by unfold fuel; rfl
open PySem L2 PySem.Spec PyProof.Rows
/-! ### "".join(texts) -/
def joinS (ys : List Str) : Str := Str.join ("" : Str) ys
theorem app_e (x : Str) : x ++ ("" : Str) = x := by
  show (⟨x.cps ++ #[]⟩ : Str) = x
  rw [Array.append_empty]
theorem joinS_cons (x : Str) (ys : List Str) : joinS (x :: ys) = x ++ joinS ys := by
  cases ys with
  | nil => show x = x ++ ("" : Str); rw [app_e]
  | cons y ys => show x ++ ("" : Str) ++ Str.join ("" : Str) (y :: ys) = _; rw [app_e]; rfl
theorem joinS_len : ∀ ys : List Str, (joinS ys).length = (ys.map (·.length)).sum
  | [] => rfl
  | x :: ys => by rw [joinS_cons, len_app, joinS_len ys]; rfl
theorem joinS_ok : ∀ ys : List Str, (∀ y ∈ ys, sOk y) → (ys.map (·.length)).sum ≤ LN → sOk (joinS ys)
  | [], _, _ => ⟨by decide +kernel, by decide +kernel⟩
  | x :: ys, h, hl => by
    rw [joinS_cons]
    have hl : x.length + (ys.map (·.length)).sum ≤ LN := hl
    exact sOk_app (h x (by simp)) (joinS_ok ys (fun y hy => h y (by simp [hy])) (by omega)) (by rw [joinS_len]; exact hl)
theorem signs_app (i j : Str) : J.signs (i ++ j) = J.signs i ++ J.signs j := by
  unfold J.signs
  show List.map _ (i.cps ++ j.cps).toList = _
  rw [Array.toList_append, List.map_append]
theorem signs_one {x : Str} (h : x.length = 1) : J.signs x = [x] := by
  obtain ⟨⟨l⟩⟩ := x
  match l, h with
  | [c], _ => rfl
theorem signs_join : ∀ ys : List Str, (∀ y ∈ ys, y.length = 1) → J.signs (joinS ys) = ys
  | [], _ => rfl
  | x :: ys, h => by rw [joinS_cons, signs_app, signs_one (h x (by simp)), signs_join ys fun y hy => h y (by simp [hy])]; rfl
section
variable {T : TC} {a b c e o : Expr} {es : List Expr} {env e0 e1 e2 e3 : Env'} {pos p p1 p2 p3 : Pos} {K : PySem.W.Frag} {R C C' H H' : Hp} {σ : L2.St} {v : V}
theorem rps_strs {ys : List Str} {vs : List V} (r : Rps K C vs (ys.map .str)) : vs = ys.map V.str ∧ ∀ y ∈ ys, sOk y := by
  induction ys generalizing vs with
  | nil => rw [List.map_nil] at r; cases r; exact ⟨rfl, fun y hy => by cases hy⟩
  | cons y ys ih =>
    rw [List.map_cons] at r
    cases r with
    | cons r1 r2 =>
      obtain ⟨e, h⟩ := ih r2
      cases r1 with
      | str o1 =>
        subst e
        exact ⟨rfl, fun z hz => by
          rcases List.mem_cons.mp hz with rfl | hz
          · exact o1
          · exact h z hz⟩
theorem je_join {ys : List Str} {apos : Pos} (ho : JE T o e0 e1 (.d (.str ("" : Str)))) (he : JE T e e1 e2 (.b (.list (ys.map .str)))) (hl : (ys.map (·.length)).sum ≤ LN)
    (hf : PlainE o "join" apos e [] pos := by exact ⟨fun _ => rfl, fun _ => rfl, rfl, fun _ => rfl, fun _ => rfl⟩) : JE T (.Call (.Attribute o "join" apos) [e] [] pos) e0 e2 (.d (.str (joinS ys))) := fun X hX =>
  (pe_join (ho X hX) (he X hX) (hf.hs X.env) (hf.base X.env) hf.line).wk fun σ H Q ⟨R, C, E, k⟩ => ⟨R, C, E, fun v C1 H1 c1 E1 r1 => by
    have e := rb_str E1 (.inl r1)
    subst e
    refine ⟨⟨_, rfl⟩, R, C1, E1, fun w C2 H2 c2 E2 r2 => ?_⟩
    rw [hX.K] at *
    obtain ⟨q, vs, rfl, h1, l1, r1⟩ := rb_lst E2 r2
    obtain ⟨ev, hs⟩ := rps_strs r1
    subst ev
    refine ⟨_, q, ys, rfl, rfl, .inl (SqL.of h1), by show _ + ys.length * 0 ≤ 16777216; rw [Nat.mul_zero]; exact hl, ?_⟩
    rw [show Txt.join ("" : Str) ys = joinS ys from TL.join_eq _ _]
    exact k _ C2 H2 (c1.trans c2) E2 (.str (joinS_ok ys hs hl))⟩
/-! ### len(range(a, b, c)) -/
def lenR (i j k : Int) : Int := Builtin.Range.rangeSize i j k
def lenROk (i j k : Int) : Prop := (-1000000 ≤ i ∧ i ≤ 1000000) ∧ (-1000000 ≤ j ∧ j ≤ 1000000) ∧ (0 < k ∧ k ≤ 1000000)
def tLR (ta : TA) : TE := fun σ H Q => ta σ H fun vs H1 => ∃ i j k : Int, vs = [.int i, .int j, .int k] ∧ lenROk i j k ∧ Q (.int (lenR i j k)) H1
theorem lenR_bd {i j k : Int} (h : lenROk i j k) : 0 ≤ lenR i j k ∧ lenR i j k < 2 ^ 62 := by
  obtain ⟨h1, h2, h3⟩ := h
  unfold lenR Builtin.Range.rangeSize
  rw [if_pos (by omega)]
  split
  · have a : 0 ≤ (j - i - 1) / k := Int.ediv_nonneg (by omega) (by omega)
    have b : (j - i - 1) / k ≤ j - i - 1 := Int.ediv_le_self _ (by omega)
    omega
  · omega
theorem pe_lenR {X : Cx} {a b c : Expr} {ta : TA} {p p1 p2 pos : Pos} (hgl : Gl X "len") (hml : X.mg "len" = none) (hgr : Gl X "range") (hmr : X.mg "range" = none) (ha : PA X [a, b, c] ta)
    (ho : starEach [.Call (.Name "range" p1) [a, b, c] [] p2] X.env = [(false, eval (.Call (.Name "range" p1) [a, b, c] [] p2) X.env)])
    (hs : starEach [a, b, c] X.env = (false, eval a X.env) :: starEach [b, c] X.env) (hp : (backTo p2 (starEach [b, c] X.env)).any (·.1) = false) :
    PE X (.Call (.Name "len" p) [.Call (.Name "range" p1) [a, b, c] [] p2] [] pos) (tLR ta) := by
  refine ⟨fun pins s σ H Q I h => ?_⟩
  refine wpAny_Call_Name_kw (ld_blt I hgl hml boot_len ?_ (by decide) (by decide))
  refine PyProof.Rows.callWith_builtin1 (e := .Call (.Name "range" p1) [a, b, c] [] p2) (rest := []) ?_ ho rfl
  rw [ho]
  refine Calls.spliced_cons (show wpAny _ _ (eval (.Call (.Name "range" p1) [a, b, c] [] p2) X.env) _ _ _ from ?_)
  refine Call_ (ld_blt I hgr hmr boot_range (PyProof.Rows.callWith_type1 (thn (ha.run p2 pins s σ H _ I h) fun us s1 ⟨vs, H1, I1, r1, q1⟩ => ?_) hs hp))
  obtain ⟨i, j, k, e, hk, q⟩ := q1
  subst e
  cases r1 with
  | cons r rr =>
    cases rr with
    | cons r' rr =>
      cases rr with
      | cons r'' rr =>
        cases rr
        obtain ⟨t, rfl⟩ := r
        obtain ⟨t', rfl⟩ := r'
        obtain ⟨t'', rfl⟩ := r''
        obtain ⟨h1, h2, h3⟩ := hk
        refine call_range_3 (by omega) (Calls.spliced_nil ?_) (Or.inl (PyProof.noPylong_small (by omega)))
        have I2 : Inv X pins σ H1 { s1 with heap := s1.heap.push { cls := .type "range", data := .fields #[.int i t, .int j t', .int k t''] } } := I1.kept (t' := s1.toks) fun b o e => Heap.get?_push_of_some _ e
        obtain ⟨b1, b2⟩ := lenR_bd (i := i) (j := j) (k := k) ⟨h1, h2, h3⟩
        refine call_len_range (n := (lenR i j k).toNat) (IsRange.new ..) (by show lenR i j k = _; omega) (by omega) ?_
        have e : (((lenR i j k).toNat : Nat) : Int) = lenR i j k := by omega
        rw [e]
        exact ⟨.int _, H1, I2.tok _, ⟨_, rfl⟩, q⟩
theorem je_lenR {i j k : Int} (hgl : glB T.sc "len" = true) (hml : T.mg "len" = none) (hgr : glB T.sc "range" = true) (hmr : T.mg "range" = none) (ha : JA T [a, b, c] e0 e1 [.int i, .int j, .int k]) (hk : lenROk i j k)
    (ho : ∀ v : Env, starEach [.Call (.Name "range" p1) [a, b, c] [] p2] v = [(false, eval (.Call (.Name "range" p1) [a, b, c] [] p2) v)] := by intro _; rfl)
    (hs : ∀ v : Env, starEach [a, b, c] v = (false, eval a v) :: starEach [b, c] v := by intro _; rfl) (hp : ∀ v : Env, (backTo p2 (starEach [b, c] v)).any (·.1) = false := by intro _; rfl) :
    JE T (.Call (.Name "len" p) [.Call (.Name "range" p1) [a, b, c] [] p2] [] pos) e0 e1 (.d (.int (lenR i j k))) := fun X hX =>
  (pe_lenR (gl_of hX hgl) (by rw [hX.mg]; exact hml) (gl_of hX hgr) (by rw [hX.mg]; exact hmr) (ha X hX) (ho X.env) (hs X.env) (hp X.env)).wk fun σ H Q ⟨R, C, E, kk⟩ => ⟨R, C, E, fun vs C1 H1 c1 E1 r1 => by
    cases r1 with
    | cons r1 r2 => cases r2 with
      | cons r2 r3 => cases r3 with
        | cons r3 r4 =>
          cases r4
          cases r1; cases r2; cases r3
          exact ⟨i, j, k, rfl, hk, kk _ C1 H1 c1 E1 (.int _)⟩⟩
end
end J
namespace J
open PySem L2 PySem.Spec PyProof.Rows PySem.W
/-! ### sorted(a tuple) -/
section
variable {prog : Program} {w : World} {A : Around} {E : Value → Shared → Prop} {s : Shared} {β : Type} {vs : List Value} {bs : List β} {enc : β → PyData} {R : Value → β → Prop}
theorem sorted_tupD {l : Addr} {Q : Value → Shared → Prop} (hl : IsTup s.heap l vs.toArray) (e : EachIs R vs bs) (er : EachIs (fun v b => ∃ as, Reads s.heap v (enc b) as) vs bs) (hal : AllAlike (bs.map enc)) (hk : Sortable (bs.map enc)) (hL : bs.length ≤ sizeLine)
    (hu : ∀ b, b ∈ bs → A.units + 2 + (enc b).depth < cLine)
    (h : ∀ (h1 h' : Heap) (out : List Value) (n : Nat), (∀ b o, s.heap.get? b = some o → h1.get? b = some o) → (∀ b o, h1.get? b = some o → h'.get? b = some o) → h'.get? h1.objs.size = some (seqObj "list" out.toArray n) → out.length = bs.length → EachIs R out (bs.mergeSort (dataLe false enc)) → Q (.ref h1.objs.size) { s with heap := h' }) :
    wpAny (model prog w) A (call (.builtin "sorted") [.ref l]) Q E s := by
  have hLv : vs.length ≤ sizeLine := by rw [e.length]; exact hL
  obtain ⟨o, ho, hc, n, hd⟩ := hl
  refine Calls.call_function_entry kind_sorted plain_sorted entry_sorted (args_sorted1 _) ?_
  unfold Builtin.«sorted»
  refine wpAny_bind (m := checkCount "sorted" 1 1 _) (wpAny_pure ?_)
  refine wpAny_bind (wpAny_collect_seq l (.inr rfl) ho hc hd (fun h1 keep => ?_) (by rw [List.size_toArray]; exact hLv))
  refine wpAny_bind (wpAny_newList ?_ hLv)
  have hoL : (h1.push (seqObj "list" vs.toArray 0)).get? h1.objs.size = some (seqObj "list" vs.toArray 0) := Heap.get?_push_size _ rfl
  have old : ∀ b o, s.heap.get? b = some o → b ≠ h1.objs.size ∧ (h1.push (seqObj "list" vs.toArray 0)).get? b = some o := fun b o q => ⟨Nat.ne_of_lt (Heap.lt_size (keep b o q)), Heap.get?_push_of_some _ (keep b o q)⟩
  have er' : EachIs (fun v b => ∃ as, Reads (sortingHeap (h1.push (seqObj "list" vs.toArray 0)) h1.objs.size vs) v (enc b) as) vs bs :=
    er.mono fun _ _ ⟨as, r⟩ => ⟨as, PyProof.Rows.Reads.keeps (fun b o q => sortingHeap_old (old b o q).1 (old b o q).2) r⟩
  have S := SortsAt.data (prog := prog) (w := w) (A := A.in1.in1) (s := { s with heap := sortingHeap (h1.push (seqObj "list" vs.toArray 0)) h1.objs.size vs }) (each_map (R := fun v d => ∃ as, Reads (sortingHeap (h1.push (seqObj "list" vs.toArray 0)) h1.objs.size vs) v d as) enc er') hal hk (bound_map hu)
  show wpAny _ _ _ _ _ { s with heap := h1.push (seqObj "list" vs.toArray 0) }
  refine wpAny_bind (wpAny_holding (wpAny_call_entry slot_list_sort ⟨_, hoL, rfl⟩ entry_list_sort ?body (args_list_sort _)))
  case body =>
    refine list_sort_vals (s := { s with heap := h1.push (seqObj "list" vs.toArray 0) }) hoL S hLv ⟨_, rfl, wpAny_pure ⟨_, rfl, ?_⟩⟩
    obtain ⟨n', hn'⟩ := sortedHeap_at (vs := vs) (out := (sortVals (dataKind (sortingHeap (h1.push (seqObj "list" vs.toArray 0)) h1.objs.size vs) (bs.map enc)) false vs vs).toArray) hoL
    refine h h1 _ _ n' keep (fun b o q => ?_) hn' (by rw [sortVals_length false rfl]; exact e.length) (sortVals_data false e er' hal)
    have q1 : b ≠ h1.objs.size := Nat.ne_of_lt (Heap.lt_size q)
    have q2 : (h1.push (seqObj "list" vs.toArray 0)).get? b = some o := Heap.get?_push_of_some _ q
    rw [sortedHeap_old q1 (Heap.lt_size q2)]
    exact q2
end
section
variable {X : Cx}
def rSortTD (K : PySem.W.Frag) : List V → Hp → VK → Prop := fun vs H Q => ∃ (a : Addr) (ys : List V) (ds : List PyData), vs = [.ref a] ∧ SqT K H a ys ∧ DpAll K H ys ds ∧ AllAlike ds ∧ Sortable ds ∧ PyData.depthAll ds ≤ 64 ∧
  ∀ p, H p = none → Q (.ref p) (upd H p (.lst (((ys.zip ds).mergeSort (dataLe false (·.2))).map (·.1))))
theorem cr_sortTD (hu : X.A.units + 200 < cLine) : CallR X (.builtin "sorted") (rSortTD X.K) := by
  intro pins s σ H xs us Q I rv h
  obtain ⟨a, ys, ds, rfl, hq, hd, al, so, dp, q⟩ := h
  have eu := Vals.ref1 rv
  subst eu
  obtain ⟨its, r, pl, hz⟩ := I.tuple hq
  obtain ⟨as, ra⟩ := Dp.readsAll I ds ys its hd r
  have hlen : ys.length = ds.length := dpAll_len hd
  have e1 : (ys.zip ds).map (·.2) = ds := List.map_snd_zip (by omega)
  have R1 := zipR r hlen
  have R2 := zipRd r ra
  have hdep : ∀ b, b ∈ ys.zip ds → X.A.units + 2 + b.2.depth < cLine := fun b hb => by
    have hm : b.2 ∈ ds := by
      have : b.2 ∈ (ys.zip ds).map (·.2) := List.mem_map.mpr ⟨b, hb, rfl⟩
      rw [e1] at this; exact this
    have := depth_mem hm
    omega
  refine sorted_tupD (R := fun (u : Value) (b : V × PyData) => RelV b.1 u) (enc := fun b => b.2) (bs := ys.zip ds) pl R1 R2 (by rw [e1]; exact al) (by rw [e1]; exact so) (by rw [List.length_zip]; omega) hdep fun h1 h' out n k1 k2 he ho hout => ?_
  have hv := eachVals hout
  have I1 : Inv X pins σ H { s with heap := h1 } := I.kept (t' := s.toks) k1
  have hn : H h1.objs.size = none := I1.hok.fresh (Nat.le_refl _)
  refine ⟨.ref h1.objs.size, _, I1.laid (a := h1.objs.size) (o := .lst _) (t' := s.toks) (fun b ob q => k2 b ob q) (Nat.le_refl _) ?_, rfl, q _ hn⟩
  exact ⟨by rw [List.length_map, List.length_mergeSort, List.length_zip]; omega, out, n, hv, he⟩
end
section
variable {T : TC} {a b e : Expr} {es : List Expr} {env e0 e1 e2 e3 : Env'} {pos p : Pos} {α : Type} {enc : α → PyData} {xs zs : List α}
theorem je_sortT (hg : glB T.sc "sorted" = true) (hm : T.mg "sorted" = none) (ha : JE T e e0 e1 (.b (.tuple (xs.map enc)))) (al : AlkE enc) (so : SrtE enc) (sh : shN 64 (.list (xs.map enc)) = true) (hp : Plain e [] pos := by exact ⟨fun _ => rfl, fun _ => rfl⟩) : JE T (.Call (.Name "sorted" p) [e] [] pos) e0 e1 (.o (.list ((pySort enc xs).map enc))) :=
  je_bi1 (r := rSortTD) (fun X hX => cr_sortTD (room_units hX)) hg hm (by decide +kernel) ha (fun R C H env σ v Q E hv k => by
    obtain ⟨p, vs, rfl, h1, c1, l1, r1⟩ := rb_tup E hv
    obtain ⟨q1, q2⟩ := shN_all (n := 63) sh
    have aa := al.all xs
    refine ⟨p, vs, xs.map enc, rfl, h1, (r1.mono E.cH).dps q1, aa.1, ?_, by omega, fun q hq => ?_⟩
    · rcases so with so | so
      · left; intro d hd
        obtain ⟨a, _, rfl⟩ := List.mem_map.mp hd
        exact so a
      · right; intro d hd
        obtain ⟨a, _, rfl⟩ := List.mem_map.mp hd
        exact ⟨al.2 a, so a⟩
    · have e1 : (vs.zip (xs.map enc)).map (·.2) = xs.map enc := List.map_snd_zip (by rw [r1.len]; exact Nat.le_refl _)
      have key : ((vs.zip (xs.map enc)).mergeSort (dataLe false (·.2))).map (·.2) = (pySort enc xs).map enc := by
        rw [sort_maps (r := dataLe false fun b : V × PyData => b.2) (s := dataLe false fun d => d) (fun b : V × PyData => b.2) (fun _ _ _ _ => rfl), e1]
        unfold pySort
        rw [sort_maps (r := dataLe false enc) (s := dataLe false fun d => d) enc (fun _ _ _ _ => rfl)]
      have rr := rps_of_pairs (zs := (vs.zip (xs.map enc)).mergeSort (dataLe false (·.2))) (K := T.K) (C := C) fun b hb => rps_pairs r1 b (List.mem_mergeSort.mp hb)
      rw [key] at rr
      obtain ⟨E', r⟩ := E.freshO hq (by rw [List.length_map, List.length_mergeSort, List.length_zip]; omega) rr
      exact k _ C _ (Ex.refl C) E' r) hp
/-! ### things or None, none of them None -/
theorem un_map [Inhabited α] (enc : α → PyData) {xs : List (Option α)} (h : ∀ x ∈ xs, x.isSome = true) : xs.map (eO enc) = (xs.map unO).map enc := by
  rw [List.map_map]
  refine List.map_congr_left fun x hx => ?_
  have := h x hx
  cases x with
  | none => cases this
  | some y => rfl
theorem je_unLb [Inhabited α] {xs : List (Option α)} (h : JE T e e0 e1 (.b (.list (xs.map (eO enc))))) (hs : ∀ x ∈ xs, x.isSome = true) : JE T e e0 e1 (.b (.list ((xs.map unO).map enc))) := by rw [← un_map enc hs]; exact h
/-! ### xs[an index that draws], xs owned -/
theorem je_ixLV [Inhabited α] {nm : Str} {np : Pos} (j : Nat) {k0 : Option Addr} {i : Int} (h : JE T b e0 e2 (.d (.int i))) (hr : inR xs.length i) (hN : T.N[j]? = some nm := by rfl) (hv : visB T.sc nm = true := by rfl) (h0 : ∃ d0, e0[j]? = some (.o k0 d0) := by exact ⟨_, rfl⟩) (he : e2[j]? = some (.o k0 (.list (xs.map enc))) := by rfl)
    (hs : PlainIx b := by intro _ _; rfl) (hd : (nm == ("__debug__" : Str)) = false := by decide) (hcd : (nm == ("__classdict__" : Str)) = false := by decide) : JE T (.Subscript (.Name nm np) b pos) e0 e2 (.d (enc (gI xs i))) := fun X hX =>
  (pe_ix ix_list (pe_var (i := j) (by rw [hX.N]; exact hN) (by rw [hX.sc]; exact vis_of hv) hd hcd) (h X hX) hs).wk fun σ H Q ⟨R, C, E, k⟩ => by
    obtain ⟨d0, h0⟩ := h0
    obtain ⟨p, s0, _, _, _, ow0⟩ := E.own j k0 _ h0
    refine ⟨.ref p, s0, R, C, E, fun v C1 H1 c1 E1 r1 => ?_⟩
    obtain ⟨p', s1, hq, cp, rp, vs, hh, l, rr⟩ := E1.own j k0 _ he
    rw [s0] at s1; cases s1
    cases r1
    obtain ⟨w, hw, rw⟩ := atI_rps rr (gI_at hr)
    rw [hX.K] at *
    exact ⟨p, vs, i, w, rfl, rfl, SqL.of hh, hw, k _ C1 H1 c1 E1 rw⟩
/-! ### xs.extend(a list just made) -/
theorem mtm_mt {X : Cx} {id : String} {r : V → List V → Hp → VK → Prop} (h : MtM X id r) : MtR X id r := h
theorem je_extend {nm : Str} {apos np : Pos} (i : Nat) {k0 : Option Addr} (h : JE T e e0 e1 (.b (.list (zs.map enc)))) (hl : xs.length + zs.length ≤ LN) (hN : T.N[i]? = some nm := by rfl) (hv : visB T.sc nm = true := by rfl) (h0 : ∃ xs0, e0[i]? = some (.o k0 (.list xs0)) := by exact ⟨_, rfl⟩) (he : e1[i]? = some (.o k0 (.list (xs.map enc))) := by rfl)
    (hp : PlainM (.Name nm np) "extend" apos e [] pos := by exact ⟨fun _ => rfl, fun _ => rfl, rfl, fun _ => rfl, fun _ => rfl⟩)
    (hd : (nm == ("__debug__" : Str)) = false := by decide) (hcd : (nm == ("__classdict__" : Str)) = false := by decide) :
    JE T (.Call (.Attribute (.Name nm np) "extend" apos) [e] [] pos) e0 (e1.set i (.o k0 (.list ((xs ++ zs).map enc)))) (.d .none) := fun X hX =>
  (pe_bm PySem.F.plainAttrs_list PySem.F.slot_list_extend PySem.F.type_list_extend mt_extend (pe_var (i := i) (by rw [hX.N]; exact hN) (by rw [hX.sc]; exact vis_of hv) hd hcd) (pa_cons (h X hX) pa_nil (hp.hs X.env)) (hp.base X.env) (hp.few X.env) hp.line (hp.hs X.env) (hp.plain X.env)).wk fun σ H Q ⟨R, C, E, k⟩ => by
    obtain ⟨xs0, h0⟩ := h0
    obtain ⟨p, s0, _, _, _, ow0⟩ := E.own i k0 _ h0
    refine ⟨.ref p, s0, tyL ⟨C, ow0⟩, R, C, E, fun v C1 H1 c1 E1 r1 => ?_⟩
    obtain ⟨q, zv, rfl, hz, lz, rz⟩ := rb_lst E1 r1
    obtain ⟨p', s1, hq, cp, rp, vs, hh, l, rr⟩ := E1.own i k0 _ he
    rw [s0] at s1; cases s1
    have hh : H1 p = some (.lst vs) := hh
    have el := rr.len
    have ez := rz.len
    rw [List.length_map] at el ez
    refine ⟨p, q, vs, zv, rfl, rfl, hh, hz, by rw [sizeLine_eq, el, ez]; exact hl, ?_⟩
    refine k _ C1 _ c1 (E1.mutO he s0 cp rp ⟨vs ++ zv, rfl, ?_, by rw [List.map_append]; exact rr.append rz⟩) .non
    rw [List.length_append, el, ez]
    exact hl
end
end J
namespace J
open PySem L2 PySem.Spec PyProof.Rows
/-! ### len(set(a tuple of ints)) -/
def dd : List Int → List Int
  | [] => []
  | x :: xs => if x ∈ dd xs then dd xs else x :: dd xs
theorem dd_mem {x : Int} : ∀ {xs : List Int}, x ∈ dd xs ↔ x ∈ xs
  | [] => Iff.rfl
  | y :: ys => by
    unfold dd
    split
    · rename_i h
      rw [dd_mem (xs := ys), List.mem_cons]
      exact ⟨.inr, fun q => q.elim (fun e => by rw [e]; exact dd_mem.mp h) id⟩
    · rw [List.mem_cons, List.mem_cons, dd_mem (xs := ys)]
theorem dd_nd : ∀ xs : List Int, (dd xs).Nodup
  | [] => .nil
  | y :: ys => by
    unfold dd
    split
    · exact dd_nd ys
    · rename_i h
      exact List.nodup_cons.mpr ⟨h, dd_nd ys⟩
def lenSet (ns : List Int) : Int := (dd ns).length
theorem lenSet_of {l ns : List Int} (hn : l.Nodup) (h : ∀ k, k ∈ l ↔ k ∈ ns) : l.length = (dd ns).length :=
  ((List.perm_ext_iff_of_nodup hn (dd_nd ns)).mpr fun k => (h k).trans dd_mem.symm).length_eq
section
variable {X : Cx}
def tLenSetT (K : PySem.W.Frag) (ta : TE) : TE := fun σ H Q => ta σ H fun x H1 => ∃ (l : Addr) (ns : List Int), x = V.ref l ∧ SqT K H1 l (ns.map V.int) ∧ ns.length < 64 ∧ Q (.int (lenSet ns)) H1
theorem pe_lenSetT {a : Expr} {ta : TE} {p p2 q pos : Pos} (hc : X.calm = true) (hg : Gl X "len") (hm : X.mg "len" = none) (hg2 : Gl X "set") (hm2 : X.mg "set" = none) (ha : PE X a ta)
    (na : starEach [a] X.env = (false, eval a X.env) :: starEach [] X.env) : PE X (.Call (.Name "len" p) [.Call (.Name "set" p2) [a] [] q] [] pos) (tLenSetT X.K ta) := by
  refine ⟨fun pins s σ H Q I h => ?_⟩
  refine Call_ (ld_blt I hg hm PySem.boot_len ?_)
  refine PyProof.Rows.callWith_builtin1 (PyProof.Rows.args_cons ?_ rfl) rfl rfl
  refine Call_ (ld_blt I hg2 hm2 PyProof.Rows.boot_set ?_)
  refine PyProof.Rows.callWith_type1 (PyProof.Rows.args_cons (thn (ha.run pins s σ H _ I h) fun v s1 ⟨x, H1, I1, r1, q1⟩ => PyProof.Rows.args_nil ?_) na) na rfl
  obtain ⟨l, ns, rfl, hq, h1, q1⟩ := q1
  cases r1
  obtain ⟨its, r, pl, hz⟩ := I1.tuple hq
  refine call_set_tupI ns (I1.ok.hd hc) pl (by simpa using r.ints) (by unfold scanBound; omega) fun h' tk c hS hcn hk => ?_
  refine PyProof.Rows.args_nil ?_
  obtain ⟨o, es, ep, t, ho, hex, hd, _, hnd, hmem, _, hf, hn, _⟩ := hS
  have el : es.size = (dd ns).length := by
    rw [← lenSet_of hnd (fun k => by rw [← hmem k, decide_eq_true_eq]), List.length_map, Array.length_toList]
  have I2 : Inv X pins σ H1 { s1 with heap := h', toks := tk } := I1.kept fun b o e => hk b o e
  refine call_len_set ho hex hd hf (by rw [hn] <;> omega) ⟨.int (lenSet ns), H1, I2.tok _, ⟨_, by unfold lenSet; rw [el]⟩, q1⟩
end
section
variable {T : TC} {a : Expr} {e0 e1 : Env'} {pos p p1 p2 : Pos}
theorem je_lenSetT {ns : List Int} (hg : glB T.sc "len" = true) (hm : T.mg "len" = none) (hg2 : glB T.sc "set" = true) (hm2 : T.mg "set" = none) (ha : JE T a e0 e1 (.b (.tuple (ns.map .int)))) (hn : ns.length < 64)
    (na : ∀ v : Env, starEach [a] v = (false, eval a v) :: starEach [] v := by intro _; rfl) : JE T (.Call (.Name "len" p) [.Call (.Name "set" p1) [a] [] p2] [] pos) e0 e1 (.d (.int (lenSet ns))) := fun X hX =>
  (pe_lenSetT hX.calm (gl_of hX hg) (by rw [hX.mg]; exact hm) (gl_of hX hg2) (by rw [hX.mg]; exact hm2) (ha X hX) (na X.env)).wk fun σ H Q ⟨R, C, E, k⟩ => ⟨R, C, E, fun v C1 H1 c1 E1 r1 => by
    rw [hX.K] at *
    obtain ⟨q, vs, rfl, h1, q1, l1, r1⟩ := rb_tup E1 r1
    have e := r1.int
    subst e
    exact ⟨q, ns, rfl, h1, hn, k _ C1 H1 c1 E1 (.int _)⟩⟩
/-- the tuple of things or None, none of them None -/
theorem je_unTb {α : Type} {enc : α → PyData} [Inhabited α] {xs : List (Option α)} {e : Expr} (h : JE T e e0 e1 (.b (.tuple (xs.map (eO enc))))) (hs : ∀ x ∈ xs, x.isSome = true) : JE T e e0 e1 (.b (.tuple ((xs.map unO).map enc))) := by rw [← un_map enc hs]; exact h
theorem je_unTd {α : Type} {enc : α → PyData} [Inhabited α] {xs : List (Option α)} {e : Expr} (h : JE T e e0 e1 (.d (.tuple (xs.map (eO enc))))) (hs : ∀ x ∈ xs, x.isSome = true) : JE T e e0 e1 (.d (.tuple ((xs.map unO).map enc))) := by rw [← un_map enc hs]; exact h
end
end J
namespace J
open PySem L2 PySem.Spec PyProof.Rows
/-! ### gcd -/
section
variable {T : TC} {a b e o : Expr} {es : List Expr} {e0 e1 e2 : Env'} {pos p p1 p2 : Pos}
def gcdI (i j : Int) : Int := ((Nat.gcd i.natAbs j.natAbs : Nat) : Int)
theorem je_gcd {i j : Int} {nm : Str} (hg : glB T.sc nm = true) (hm : T.mg nm = some (.builtin "math.gcd")) (ha : JA T (e :: es) e0 e1 [.int i, .int j]) (hp : Plain e es pos := by exact ⟨fun _ => rfl, fun _ => rfl⟩) (hdb : (nm == ("__debug__" : Str)) = false := by decide) :
    JE T (.Call (.Name nm p) (e :: es) [] pos) e0 e1 (.d (.int (gcdI i j))) := fun X hX =>
  (pe_callBfun cr_gcd (gl_of hX hg) (by rw [hX.mg]; exact hm) (ha X hX) hdb (hp.he X.env) (hp.hp X.env)).wk fun σ H Q ⟨R, C, E, k⟩ => ⟨R, C, E, fun vs C1 H1 c1 E1 r1 => by
    cases r1 with
    | cons r1 r2 => cases r2 with
      | cons r2 r3 =>
        cases r3
        cases r1; cases r2
        exact ⟨i, j, rfl, k _ C1 H1 c1 E1 (.int _)⟩⟩
/-! ### xs.count(x) of a list -/
def cntL {α : Type} [DecidableEq α] (xs : List α) (x : α) : Int := ((xs.countP fun y => decide (y = x) : Nat) : Int)
def rCountD (K : PySem.W.Frag) : V → List V → Hp → VK → Prop := fun x xs H Q => ∃ (a : Addr) (y : V) (d : PyData) (ds : List PyData), x = V.ref a ∧ xs = [y] ∧ Dp K H (V.ref a) (.list ds) ∧ Dp K H y d ∧
  SeqAt.shaped (.list ds) = true ∧ SeqAt.shaped d = true ∧ Q (.int ((ds.countP fun z => PyData.eqv z d : Nat) : Int)) H
theorem mt_countD {X : Cx} (hu : X.A.units + 65 < cLine) : MtR X "list.count" (rCountD X.K) := by
  intro pins s σ H x xs v us Q I rx rxs h
  obtain ⟨a, y, d, ds, rfl, rfl, hl, hy, sl, sd, q⟩ := h
  cases rx
  cases rxs with
  | cons ry rt =>
    rename_i uy ut
    cases rt
    obtain ⟨bs, r1⟩ := Dp.reads I d y uy hy ry
    have hxs : PyData.canLayAll0 ds = true := SeqAt.canLay_of_shaped sl
    cases hl with
    | lst hs ha =>
      obtain ⟨its, rv, ⟨⟨cls, dd, data, sls⟩, n, ho, hc, hdn, hdt⟩, hlen⟩ := I.list hs
      simp only at hc hdt
      subst hc hdt
      obtain ⟨as, h4⟩ := Dp.readsAll I ds _ its ha rv
      refine call_meets PySem.F.slot_list_count ⟨_, ho, rfl⟩ PySem.F.entry_list_count (PySem.F.args_list_count_2 _ _)
        (SeqAt.list_countAt a its.toArray n dd sls uy (fun u => PyData.eqv (SeqAt.readOf s.heap u) d)) ⟨ho, SeqAt.items_eqAt (vs := its.toArray) (show ReadsAll s.heap its.toArray.toList ds as from h4) r1 hxs (SeqAt.canLay_of_shaped sd) (room_in_shaped sd hu), ?_⟩
      have e : its.toArray.toList.countP (fun u => PyData.eqv (SeqAt.readOf s.heap u) d) = ds.countP fun z => PyData.eqv z d := by
        rw [← SeqAt.readsAll_map ds its as hxs h4, List.countP_map]; rfl
      rw [e]
      exact ⟨.int _, H, I.tok _, ⟨_, rfl⟩, q⟩
variable {α : Type} {enc : α → PyData}
theorem je_countL [DecidableEq α] {xs : List α} {x : α} {apos : Pos} (h : JE T o e0 e1 (.d (.list (xs.map enc)))) (h2 : JE T e e1 e2 (.d (enc x))) (sh : ShE 63 enc) (sh' : ShE 64 enc) (eq : EqE enc)
    (hp : PlainE o "count" apos e [] pos := by exact ⟨fun _ => rfl, fun _ => rfl, rfl, fun _ => rfl, fun _ => rfl⟩) :
    JE T (.Call (.Attribute o "count" apos) [e] [] pos) e0 e2 (.d (.int (cntL xs x))) := fun X hX =>
  (pe_bm PySem.F.plainAttrs_list PySem.F.slot_list_count PySem.F.type_list_count (mt_countD (by have := hX.room.un; omega)) (h X hX) (pa_cons (h2 X hX) pa_nil (hp.hs X.env)) (hp.base X.env) (hp.few X.env) hp.line (hp.hs X.env) (hp.plain X.env)).wk fun σ H Q ⟨R, C, E, k⟩ => by
    rw [hX.K] at *
    refine ⟨R, C, E, fun u C1 H1 c1 E1 r1 => ?_⟩
    have r1' := r1
    cases r1 with
    | lst q l r =>
    refine ⟨.inl ⟨rfl, _, SqL.of (E1.cH _ _ q)⟩, R, C1, E1, fun w C2 H2 c2 E2 r2 => ?_⟩
    have hr : Rp T.K H2 _ (PyData.list (xs.map enc)) := (r1'.mono c2).mono E2.cH
    have hy : Rp T.K H2 w (enc x) := r2.mono E2.cH
    have s1 : shN 64 (.list (xs.map enc)) = true := by
      rw [shN, List.all_eq_true]; intro d hd
      obtain ⟨y, _, rfl⟩ := List.mem_map.mp hd; exact sh y
    refine ⟨_, w, enc x, xs.map enc, rfl, rfl, hr.dp' s1, hy.dp' (sh' x), hr.shaped s1, hy.shaped (sh' x), ?_⟩
    have e : ((xs.map enc).countP fun z => PyData.eqv z (enc x)) = xs.countP fun y => decide (y = x) := by
      rw [List.countP_map]
      congr 1
      funext y
      exact eq y x
    rw [e]
    exact k _ C2 H2 (c1.trans c2) E2 (.int _)
end
/-! ### len(set(a list of tuples of ints)) -/
def ddL : List (List Int) → List (List Int)
  | [] => []
  | x :: xs => if x ∈ ddL xs then ddL xs else x :: ddL xs
theorem ddL_mem {x : List Int} : ∀ {xs : List (List Int)}, x ∈ ddL xs ↔ x ∈ xs
  | [] => Iff.rfl
  | y :: ys => by
    unfold ddL
    split
    · rename_i h
      rw [ddL_mem (xs := ys), List.mem_cons]
      exact ⟨.inr, fun q => q.elim (fun e => by rw [e]; exact ddL_mem.mp h) id⟩
    · rw [List.mem_cons, List.mem_cons, ddL_mem (xs := ys)]
theorem ddL_nd : ∀ xs : List (List Int), (ddL xs).Nodup
  | [] => .nil
  | y :: ys => by
    unfold ddL
    split
    · exact ddL_nd ys
    · rename_i h
      exact List.nodup_cons.mpr ⟨h, ddL_nd ys⟩
def lenSetL (xs : List (List Int)) : Int := (ddL xs).length
section
variable {X : Cx}
def tLenSetL (K : PySem.W.Frag) (ta : TE) : TE := fun σ H Q => ta σ H fun x H1 => ∃ (l : Addr) (ks : List (Addr × List Int)), x = V.ref l ∧ SqL K H1 l (ks.map fun p => V.ref p.1) ∧ (∀ p ∈ ks, SqT K H1 p.1 (p.2.map V.int)) ∧ ks.length < 64 ∧ Q (.int (lenSetL (ks.map (·.2)))) H1
theorem pe_lenSetL {a : Expr} {ta : TE} {p p2 q pos : Pos} (hc : X.calm = true) (hu : X.A.units + 65 < cLine) (hg : Gl X "len") (hm : X.mg "len" = none) (hg2 : Gl X "set") (hm2 : X.mg "set" = none) (ha : PE X a ta)
    (na : starEach [a] X.env = (false, eval a X.env) :: starEach [] X.env) : PE X (.Call (.Name "len" p) [.Call (.Name "set" p2) [a] [] q] [] pos) (tLenSetL X.K ta) := by
  refine ⟨fun pins s σ H Q I h => ?_⟩
  refine Call_ (ld_blt I hg hm PySem.boot_len ?_)
  refine PyProof.Rows.callWith_builtin1 (PyProof.Rows.args_cons ?_ rfl) rfl rfl
  refine Call_ (ld_blt I hg2 hm2 PyProof.Rows.boot_set ?_)
  refine PyProof.Rows.callWith_type1 (PyProof.Rows.args_cons (thn (ha.run pins s σ H _ I h) fun v s1 ⟨x, H1, I1, r1, q1⟩ => PyProof.Rows.args_nil ?_) na) na rfl
  obtain ⟨l, ks, rfl, hl, hk, hf, q1⟩ := q1
  cases r1
  obtain ⟨its, rv, pl, hz⟩ := I1.list hl
  refine call_set_tups (P := X.prog) (w := X.w) ks (I1.ok.hd hc) pl.isList (by simpa using refs_of_vals rv) (fun p hp => I1.isT (hk p hp)) hf (by omega) fun h' tk L es ep t R g k => ?_
  refine PyProof.Rows.args_nil ?_
  obtain ⟨o, ho, hex, hd⟩ := R.ob
  have el : es.size = (ddL (ks.map (·.2))).length := by
    rw [SetTR.size (s := { s1 with heap := h', toks := tk }) R]
    have nd := R.nd
    have m : ∀ k, k ∈ L.map (·.2) ↔ k ∈ ddL (ks.map (·.2)) := fun k => by
      rw [ddL_mem]
      constructor
      · intro hk2
        obtain ⟨p, hp, rfl⟩ := List.mem_map.mp hk2
        exact List.mem_map.mpr ⟨p, List.mem_of_mem_take (g.sub p hp), rfl⟩
      · intro hk2
        obtain ⟨p, hp, rfl⟩ := List.mem_map.mp hk2
        exact g.all p (by rw [List.take_length]; exact hp)
    have := ((List.perm_ext_iff_of_nodup nd (ddL_nd _)).mpr m).length_eq
    rw [List.length_map] at this
    exact this
  have few := R.few
  have sz := SetTR.size (s := { s1 with heap := h', toks := tk }) R
  have I2 : Inv X pins σ H1 { s1 with heap := h', toks := tk } := I1.kept k
  refine call_len_set ho hex hd (SetTR.fits (s := { s1 with heap := h', toks := tk }) R) (by omega) ⟨.int (lenSetL (ks.map (·.2))), H1, I2.tok _, ⟨_, by unfold lenSetL; rw [el]⟩, q1⟩
end
section
variable {T : TC} {a : Expr} {e0 e1 : Env'} {pos p p1 p2 : Pos} {K : PySem.W.Frag} {C : Hp}
theorem rps_tups : ∀ {xss : List (List Int)} {vs : List V}, Rps K C vs (xss.map (eT PyData.int)) → ∃ ks : List (Addr × List Int), vs = ks.map (fun p => V.ref p.1) ∧ ks.map (·.2) = xss ∧ ∀ p ∈ ks, SqT K C p.1 (p.2.map V.int)
  | [], _, r => by rw [List.map_nil] at r; cases r; exact ⟨[], rfl, rfl, fun p hp => by cases hp⟩
  | x :: xs, _, r => by
    rw [List.map_cons] at r
    cases r with
    | cons r1 r2 =>
      obtain ⟨ks, e1, e2, e3⟩ := rps_tups r2
      cases r1 with
      | tup q l r =>
        have e := r.int
        subst e
        subst e1
        exact ⟨(_, x) :: ks, rfl, by rw [List.map_cons, e2], fun p hp => by
          rcases List.mem_cons.mp hp with rfl | hp
          · exact q
          · exact e3 p hp⟩
theorem je_lenSetL {xss : List (List Int)} (hg : glB T.sc "len" = true) (hm : T.mg "len" = none) (hg2 : glB T.sc "set" = true) (hm2 : T.mg "set" = none) (ha : JE T a e0 e1 (.b (.list (xss.map (eT PyData.int))))) (hn : xss.length < 64)
    (na : ∀ v : Env, starEach [a] v = (false, eval a v) :: starEach [] v := by intro _; rfl) : JE T (.Call (.Name "len" p) [.Call (.Name "set" p1) [a] [] p2] [] pos) e0 e1 (.d (.int (lenSetL xss))) := fun X hX =>
  (pe_lenSetL hX.calm (by have := hX.room.un; omega) (gl_of hX hg) (by rw [hX.mg]; exact hm) (gl_of hX hg2) (by rw [hX.mg]; exact hm2) (ha X hX) (na X.env)).wk fun σ H Q ⟨R, C, E, k⟩ => ⟨R, C, E, fun v C1 H1 c1 E1 r1 => by
    rw [hX.K] at *
    obtain ⟨q, vs, rfl, h1, l1, r1⟩ := rb_lst E1 r1
    obtain ⟨ks, e1, e2, e3⟩ := rps_tups r1
    subst e1 e2
    rw [List.length_map] at hn
    exact ⟨q, ks, rfl, SqL.of h1, fun p hp => (E1.cH.t (e3 p hp)), hn, k _ C1 H1 c1 E1 (.int _)⟩⟩
end
section
variable {T : TC} {a : Expr} {e0 e1 : Env'} {pos p p2 p3 : Pos}
/-! ### tuple(range(n)) -/
theorem je_tupRg1 {n : Int} (hg : glB T.sc "tuple" = true) (hm : T.mg "tuple" = none) (hg' : glB T.sc "range" = true) (hm' : T.mg "range" = none) (h : JE T a e0 e1 (.d (.int n))) (hn : rg1 n)
    (hs : ∀ v : Env, starEach [a] v = [(false, eval a v)] := by intro _; rfl) (hs' : ∀ v : Env, starEach [.Call (.Name "range" p2) [a] [] p3] v = [(false, eval (.Call (.Name "range" p2) [a] [] p3) v)] := by intro _; rfl) : JE T (.Call (.Name "tuple" p) [.Call (.Name "range" p2) [a] [] p3] [] pos) e0 e1 (.d (.tuple ((rgI 0 n).map .int))) := fun X hX =>
  (pe_tupRg hX.calm (gl_of hX hg) (by rw [hX.mg]; exact hm) (prg_1 (gl_of hX hg') (by rw [hX.mg]; exact hm') (h X hX) (hs X.env)) (hs' X.env)).wk fun σ H Q ⟨R, C, E, k⟩ => ⟨R, C, E, fun v C1 H1 c1 E1 r1 => by
    cases r1
    obtain ⟨h1, h2⟩ := hn
    refine ⟨n, rfl, ⟨by omega, by omega, h1, by omega, by omega⟩, fun q hq => ?_⟩
    obtain ⟨c, E2, r⟩ := E1.freshT hq (by rw [rgV_length]; show _ ≤ 16777216; omega) (rgV_rgI 0 n)
    exact k _ _ _ (c1.trans c) E2 r⟩
end
end J
namespace J
open PySem L2 PySem.Spec PyProof.Rows

/-! ### dicts, as lists of entries -/
section
variable {κ ν : Type} [DecidableEq κ]
def dGet (xs : List (κ × ν)) (k : κ) : Option ν := (xs.find? fun p => decide (p.1 = k)).map (·.2)
def dHas (xs : List (κ × ν)) (k : κ) : Bool := (dGet xs k).isSome
def dPut (xs : List (κ × ν)) (k : κ) (v : ν) : List (κ × ν) := if (xs.any fun p => decide (p.1 = k)) = true then xs.map (fun p => if p.1 = k then (p.1, v) else p) else xs ++ [(k, v)]
def dDel (xs : List (κ × ν)) (k : κ) : List (κ × ν) := xs.filter fun p => decide (p.1 ≠ k)
def dMk (ps : List (κ × ν)) : List (κ × ν) := ps.foldl (fun acc p => dPut acc p.1 p.2) []
theorem dGet_nil {k : κ} : dGet ([] : List (κ × ν)) k = none := rfl
theorem dGet_pos {p : κ × ν} {r : List (κ × ν)} {k : κ} (e : p.1 = k) : dGet (p :: r) k = some p.2 := by simp [dGet, List.find?_cons, e]
theorem dGet_neg {p : κ × ν} {r : List (κ × ν)} {k : κ} (e : ¬ p.1 = k) : dGet (p :: r) k = dGet r k := by simp [dGet, List.find?_cons, e]
theorem dPut_len (xs : List (κ × ν)) (k : κ) (v : ν) : (dPut xs k v).length ≤ xs.length + 1 := by
  unfold dPut; split
  · simp
  · simp
theorem dMk_len : ∀ (ps acc : List (κ × ν)), (ps.foldl (fun acc p => dPut acc p.1 p.2) acc).length ≤ acc.length + ps.length
  | [], acc => by simp
  | p :: r, acc => by
    have := dMk_len r (dPut acc p.1 p.2)
    have h2 := dPut_len acc p.1 p.2
    simp only [List.foldl_cons, List.length_cons] at *; omega
end
section
variable {κ ν : Type}
@[reducible] def eM (ek : κ → PyData) (ev : ν → PyData) : List (κ × ν) → PyData := fun xs => .dict (xs.map fun p => (ek p.1, ev p.2))
end
/-- what a dict's keys are -/
structure KeyE {κ : Type} (ek : κ → PyData) where
  f : κ → Key
  e : ∀ k, ek k = kD (f k)
  inj : ∀ a b, f a = f b → a = b
def ke_int : KeyE PyData.int := ⟨.inl, fun _ => rfl, fun a b h => by cases h; rfl⟩
def ke_str : KeyE PyData.str := ⟨.inr, fun _ => rfl, fun a b h => by cases h; rfl⟩
theorem kD_inj {a b : Key} (h : kD a = kD b) : a = b := by
  cases a <;> cases b <;> simp [kD] at h <;> rw [h]
section
variable {κ ν : Type} [DecidableEq κ] {ek : κ → PyData} {ev : ν → PyData} {K : PySem.W.Frag} {C H : Hp} {kvs : List (Key × V)} {xs : List (κ × ν)} {w : V}
theorem rpk_inv {a b : PyData} {es : List (PyData × PyData)} (h : RpK K C kvs ((a, b) :: es)) : ∃ k v r, kvs = (k, v) :: r ∧ a = kD k ∧ Rp K C v b ∧ RpK K C r es ∧ kOk k := by
  cases h; exact ⟨_, _, _, rfl, rfl, ‹_›, ‹_›, ‹_›⟩
/-- the entries of the heap's dict, one by one -/
theorem rpk_cons (ke : KeyE ek) {p : κ × ν} (h : RpK K C kvs ((p :: xs).map fun p => (ek p.1, ev p.2))) : ∃ v r, kvs = (ke.f p.1, v) :: r ∧ Rp K C v (ev p.2) ∧ RpK K C r (xs.map fun p => (ek p.1, ev p.2)) ∧ kOk (ke.f p.1) := by
  obtain ⟨k, v, r, h1, h2, h3, h4, h5⟩ := rpk_inv h
  rw [ke.e] at h2
  have := kD_inj h2
  subst this
  exact ⟨v, r, h1, h3, h4, h5⟩
theorem rpk_mk (ke : KeyE ek) {k : κ} {v : ν} {r : List (Key × V)} (o : kOk (ke.f k)) (h : Rp K C w (ev v)) (h' : RpK K C r (xs.map fun p => (ek p.1, ev p.2))) : RpK K C ((ke.f k, w) :: r) (((k, v) :: xs).map fun p => (ek p.1, ev p.2)) := by
  show RpK K C _ ((ek k, ev v) :: _)
  rw [ke.e]; exact .cons o h h'
theorem rpk_nil (h : RpK K C kvs (([] : List (κ × ν)).map fun p => (ek p.1, ev p.2))) : kvs = [] := by cases h; rfl
theorem rpk_get (ke : KeyE ek) (k : κ) : ∀ {xs : List (κ × ν)} {kvs : List (Key × V)}, RpK K C kvs (xs.map fun p => (ek p.1, ev p.2)) → (dGet xs k = none ∧ valV kvs (ke.f k) = none) ∨ ∃ v w, dGet xs k = some v ∧ valV kvs (ke.f k) = some w ∧ Rp K C w (ev v)
  | [], kvs, h => by rw [rpk_nil h]; exact .inl ⟨rfl, rfl⟩
  | p :: xs, kvs, h => by
    obtain ⟨v, r, e, h1, h2, h3⟩ := rpk_cons ke h
    subst e
    by_cases c : p.1 = k
    · exact .inr ⟨p.2, v, dGet_pos c, valV_pos (by rw [← c]), h1⟩
    · rw [dGet_neg c, valV_neg (fun z => c (ke.inj _ _ z))]
      exact rpk_get ke k h2
theorem rpk_any (ke : KeyE ek) (k : κ) : ∀ {xs : List (κ × ν)} {kvs : List (Key × V)}, RpK K C kvs (xs.map fun p => (ek p.1, ev p.2)) → (kvs.any fun kv => decide (kv.1 = ke.f k)) = (xs.any fun p => decide (p.1 = k))
  | [], kvs, h => by rw [rpk_nil h]; rfl
  | p :: xs, kvs, h => by
    obtain ⟨v, r, e, h1, h2, h3⟩ := rpk_cons ke h
    subst e
    rw [List.any_cons, List.any_cons, rpk_any ke k h2]
    congr 1
    show decide (ke.f p.1 = ke.f k) = decide (p.1 = k)
    exact decide_eq_decide.mpr ⟨ke.inj _ _, fun z => by rw [z]⟩
theorem rpk_upd (ke : KeyE ek) (k : κ) {v : ν} (hw : Rp K C w (ev v)) : ∀ {xs : List (κ × ν)} {kvs : List (Key × V)}, RpK K C kvs (xs.map fun p => (ek p.1, ev p.2)) → RpK K C (kvs.map fun kv => if kv.1 = ke.f k then (kv.1, w) else kv) ((xs.map fun p => if p.1 = k then (p.1, v) else p).map fun p => (ek p.1, ev p.2))
  | [], kvs, h => by rw [rpk_nil h]; exact .nil
  | p :: xs, kvs, h => by
    obtain ⟨u, r, e, h1, h2, h3⟩ := rpk_cons ke h
    subst e
    rw [List.map_cons, List.map_cons (l := xs)]
    by_cases c : p.1 = k
    · rw [if_pos c, if_pos (show (ke.f p.1, u).1 = ke.f k by rw [← c])]
      exact rpk_mk ke h3 hw (rpk_upd ke k hw h2)
    · rw [if_neg c, if_neg (show ¬ (ke.f p.1, u).1 = ke.f k from fun z => c (ke.inj _ _ z))]
      exact rpk_mk ke h3 h1 (rpk_upd ke k hw h2)
theorem rpk_snoc (ke : KeyE ek) (k : κ) {v : ν} (hk : kOk (ke.f k)) (hw : Rp K C w (ev v)) : ∀ {xs : List (κ × ν)} {kvs : List (Key × V)}, RpK K C kvs (xs.map fun p => (ek p.1, ev p.2)) → RpK K C (kvs ++ [(ke.f k, w)]) ((xs ++ [(k, v)]).map fun p => (ek p.1, ev p.2))
  | [], kvs, h => by rw [rpk_nil h]; exact rpk_mk (xs := []) ke hk hw .nil
  | p :: xs, kvs, h => by
    obtain ⟨u, r, e, h1, h2, h3⟩ := rpk_cons ke h
    subst e
    exact rpk_mk ke h3 h1 (rpk_snoc ke k hk hw h2)
theorem rpk_put (ke : KeyE ek) (k : κ) {v : ν} (hk : kOk (ke.f k)) (hw : Rp K C w (ev v)) (h : RpK K C kvs (xs.map fun p => (ek p.1, ev p.2))) : RpK K C (putK kvs (ke.f k) w) ((dPut xs k v).map fun p => (ek p.1, ev p.2)) := by
  unfold putK dPut
  rw [rpk_any ke k h]
  split
  · exact rpk_upd ke k hw h
  · exact rpk_snoc ke k hk hw h
theorem rpk_del (ke : KeyE ek) (k : κ) : ∀ {xs : List (κ × ν)} {kvs : List (Key × V)}, RpK K C kvs (xs.map fun p => (ek p.1, ev p.2)) → RpK K C (dropK kvs (ke.f k)) ((dDel xs k).map fun p => (ek p.1, ev p.2))
  | [], kvs, h => by rw [rpk_nil h]; exact .nil
  | p :: xs, kvs, h => by
    obtain ⟨u, r, e, h1, h2, h3⟩ := rpk_cons ke h
    subst e
    unfold dropK dDel
    by_cases c : p.1 = k
    · rw [List.filter_cons_of_neg (by simp [c]), List.filter_cons_of_neg (by simp [c])]
      exact rpk_del ke k h2
    · rw [List.filter_cons_of_pos (by simpa using fun z => c (ke.inj _ _ z)), List.filter_cons_of_pos (by simpa using c)]
      exact rpk_mk ke h3 h1 (rpk_del ke k h2)
theorem rpk_merge (ke : KeyE ek) : ∀ {ps acc : List (κ × ν)} {kps kacc : List (Key × V)}, RpK K C kps (ps.map fun p => (ek p.1, ev p.2)) → RpK K C kacc (acc.map fun p => (ek p.1, ev p.2)) → RpK K C (mergeK kacc kps) ((ps.foldl (fun acc p => dPut acc p.1 p.2) acc).map fun p => (ek p.1, ev p.2))
  | [], acc, kps, kacc, h, h' => by rw [rpk_nil h]; exact h'
  | p :: ps, acc, kps, kacc, h, h' => by
    obtain ⟨u, r, e, h1, h2, h3⟩ := rpk_cons ke h
    subst e
    exact rpk_merge (ps := ps) (kps := r) ke h2 (rpk_put ke p.1 h3 h1 h')
theorem rp_key (ke : KeyE ek) {k : κ} {v : V} (h : Rp K C v (ek k)) : v = kV (ke.f k) := by
  rw [ke.e] at h
  revert h
  cases ke.f k with
  | inl i => intro h; cases h; rfl
  | inr x => intro h; cases h; rfl
theorem rp_kOk (ke : KeyE ek) {k : κ} {v : V} (h : Rp K C v (ek k)) : kOk (ke.f k) := by
  rw [ke.e] at h
  revert h
  cases ke.f k with
  | inl i => intro _; trivial
  | inr x => intro h; cases h with | str h => exact h
theorem key_rp (ke : KeyE ek) {k : κ} {v : V} {d : PyData} (h : ek k = d) (r : Rp K C v d) : v = kV (ke.f k) := rp_key ke (h ▸ r)
end
theorem kvs_head {κ ν : Type} [DecidableEq κ] {ek : κ → PyData} {ev : ν → PyData} (ke : KeyE ek) {xs : List (κ × ν)} : ∀ x, (xs.map fun p => (ek p.1, ev p.2)).head? = some x → x.1 ≠ .none := fun x h => by
  cases xs with
  | nil => cases h
  | cons p xs =>
    simp at h; subst h
    show ek p.1 ≠ .none
    rw [ke.e]
    cases ke.f p.1 <;> simp [kD]

/-! ### rules -/
section
variable {T : TC} {a b e o : Expr} {es : List Expr} {env e0 e1 e2 e3 : Env'} {pos p apos : Pos} {x y z : PyData} {ds : List PyData} {K : PySem.W.Frag} {R C H : Hp} {σ : L2.St} {v : V} {κ ν : Type} [DecidableEq κ] {ek : κ → PyData} {ev : ν → PyData} {xs : List (κ × ν)} {k : κ}
theorem EnvC.freshK {es : List (PyData × PyData)} {kvs : List (Key × V)} {p : Addr} (E : EnvC K R C env σ H) (hp : H p = none) (l : kvs.length ≤ LN) (r : RpK K C kvs es) : EnvC K R C env σ (upd H p (.dK kvs)) ∧ Rr K R C (upd H p (.dK kvs)) env σ (.ref p) (.o (.dict es)) :=
  ⟨E.newO hp, p, rfl, E.cN hp, E.rN hp, E.notOwn hp, .inl ⟨kvs, by rw [upd_same], l, r⟩⟩
theorem je_dnew : JE T (.Dict [] [] pos) env env (.o (eM ek ev [])) := fun X hX => pe_dnewK.wk fun σ H Q ⟨R, C, E, k⟩ p hp => by
  obtain ⟨E', r⟩ := E.freshK (es := []) (kvs := []) hp (by show 0 ≤ LN; exact Nat.zero_le _) .nil
  exact k _ C _ (Ex.refl C) E' r
/-- two operands -/
theorem je2_run {X : Cx} (hX : CT X T) (h : JE2 T a b e0 e2 x y) : ∃ ta tb, PE X a ta ∧ PE X b tb ∧ ∀ σ H (Q : V → V → Hp → Prop),
    (∃ R C, EnvC X.K R C e0 σ H ∧ ∀ u v C' H', Ex C C' → EnvC X.K R C' e2 σ H' → Rr X.K R C' H' e2 σ u (.b x) → Rr X.K R C' H' e2 σ v (.b y) → Q u v H') → ta σ H fun u H1 => tb σ H1 fun v H2 => Q u v H2 := by
  rcases h with ⟨e1, ha, hb⟩ | ⟨ha, hb⟩
  · refine ⟨_, _, ha X hX, hb X hX, fun σ H Q ⟨R, C, E, k⟩ => ?_⟩
    refine ⟨R, C, E, fun u C1 H1 c1 E1 r1 => ⟨R, C1, E1, fun v C2 H2 c2 E2 r2 => ?_⟩⟩
    exact k u v C2 H2 (c1.trans c2) E2 (.inl (Rp.mono c2 r1)) r2
  · refine ⟨_, _, ha X hX, hb X hX, fun σ H Q ⟨R, C, E, k⟩ => ?_⟩
    refine ⟨R, C, E, fun u C1 H1 c1 E1 r1 => ⟨R, C1, E1, fun v C2 H2 c2 E2 r2 => ?_⟩⟩
    refine k u v C2 H2 (c1.trans c2) E2 ?_ r2
    rcases r1 with r1 | ⟨i, q, h1, h2⟩
    · exact .inl (r1.mono c2)
    · exact .inr ⟨i, q, h1, h2⟩
theorem rp_dK {es : List (PyData × PyData)} (hn : ∀ x, es.head? = some x → x.1 ≠ .none) (h : Rp K H v (.dict es)) : ∃ p kvs, v = .ref p ∧ Rd H p (.dK kvs) ∧ kvs.length ≤ LN ∧ RpK K H kvs es := by
  cases h with
  | scr q l r => exact absurd rfl (hn _ rfl)
  | tupD q _ l r => exact absurd rfl (hn _ rfl)
  | dK q l r => exact ⟨_, _, rfl, q, l, r⟩
  | dT q l r => exact absurd rfl (hn _ rfl)
theorem isD_rp {es : List (PyData × PyData)} (hn : ∀ x, es.head? = some x → x.1 ≠ .none) (h : Rp K H v (.dict es)) : ∃ a, v = .ref a ∧ IsD H a := by
  cases h with
  | scr q l r => exact absurd rfl (hn _ rfl)
  | tupD q _ l r => exact absurd rfl (hn _ rfl)
  | dK q l r => exact ⟨_, rfl, .inl ⟨_, q⟩⟩
  | dT q l r => exact absurd rfl (hn _ rfl)
theorem rb_key (ke : KeyE ek) (E : EnvC K R C env σ H) (h : Rr K R C H env σ v (.b (ek k))) : v = kV (ke.f k) := rp_key ke (rb_rp E h)
theorem dget_at (ke : KeyE ek) (E : EnvC K R C env σ H) (h : Rr K R C H env σ v (.b (eM ek ev xs))) : ∃ a, v = .ref a ∧ ((dGet xs k = none ∧ DGet H a (kV (ke.f k)) none) ∨ ∃ u w, dGet xs k = some u ∧ DGet H a (kV (ke.f k)) (some w) ∧ Rp K C w (ev u)) := by
  obtain ⟨p, kvs, rfl, hr, l, r⟩ := rb_dK E h (kvs_head ke)
  refine ⟨p, rfl, ?_⟩
  rcases rpk_get ke k r with ⟨h1, h2⟩ | ⟨u, w, h1, h2, h3⟩
  · exact .inl ⟨h1, .inl ⟨kvs, _, hr, rfl, h2.symm⟩⟩
  · exact .inr ⟨u, w, h1, .inl ⟨kvs, _, hr, rfl, h2.symm⟩, h3⟩
theorem je_dget [Inhabited ν] (ke : KeyE ek) (h : JE2 T a b e0 e2 (eM ek ev xs) (ek k)) (hs : (dGet xs k).isSome = true) (hn : NoSl b := by intro _ _; rfl) : JE T (.Subscript a b pos) e0 e2 (.d (ev (unO (dGet xs k)))) := fun X hX => by
  obtain ⟨ta, tb, ha, hb, q⟩ := je2_run hX h
  refine (pe_dget (hu_of hX.room) ha hb hn).wk fun σ H Q ⟨R, C, E, kk⟩ => ?_
  exact q σ H (fun u v H' => ∃ a w, u = .ref a ∧ DGet H' a v (some w) ∧ Q w H') ⟨R, C, E, fun u v C' H' c E' r1 r2 => by
    have := rb_key ke E' r2
    subst this
    obtain ⟨a, rfl, h1⟩ := dget_at (k := k) ke E' r1
    rcases h1 with ⟨h1, h2⟩ | ⟨u, w, h1, h2, h3⟩
    · rw [h1] at hs; cases hs
    · refine ⟨a, w, rfl, h2, kk w C' H' c E' ?_⟩
      rw [h1]; exact h3⟩
/-- in a dict -/
theorem dhas_at (ke : KeyE ek) (E : EnvC K R C env σ H) (h : Rr K R C H env σ v (.b (eM ek ev xs))) : ∃ a o, v = .ref a ∧ DGet H a (kV (ke.f k)) o ∧ o.isSome = dHas xs k := by
  obtain ⟨a, rfl, h1⟩ := dget_at (k := k) ke E h
  rcases h1 with ⟨h1, h2⟩ | ⟨u, w, h1, h2, h3⟩
  · exact ⟨a, none, rfl, h2, by unfold dHas; rw [h1]; rfl⟩
  · exact ⟨a, some w, rfl, h2, by unfold dHas; rw [h1]; rfl⟩
theorem je_din (ke : KeyE ek) (h : JE2 T a b e0 e2 (ek k) (eM ek ev xs)) (hm : behindInMarks .In b = false := by first | exact nobehind _ (by decide) (by decide) | rfl) : JE T (.Compare a [.In] [b] pos) e0 e2 (.d (.bool (dHas xs k))) := fun X hX => by
  obtain ⟨ta, tb, ha, hb, q⟩ := je2_run hX h
  refine (pe_cmp (pc_din (hu_of hX.room) ha hb) hm).wk fun σ H Q ⟨R, C, E, kk⟩ => ?_
  exact q σ H (fun v u H' => ∃ a o, u = .ref a ∧ DGet H' a v o ∧ Q (.bl o.isSome) H') ⟨R, C, E, fun v u C' H' c E' r1 r2 => by
    have := rb_key ke E' r1
    subst this
    obtain ⟨a, o, rfl, h1, h2⟩ := dhas_at (k := k) ke E' r2
    exact ⟨a, o, rfl, h1, by rw [h2]; exact kk _ C' H' c E' (.bl _)⟩⟩
theorem je_dnotin (ke : KeyE ek) (h : JE2 T a b e0 e2 (ek k) (eM ek ev xs)) (hm : behindInMarks .NotIn b = false := by first | exact nobehind _ (by decide) (by decide) | rfl) : JE T (.Compare a [.NotIn] [b] pos) e0 e2 (.d (.bool (!dHas xs k))) := fun X hX => by
  obtain ⟨ta, tb, ha, hb, q⟩ := je2_run hX h
  refine (pe_cmp (pc_dnotin (hu_of hX.room) ha hb) hm).wk fun σ H Q ⟨R, C, E, kk⟩ => ?_
  exact q σ H (fun v u H' => ∃ a o, u = .ref a ∧ DGet H' a v o ∧ Q (.bl (!o.isSome)) H') ⟨R, C, E, fun v u C' H' c E' r1 r2 => by
    have := rb_key ke E' r1
    subst this
    obtain ⟨a, o, rfl, h1, h2⟩ := dhas_at (k := k) ke E' r2
    exact ⟨a, o, rfl, h1, by rw [h2]; exact kk _ C' H' c E' (.bl _)⟩⟩
theorem jt_din (ke : KeyE ek) (h : JE2 T a b e0 e2 (ek k) (eM ek ev xs)) (hm : behindInMarks .In b = false := by first | exact nobehind _ (by decide) (by decide) | rfl) : JT T (.Compare a [.In] [b] pos) e0 e2 (dHas xs k) := fun X hX => by
  obtain ⟨ta, tb, ha, hb, q⟩ := je2_run hX h
  refine (pt_cmp (pc_din (hu_of hX.room) ha hb) hm).wk fun σ H Q ⟨R, C, E, kk⟩ => ?_
  exact q σ H (fun v u H' => ∃ a o, u = .ref a ∧ DGet H' a v o ∧ ∃ c, V.bl o.isSome = .bl c ∧ Q c H') ⟨R, C, E, fun v u C' H' c E' r1 r2 => by
    have := rb_key ke E' r1
    subst this
    obtain ⟨a, o, rfl, h1, h2⟩ := dhas_at (k := k) ke E' r2
    exact ⟨a, o, rfl, h1, _, rfl, by rw [h2]; exact kk C' H' c E'⟩⟩
theorem jt_dnotin (ke : KeyE ek) (h : JE2 T a b e0 e2 (ek k) (eM ek ev xs)) (hm : behindInMarks .NotIn b = false := by first | exact nobehind _ (by decide) (by decide) | rfl) : JT T (.Compare a [.NotIn] [b] pos) e0 e2 (!dHas xs k) := fun X hX => by
  obtain ⟨ta, tb, ha, hb, q⟩ := je2_run hX h
  refine (pt_cmp (pc_dnotin (hu_of hX.room) ha hb) hm).wk fun σ H Q ⟨R, C, E, kk⟩ => ?_
  exact q σ H (fun v u H' => ∃ a o, u = .ref a ∧ DGet H' a v o ∧ ∃ c, V.bl (!o.isSome) = .bl c ∧ Q c H') ⟨R, C, E, fun v u C' H' c E' r1 r2 => by
    have := rb_key ke E' r1
    subst this
    obtain ⟨a, o, rfl, h1, h2⟩ := dhas_at (k := k) ke E' r2
    exact ⟨a, o, rfl, h1, _, rfl, by rw [h2]; exact kk C' H' c E'⟩⟩
/-- d.get(k), d.get(k, x) -/
structure PlainG (o : Expr) (nm : Str) (apos : Pos) (es : List Expr) (pos : Pos) : Prop where
  base : ∀ v : Env, attributeBase o nm v (eval o v) = eval o v
  few : ∀ v : Env, ((backTo pos (starEach es v)).all (fun x => !x.1) && (backToKw pos (keywordEach [] v)).all (fun x => x.1.isSome) && decide (es.length + ([] : List Keyword).length + (if ([] : List Keyword).isEmpty then 0 else 1) < 30)) = true
  line : (apos.endLine == pos.line) = true
theorem je_get1 [Inhabited ν] (ke : KeyE ek) (h : JE2 T o b e0 e2 (eM ek ev xs) (ek k)) (hp : PlainG o "get" apos [b] pos := by exact ⟨fun _ => rfl, fun _ => rfl, rfl⟩) (ht : ∀ v : Env, backTo pos (starEach [b] v) = [(false, eval b v)] := by intro _; rfl) :
    JE T (.Call (.Attribute o "get" apos) [b] [] pos) e0 e2 (.d (eO ev (dGet xs k))) := fun X hX => by
  rcases h with ⟨e1, ha, hb⟩ | ⟨ha, hb⟩
  · refine (pe_dget1 (hu_of hX.room) (ha X hX) (hb X hX) ⟨hp.base X.env, hp.few X.env, hp.line, ht X.env⟩).wk fun σ H Q ⟨R, C, E, kk⟩ => ?_
    refine ⟨R, C, E, fun u C1 H1 c1 E1 r1 => ?_⟩
    obtain ⟨a, rfl, hd⟩ := isD_rp (kvs_head ke) (Rp.mono E1.cH r1)
    refine ⟨a, rfl, hd, R, C1, E1, fun v C2 H2 c2 E2 r2 => ?_⟩
    have := rb_key ke E2 r2
    subst this
    obtain ⟨a', ea, h1⟩ := dget_at (k := k) ke E2 (.inl (Rp.mono c2 r1))
    cases ea
    rcases h1 with ⟨h1, h2⟩ | ⟨u, w, h1, h2, h3⟩
    · exact ⟨none, h2, kk _ C2 H2 (c1.trans c2) E2 (by rw [h1]; exact .non)⟩
    · exact ⟨some w, h2, kk _ C2 H2 (c1.trans c2) E2 (by rw [h1]; exact h3)⟩
  · refine (pe_dget1 (hu_of hX.room) (ha X hX) (hb X hX) ⟨hp.base X.env, hp.few X.env, hp.line, ht X.env⟩).wk fun σ H Q ⟨R, C, E, kk⟩ => ?_
    refine ⟨R, C, E, fun u C1 H1 c1 E1 r1 => ?_⟩
    obtain ⟨a, rfl, hd⟩ := isD_rp (kvs_head ke) (rb_rp E1 r1)
    refine ⟨a, rfl, hd, R, C1, E1, fun v C2 H2 c2 E2 r2 => ?_⟩
    have := rb_key ke E2 r2
    subst this
    have r1' : Rr X.K R C2 H2 e2 σ (.ref a) (.b (eM ek ev xs)) := by
      rcases r1 with r1 | ⟨i, q, h1, h2⟩
      · exact .inl (r1.mono c2)
      · exact .inr ⟨i, q, h1, h2⟩
    obtain ⟨a', ea, h1⟩ := dget_at (k := k) ke E2 r1'
    cases ea
    rcases h1 with ⟨h1, h2⟩ | ⟨u, w, h1, h2, h3⟩
    · exact ⟨none, h2, kk _ C2 H2 (c1.trans c2) E2 (by rw [h1]; exact .non)⟩
    · exact ⟨some w, h2, kk _ C2 H2 (c1.trans c2) E2 (by rw [h1]; exact h3)⟩
theorem je_get2 {f : Expr} {x : ν} (ke : KeyE ek) (h : JE2 T o b e0 e2 (eM ek ev xs) (ek k)) (hf : JE T f e2 e2 (.d (ev x))) (hp : PlainG o "get" apos [b, f] pos := by exact ⟨fun _ => rfl, fun _ => rfl, rfl⟩) (ht : ∀ v : Env, backTo pos (starEach [b, f] v) = [(false, eval b v), (false, eval f v)] := by intro _; rfl) :
    JE T (.Call (.Attribute o "get" apos) [b, f] [] pos) e0 e2 (.d (ev ((dGet xs k).getD x))) := fun X hX => by
  rcases h with ⟨e1, ha, hb⟩ | ⟨ha, hb⟩
  · refine (pe_dget2 (hu_of hX.room) (ha X hX) (hb X hX) (hf X hX) ⟨hp.base X.env, hp.few X.env, hp.line, ht X.env⟩).wk fun σ H Q ⟨R, C, E, kk⟩ => ?_
    refine ⟨R, C, E, fun u C1 H1 c1 E1 r1 => ?_⟩
    obtain ⟨a, rfl, hd⟩ := isD_rp (kvs_head ke) (Rp.mono E1.cH r1)
    refine ⟨a, rfl, hd, R, C1, E1, fun v C2 H2 c2 E2 r2 => ⟨R, C2, E2, fun w C3 H3 c3 E3 r3 => ?_⟩⟩
    have := rb_key ke E2 r2
    subst this
    obtain ⟨a', ea, h1⟩ := dget_at (k := k) ke E3 (.inl (Rp.mono (c2.trans c3) r1))
    cases ea
    rcases h1 with ⟨h1, h2⟩ | ⟨u, w', h1, h2, h3⟩
    · exact ⟨none, h2, kk _ C3 H3 ((c1.trans c2).trans c3) E3 (by rw [h1]; exact r3)⟩
    · exact ⟨some w', h2, kk _ C3 H3 ((c1.trans c2).trans c3) E3 (by rw [h1]; exact h3)⟩
  · refine (pe_dget2 (hu_of hX.room) (ha X hX) (hb X hX) (hf X hX) ⟨hp.base X.env, hp.few X.env, hp.line, ht X.env⟩).wk fun σ H Q ⟨R, C, E, kk⟩ => ?_
    refine ⟨R, C, E, fun u C1 H1 c1 E1 r1 => ?_⟩
    obtain ⟨a, rfl, hd⟩ := isD_rp (kvs_head ke) (rb_rp E1 r1)
    refine ⟨a, rfl, hd, R, C1, E1, fun v C2 H2 c2 E2 r2 => ⟨R, C2, E2, fun w C3 H3 c3 E3 r3 => ?_⟩⟩
    have := rb_key ke E2 r2
    subst this
    have r1' : Rr X.K R C3 H3 e2 σ (.ref a) (.b (eM ek ev xs)) := by
      rcases r1 with r1 | ⟨i, q, h1, h2⟩
      · exact .inl (r1.mono (c2.trans c3))
      · exact .inr ⟨i, q, h1, h2⟩
    obtain ⟨a', ea, h1⟩ := dget_at (k := k) ke E3 r1'
    cases ea
    rcases h1 with ⟨h1, h2⟩ | ⟨u, w', h1, h2, h3⟩
    · exact ⟨none, h2, kk _ C3 H3 ((c1.trans c2).trans c3) E3 (by rw [h1]; exact r3)⟩
    · exact ⟨some w', h2, kk _ C3 H3 ((c1.trans c2).trans c3) E3 (by rw [h1]; exact h3)⟩
/-- d.pop(k), k there -/
theorem je_dpop1 [Inhabited ν] {nm : Str} {np : Pos} (i : Nat) (ke : KeyE ek) {k0 : Option Addr} (h : JE T e e0 e1 (.d (ek k))) (hs : (dGet xs k).isSome = true) (hN : T.N[i]? = some nm := by rfl) (hv : visB T.sc nm = true := by rfl) (h0 : ∃ xs0 : List (κ × ν), e0[i]? = some (.o k0 (eM ek ev xs0)) := by exact ⟨_, rfl⟩) (he : e1[i]? = some (.o k0 (eM ek ev xs)) := by rfl)
    (hp : PlainG (.Name nm np) "pop" apos [e] pos := by exact ⟨fun _ => rfl, fun _ => rfl, rfl⟩) (ht : ∀ v : Env, backTo pos (starEach [e] v) = [(false, eval e v)] := by intro _; rfl)
    (hd : (nm == ("__debug__" : Str)) = false := by decide) (hcd : (nm == ("__classdict__" : Str)) = false := by decide) :
    JE T (.Call (.Attribute (.Name nm np) "pop" apos) [e] [] pos) e0 (e1.set i (.o k0 (eM ek ev (dDel xs k)))) (.d (ev (unO (dGet xs k)))) := fun X hX =>
  (pe_dpop1 (pe_var (i := i) (by rw [hX.N]; exact hN) (by rw [hX.sc]; exact vis_of hv) hd hcd) (h X hX) ⟨hp.base X.env, hp.few X.env, hp.line, ht X.env⟩).wk fun σ H Q ⟨R, C, E, kk⟩ => by
    obtain ⟨xs0, h0⟩ := h0
    obtain ⟨p, s0, _, _, _, ow0⟩ := E.own i k0 _ h0
    refine ⟨.ref p, s0, p, rfl, ?_, R, C, E, fun v C1 H1 c1 E1 r1 => ?_⟩
    · rcases ow0 with ⟨kvs, e, _, _⟩ | ⟨kvs, es', q, e, _, _⟩
      · exact .inl ⟨kvs, .inl e⟩
      · exact .inr ⟨kvs, .inl e⟩
    obtain ⟨p', s1, hq, cp, rp, ow⟩ := E1.own i k0 _ he
    rw [s0] at s1; cases s1
    rcases ow with ⟨kvs, e, l, r⟩ | ⟨kvs, es', q, e, _, _⟩
    · have := rp_key ke r1
      subst this
      rcases rpk_get ke k r with ⟨h1, h2⟩ | ⟨u, w, h1, h2, h3⟩
      · rw [h1] at hs; cases hs
      · refine ⟨kvs, _, w, e, rfl, h2, kk _ C1 _ c1 (E1.mutO he s0 cp rp (.inl ⟨_, rfl, ?_, rpk_del ke k r⟩)) ?_⟩
        · exact Nat.le_trans (dropK_le _ _) l
        · rw [h1]; exact h3
    · exact absurd rfl (kvs_head ke (xs := xs) (ev := ev) _ (by rw [q]; rfl))
/-- d[k] = e -/
theorem js_dput {nm : Str} {np tp : Pos} {ix : Expr} {w : ν} (j : Nat) (ke : KeyE ek) {k0 : Option Addr} (h : JE T e e0 e1 (.d (ev w))) (hi : JE T ix e1 e2 (.d (ek k))) (hl : xs.length < LN) (hN : T.N[j]? = some nm := by rfl) (hv : visB T.sc nm = true := by rfl) (h1 : ∃ xs0 : List (κ × ν), e1[j]? = some (.o k0 (eM ek ev xs0)) := by exact ⟨_, rfl⟩) (h2 : e2[j]? = some (.o k0 (eM ek ev xs)) := by rfl)
    (hs : ∀ (v : Env) l, swapsWith e (some (.Subscript (.Name nm np) ix tp)) l v = pure false := by intro _ _; rfl)
    (hd : (nm == ("__debug__" : Str)) = false := by decide) (hcd : (nm == ("__classdict__" : Str)) = false := by decide) :
    JS T (.Assign [.Subscript (.Name nm np) ix tp] e pos) e0 (.nx (e2.set j (.o k0 (eM ek ev (dPut xs k w))))) := fun X hX =>
  (ps_dput (hu_of hX.room) (pe_var (i := j) (by rw [hX.N]; exact hN) (by rw [hX.sc]; exact vis_of hv) hd hcd) (hi X hX) (h X hX) (hs X.env pos.line)).wk fun D σ H ⟨R, C, E, kk⟩ => by
    refine ⟨R, C, E, fun u C1 H1 c1 E1 r1 => ?_⟩
    obtain ⟨xs0, h1⟩ := h1
    obtain ⟨p, s0, _, _, _, ow0⟩ := E1.own j k0 _ h1
    refine ⟨.ref p, s0, R, C1, E1, fun v C2 H2 c2 E2 r2 => ?_⟩
    obtain ⟨p', s1, hq, cp, rp, ow⟩ := E2.own j k0 _ h2
    rw [s0] at s1; cases s1
    rcases ow with ⟨kvs, e, l, r⟩ | ⟨kvs, es', q, e, _, _⟩
    · have hko := rp_kOk ke r2
      have := rp_key ke r2
      subst this
      have hlen : kvs.length < LN := by rw [r.len, List.length_map]; exact hl
      refine ⟨p, _, rfl, DPut.k e (lnS' hlen), kk _ C2 _ (c1.trans c2) (E2.mutO h2 s0 cp rp (.inl ⟨_, rfl, ?_, rpk_put ke k hko (r1.mono c2) r⟩))⟩
      have : (dPut xs k w).length ≤ LN := Nat.le_trans (dPut_len _ _ _) hl
      have z := (rpk_put ke k hko (r1.mono c2) r).len
      rw [z, List.length_map]; exact this
    · exact absurd rfl (kvs_head ke (xs := xs) (ev := ev) _ (by rw [q]; rfl))
/-! ### walks of a dict that is known for ever -/
theorem rd_lk {p : Addr} {kvs : List (Key × V)} (E : EnvC K R C env σ H) (h : Rd C p (.dK kvs)) : ∃ od, C p = some (.frz od (.dK kvs)) := by
  rcases h with h | h
  · exact (E.lk _ _ h).elim
  · exact h
theorem rpk_at (ke : KeyE ek) : ∀ {xs : List (κ × ν)} {kvs : List (Key × V)} {i : Nat} {p : κ × ν}, RpK K C kvs (xs.map fun p => (ek p.1, ev p.2)) → xs[i]? = some p → ∃ w, kvs[i]? = some (ke.f p.1, w) ∧ Rp K C w (ev p.2) ∧ kOk (ke.f p.1)
  | [], _, _, _, _, e => by cases e
  | q :: xs, kvs, 0, p, h, e => by
    obtain ⟨u, r, e2, h1, h2, h3⟩ := rpk_cons ke h
    subst e2
    simp at e; subst e; exact ⟨u, rfl, h1, h3⟩
  | q :: xs, kvs, i + 1, p, h, e => by
    obtain ⟨u, r, e2, h1, h2, h3⟩ := rpk_cons ke h
    subst e2
    obtain ⟨w, a, b⟩ := rpk_at (xs := xs) (kvs := r) (i := i) ke h2 (by simpa using e)
    exact ⟨w, by simpa using a, b⟩
theorem key_of (ke : KeyE ek) {k : κ} (o : kOk (ke.f k)) : Rp K C (kV (ke.f k)) (ek k) := by
  rw [ke.e]
  revert o
  cases ke.f k with
  | inl i => intro _; exact .int i
  | inr x => intro o; exact .str o
variable {tg : Expr}
theorem ji_dkeys (ke : KeyE ek) (h : JE T e e0 e1 (.d (eM ek ev xs))) : JI T tg e e0 e1 ((xs.map (·.1)).map ek) := fun X hX => (pi_keys (h X hX)).wk fun σ H Rr' ⟨R, C, E, k⟩ => ⟨R, C, E, fun v C1 H1 c1 E1 r1 => by
  obtain ⟨p, kvs, rfl, hr', l, r⟩ := rp_dK (kvs_head ke) r1
  obtain ⟨od, hc⟩ := rd_lk E1 hr'
  have hll : xs.length ≤ LN := by have := r.len; rw [List.length_map] at this; rw [← this]; exact l
  refine ⟨p, od, rfl, .inl ⟨kvs, E1.cH _ _ hc, k _ C1 H1 c1 E1 (by simpa using hll) fun C2 env σ H2 c2 E2 => ?_⟩⟩
  have hH := E2.cH _ _ (c2 _ _ hc)
  have hlen : kvs.length = xs.length := by have := r.len; rw [List.length_map] at this; exact this
  refine ⟨⟨hH, by rw [hlen]; simp⟩, fun i d hd => ?_⟩
  rw [List.getElem?_map, List.getElem?_map] at hd
  cases hx : xs[i]? with
  | none => rw [hx] at hd; cases hd
  | some q =>
    rw [hx] at hd; cases hd
    obtain ⟨w, h1, h2, h3⟩ := rpk_at ke r hx
    refine ⟨⟨hH, (List.getElem?_eq_some_iff.mp h1).1⟩, fun x H3 hy => ?_⟩
    obtain ⟨rfl, k', v', h4, rfl⟩ := hy
    rw [h1] at h4; cases h4
    exact ⟨C2, Ex.refl C2, E2, fun _ h => h, fun _ _ h => h, fun _ _ _ h => h, key_of ke h3⟩⟩
theorem ji_dvals {apos : Pos} (ke : KeyE ek) (h : JE T e e0 e1 (.d (eM ek ev xs))) (hb : ∀ v : Env, attributeBase e "values" v (eval e v) = eval e v := by intro _; rfl) (hline : (apos.endLine == pos.line) = true := by rfl) :
    JI T tg (.Call (.Attribute e "values" apos) [] [] pos) e0 e1 ((xs.map (·.2)).map ev) := fun X hX => (pi_values (h X hX) (hb X.env) hline).wk fun σ H Rr' ⟨R, C, E, k⟩ => ⟨R, C, E, fun v C1 H1 c1 E1 r1 => by
  obtain ⟨p, kvs, rfl, hr', l, r⟩ := rp_dK (kvs_head ke) r1
  obtain ⟨od, hc⟩ := rd_lk E1 hr'
  have hll : xs.length ≤ LN := by have := r.len; rw [List.length_map] at this; rw [← this]; exact l
  refine ⟨p, od, kvs, rfl, E1.cH _ _ hc, k _ C1 H1 c1 E1 (by simpa using hll) fun C2 env σ H2 c2 E2 => ?_⟩
  have hH := E2.cH _ _ (c2 _ _ hc)
  have hlen : kvs.length = xs.length := by have := r.len; rw [List.length_map] at this; exact this
  refine ⟨⟨hH, by rw [hlen]; simp⟩, fun i d hd => ?_⟩
  rw [List.getElem?_map, List.getElem?_map] at hd
  cases hx : xs[i]? with
  | none => rw [hx] at hd; cases hd
  | some q =>
    rw [hx] at hd; cases hd
    obtain ⟨w, h1, h2, h3⟩ := rpk_at ke r hx
    refine ⟨⟨hH, (List.getElem?_eq_some_iff.mp h1).1⟩, fun x H3 hy => ?_⟩
    obtain ⟨rfl, k', h4⟩ := hy
    rw [h1] at h4; cases h4
    exact ⟨C2, Ex.refl C2, E2, fun _ h => h, fun _ _ h => h, fun _ _ _ h => h, h2.mono c2⟩⟩
theorem ji_ditems {apos tpos : Pos} {elts : List Expr} {kk : Nat} (ke : KeyE ek) (h : JE T e e0 e1 (.d (eM ek ev xs))) (hb : ∀ v : Env, attributeBase e "items" v (eval e v) = eval e v := by intro _; rfl) (hline : (apos.endLine == pos.line) = true := by rfl) :
    JI T (.Tuple elts kk tpos) (.Call (.Attribute e "items" apos) [] [] pos) e0 e1 (xs.map (eP2 ek ev)) := fun X hX => (pi_items (h X hX) (hb X.env) hline).wk fun σ H Rr' ⟨R, C, E, k⟩ => ⟨R, C, E, fun v C1 H1 c1 E1 r1 => by
  obtain ⟨p, kvs, rfl, hr', l, r⟩ := rp_dK (kvs_head ke) r1
  obtain ⟨od, hc⟩ := rd_lk E1 hr'
  have hll : xs.length ≤ LN := by have := r.len; rw [List.length_map] at this; rw [← this]; exact l
  refine ⟨p, od, kvs, rfl, E1.cH _ _ hc, k _ C1 H1 c1 E1 (by simpa using hll) fun C2 env σ H2 c2 E2 => ?_⟩
  have hH := E2.cH _ _ (c2 _ _ hc)
  have hlen : kvs.length = xs.length := by have := r.len; rw [List.length_map] at this; exact this
  refine ⟨⟨hH, by rw [hlen]; simp⟩, fun i d hd => ?_⟩
  rw [List.getElem?_map] at hd
  cases hx : xs[i]? with
  | none => rw [hx] at hd; cases hd
  | some q =>
    rw [hx] at hd; cases hd
    obtain ⟨w, h1, h2, h3⟩ := rpk_at ke r hx
    refine ⟨⟨hH, (List.getElem?_eq_some_iff.mp h1).1⟩, fun x H3 hy => ?_⟩
    obtain ⟨t, k', v', h4, rfl, ht, rfl⟩ := hy
    rw [h1] at h4; cases h4
    have hc2 : C2 t = none := E2.cN ht
    refine ⟨upd C2 t _, Ex.new hc2, E2.new ht, fun D hD => ?_, fun D o hD => ?_, fun D o hD hn => ?_, ?_⟩
    · by_cases hd : D = t
      · subst hd; exact ht
      · rw [upd_ne hd] at hD; exact hD
    · rw [upd_ne (ne_of_none hD ht)]; exact hD
    · rw [upd_ne (ne_of_none hD ht)]; exact hn
    · exact .tup (.inl (.inl upd_same)) (by show 2 ≤ LN; decide) (.cons (key_of ke h3) (.cons (h2.mono (c2.trans (Ex.new hc2))) .nil))⟩
end
end J
namespace J
open PySem L2 PySem.Spec PyProof.Rows

/-! ### an object that is being made, out of the way -/
section
variable {K : PySem.W.Frag} {R C H : Hp} {env : Env'} {σ : L2.St} {D : Addr} {o : HO}
theorem EnvC.lifted (E : EnvC K R C env σ H) (hp : H D = none) : EnvC K (upd R D o) C env σ (upd H D o) :=
  (E.newO hp).lift upd_same (E.cN hp) (E.notOwn hp)
/-- an object that is nobody's is changed -/
theorem EnvC.chg {o' : HO} (E6 : EnvC K R C env σ H) (cD : C D = none) (rD : R D = none) (no : NotOwn env σ D) : EnvC K R C env σ (upd H D o') := by
  refine ⟨E6.len, fun q u e => by rw [upd_ne (ne_of_none e cD)]; exact E6.cH _ _ e, fun q u e => by rw [upd_ne (ne_of_none e rD)]; exact E6.rH _ _ e, E6.rc, E6.dat, fun j w x e => ?_, E6.apart, E6.lk⟩
  obtain ⟨q, k1, k0, k2, k3, k4⟩ := E6.own j w x e
  have hq : q ≠ D := fun h => by subst h; exact no j w x e k1
  exact ⟨q, k1, k0, k2, k3, by rw [upd_ne hq]; exact k4⟩
end
section
variable {T : TC} {a b e o : Expr} {es : List Expr} {env e0 e1 e2 e3 : Env'} {pos p apos : Pos} {x y z : PyData} {ds : List PyData} {K : PySem.W.Frag} {R C H : Hp} {σ : L2.St} {v : V} {κ ν : Type} [DecidableEq κ] {ek : κ → PyData} {ev : ν → PyData} {xs : List (κ × ν)} {k : κ}
/-! ### displays -/
/-- the pairs of a display -/
def JPs (T : TC) (pos : Pos) (keys : List (Option Expr)) (values : List Expr) (env env' : Env') (ps : List (PyData × PyData)) : Prop := ∀ X, CT X T → ∃ trs, PPs X pos keys values trs ∧
  ∀ σ H Q, (∃ R C, EnvC X.K R C env σ H ∧ ∀ us C' H', Ex C C' → EnvC X.K R C' env' σ H' → Rps X.K C' (us.map (·.1)) (ps.map (·.1)) → Rps X.K C' (us.map (·.2)) (ps.map (·.2)) → Q us H') → tPairs trs σ H Q
theorem jps_nil : JPs T pos [] [] env env [] := fun X hX => ⟨[], pps_nil, fun σ H Q ⟨R, C, E, k⟩ => k [] C H (Ex.refl C) E .nil .nil⟩
theorem jps_cons {ka va : Expr} {keys : List (Option Expr)} {values : List Expr} {ps : List (PyData × PyData)} (hk : JE T ka e0 e1 (.d x)) (hv : JE T va e1 e2 (.d y)) (hr : JPs T pos keys values e2 e3 ps) : JPs T pos (some ka :: keys) (va :: values) e0 e3 ((x, y) :: ps) := fun X hX => by
  obtain ⟨trs, hp, q⟩ := hr X hX
  refine ⟨_, pps_cons (hk X hX) (hv X hX) hp, fun σ H Q ⟨R, C, E, k⟩ => ?_⟩
  refine ⟨R, C, E, fun u C1 H1 c1 E1 r1 => ⟨R, C1, E1, fun w C2 H2 c2 E2 r2 => ?_⟩⟩
  exact q σ H2 _ ⟨R, C2, E2, fun us C3 H3 c3 E3 r3 r4 => k ((u, w) :: us) C3 H3 ((c1.trans c2).trans c3) E3 (.cons (r1.mono (c2.trans c3)) r3) (.cons (r2.mono c3) r4)⟩
theorem pairs_keys (ke : KeyE ek) : ∀ {xs : List (κ × ν)} {us : List (V × V)}, Rps K C (us.map (·.1)) ((xs.map fun p => (ek p.1, ev p.2)).map (·.1)) → Rps K C (us.map (·.2)) ((xs.map fun p => (ek p.1, ev p.2)).map (·.2)) →
    ∃ kvs : List (Key × V), us = kvs.map (fun kv => (kV kv.1, kv.2)) ∧ RpK K C kvs (xs.map fun p => (ek p.1, ev p.2))
  | [], us, h, _ => by
    cases us with
    | nil => exact ⟨[], rfl, .nil⟩
    | cons u us => cases h
  | p :: xs, us, h, h' => by
    cases us with
    | nil => cases h
    | cons u us =>
      cases h with
      | cons h1 h2 =>
      cases h' with
      | cons h3 h4 =>
      obtain ⟨kvs, e, r⟩ := pairs_keys ke (xs := xs) (us := us) h2 h4
      refine ⟨(ke.f p.1, u.2) :: kvs, ?_, rpk_mk (k := p.1) (v := p.2) ke (rp_kOk ke h1) h3 r⟩
      rw [List.map_cons, ← e]
      congr 1
      have := rp_key ke h1
      exact Prod.ext this rfl
theorem je_disp (ke : KeyE ek) {keys : List (Option Expr)} {values : List Expr} (h : JPs T pos keys values e0 e1 (xs.map fun p => (ek p.1, ev p.2))) (hl : keys.length = values.length := by rfl) (hn : keys ≠ [] := by exact List.cons_ne_nil _ _) (h15 : keys.length ≤ 15 := by decide) (hall : keys.all (·.isSome) = true := by rfl) (h16 : xs.length ≤ 15 := by exact Nat.le_of_ble_eq_true rfl) : JE T (.Dict keys values pos) e0 e1 (.o (eM ek ev (dMk xs))) := fun X hX => by
  obtain ⟨trs, hp, q⟩ := h X hX
  refine (pe_disp hp hall hl hn h15).wk fun σ H Q ⟨R, C, E, kk⟩ p hp0 => ?_
  refine q σ _ _ ⟨_, C, E.lifted hp0, fun us C' H' c E' r1 r2 => ?_⟩
  obtain ⟨E2, h1, h2, h3⟩ := EnvC.unlift E' (E.rN hp0)
  obtain ⟨kvs, e, r⟩ := pairs_keys ke r1 r2
  have hlen : kvs.length ≤ 15 := by rw [r.len, List.length_map]; exact h16
  refine ⟨h1, kvs, e, hlen, kk _ C' _ c (E2.chg h2 (E.rN hp0) h3) ⟨p, rfl, h2, E.rN hp0, h3, .inl ⟨_, by rw [upd_same], ?_, rpk_merge ke (acc := []) r .nil⟩⟩⟩
  refine Nat.le_trans (length_mergeK kvs []) ?_
  show 0 + _ ≤ 16777216
  omega
/-! ### comprehensions -/
/-- a turn of a dict's comprehension -/
structure DcTurn (T : TC) (scope : Scope) (tg kx vx : Expr) (ifs : List Expr) (vs : List Nat) (ek : κ → PyData) (evl : ν → PyData) (d : PyData) (ev ev' : Env') (outs outs' : List (κ × ν)) : Prop where
  ex : ∃ (js : List Nat) (E1 E2 : Env') (c : Bool), js ⊆ vs ∧ JG (T.blk scope) tg js d ev E1 ∧ JTs (T.blk scope) ifs E1 E2 c ∧
    (c = true → ∃ E3 E4 k z, JE (T.blk scope) kx E2 E3 (.d (ek k)) ∧ JE (T.blk scope) vx E3 E4 (.d (evl z)) ∧ Le ev' E4 ∧ outs' = dPut outs k z) ∧ (c = false → Le ev' E2 ∧ outs' = outs)
theorem dc_run {X : Cx} (ke : KeyE ek) (hX : CT X T) {tg kx vx : Expr} {ifs : List Expr} {scope : Scope} {own : List (Str × Nat)} {xs : List PyData} (en : Nat → Env') (outs : Nat → List (κ × ν)) (h0 : en 0 = e1) (o0 : outs 0 = [])
    (hu : ∀ i, i ≤ xs.length → unk (en i) (own.map (·.2))) (turn : ∀ i d, xs[i]? = some d → DcTurn T scope tg kx vx ifs (own.map (·.2)) ek ev d (en i) (en (i + 1)) (outs i) (outs (i + 1))) :
    ∀ (σ : L2.St) (H : Hp) (Q : VK), tJ X.K e0 (en xs.length) (.o (eM ek ev (outs xs.length))) σ H Q → tDc (tIJ X.K e0 e1 xs) (tTgJ (T.blk scope) X.K tg) (tIfsJ (T.blk scope) X.K ifs) (tEltJ (T.blk scope) X.K kx) (tEltJ (T.blk scope) X.K vx) (own.map (·.2)) σ H Q := by
  rintro σ H Q ⟨R, C, E, k⟩
  refine ⟨R, C, E, fun J C1 H1 c1 E1 hln io D hD => ?_⟩
  subst h0
  have olen : ∀ i, i ≤ xs.length → (outs i).length ≤ i := by
    intro i
    induction i with
    | zero => intro _; rw [o0]; exact Nat.le_refl _
    | succ i ih =>
      intro hi
      have hi' : i < xs.length := hi
      obtain ⟨js, F1, F2, c, _, _, _, ht, hf⟩ := (turn i _ (List.getElem?_eq_getElem hi')).ex
      cases c with
      | true =>
        obtain ⟨_, _, k, z, _, _, _, e⟩ := ht rfl
        rw [e]
        have := ih (Nat.le_of_lt hi')
        have := dPut_len (outs i) k z
        omega
      | false =>
        rw [(hf rfl).2]
        have := ih (Nat.le_of_lt hi')
        omega
  have rD : R D = none := E1.rN hD
  refine ⟨fun i m H' => i + m = xs.length ∧ ∃ C' acc, Ex C1 C' ∧ EnvC X.K R C' (en i) σ H' ∧ H' D = some (.dK acc) ∧ C' D = none ∧ NotOwn (en i) σ D ∧ RpK X.K C' acc ((outs i).map fun p => (ek p.1, ev p.2)), ⟨xs.length, by omega, C1, [], Ex.refl _, E1.newO hD, upd_same, E1.cN hD, E1.notOwn hD, by rw [o0]; exact .nil⟩, ?_⟩
  rintro i m H' ⟨him, C', acc, cc, E', hHD, cD, nD, rp⟩
  obtain ⟨st, go⟩ := io C' (en i) σ H' cc E'
  by_cases hi : i < xs.length
  · right
    obtain ⟨g1, g2⟩ := go i xs[i] (List.getElem?_eq_getElem hi)
    refine ⟨g1, fun H2 => ∃ C2 acc2, Ex C1 C2 ∧ EnvC X.K R C2 (en (i + 1)) σ H2 ∧ H2 D = some (.dK acc2) ∧ C2 D = none ∧ NotOwn (en (i + 1)) σ D ∧ RpK X.K C2 acc2 ((outs (i + 1)).map fun p => (ek p.1, ev p.2)), fun H2 ⟨C2, acc2, h⟩ => ⟨m - 1, by omega, by omega, C2, acc2, h⟩, fun w H2 hy => ?_⟩
    obtain ⟨C2, c2, E2, n1, n2, n3, rw⟩ := g2 w H2 hy
    have hH2D := n2 D _ hHD
    have cD2 : C2 D = none := n3 D _ hHD cD
    obtain ⟨js, F1, F2, c, hjs, jg, jt, ht, hf⟩ := (turn i xs[i] (List.getElem?_eq_getElem hi)).ex
    have E2' := EnvC.lift (E2.wipe (hu i (Nat.le_of_lt hi))) hH2D cD2 (fun j w x e s1 => nD j w x e (by
      rw [wipe_get] at s1
      split at s1
      · cases q : σ[j]? <;> rw [q] at s1 <;> cases s1
      · exact s1))
    refine ⟨js, xs[i], en i, F1, jg, _, C2, E2', rw, fun σ3 s3 l3 E3 => ⟨?_, F1, F2, c, jt, _, C2, E3, fun C4 H4 c4 E4 => ?_⟩⟩
    · have := wipe_eq (σ := L2.wipe σ (own.map (·.2))) (σ' := σ3) (vs := own.map (·.2)) l3 fun j hj => s3 j fun h => hj (hjs h)
      rw [this]
      apply List.ext_getElem?
      intro q
      rw [wipe_get, wipe_get]
      split
      · cases σ[q]? <;> rfl
      · rfl
    have fin : ∀ {C5 H5 : Hp} {en' : Env'}, Le (en (i + 1)) en' → EnvC X.K (upd R D (.dK acc)) C5 en' σ3 H5 → EnvC X.K R C5 (en (i + 1)) σ H5 ∧ H5 D = some (.dK acc) ∧ C5 D = none ∧ NotOwn (en (i + 1)) σ D := fun {C5 H5 en'} le E5 => by
      have hU := hu (i + 1) hi
      have E5' := (E5.le le).resig (σ' := σ) (by rw [l3, wipe_length]) fun j x e hx => by
        have hj : j ∉ own.map (·.2) := fun h => hx (hU j h x e)
        rw [s3 j (fun h => hj (hjs h)), wipe_get, if_neg hj]
      exact EnvC.unlift E5' rD
    cases c with
    | true =>
      dsimp only
      rw [if_pos rfl]
      obtain ⟨F3, F4, kk, z, je, je', le, eo⟩ := ht rfl
      refine ⟨F2, F3, .d (ek kk), je, _, C4, E4, fun y C5 H5 c5 E5 r5 => ⟨F3, F4, .d (ev z), je', _, C5, E5, fun u C6 H6 c6 E6 r6 => ?_⟩⟩
      obtain ⟨E7, h7, cD7, no7⟩ := fin le E6
      have hko := rp_kOk ke r5
      have := rp_key ke r5
      subst this
      have hal : acc.length = (outs i).length := by have := rp.len; rwa [List.length_map] at this
      refine ⟨acc, _, rfl, h7, lnS' (by rw [hal]; have := olen i (Nat.le_of_lt hi); have : LN = 16777216 := rfl; have hln' : xs.length ≤ LN := hln; omega), C6, putK acc (ke.f kk) u, (cc.trans c2).trans (c4.trans (c5.trans c6)), E7.chg cD7 rD no7, upd_same, cD7, no7, ?_⟩
      rw [eo]
      exact rpk_put ke kk hko r6 (RpK.mono ((c2.trans c4).trans (c5.trans c6)) rp)
    | false =>
      dsimp only
      rw [if_neg Bool.false_ne_true]
      obtain ⟨le, eo⟩ := hf rfl
      obtain ⟨E6, h6, cD6, no6⟩ := fin le E4
      exact ⟨C4, acc, (cc.trans c2).trans c4, E6, h6, cD6, no6, by rw [eo]; exact RpK.mono (c2.trans c4) rp⟩
  · left
    have ei : i = xs.length := by omega
    subst ei
    refine ⟨st, k (.ref D) C' H' (c1.trans cc) E' ⟨D, rfl, cD, rD, nD, .inl ⟨acc, hHD, ?_, rp⟩⟩⟩
    rw [rp.len, List.length_map]
    exact Nat.le_trans (olen _ (Nat.le_refl _)) hln
theorem je_dcG (ke : KeyE ek) {tg iter kx vx : Expr} {ifs : List Expr} {scope : Scope} {xs : List PyData} (own : List (Str × Nat)) (en : Nat → Env') (outs : Nat → List (κ × ν)) (hi : JI T tg iter e0 e1 xs) (hnd : T.N.Nodup) (ok : blkC T.N T.sc scope own = true) (h0 : en 0 = e1) (o0 : outs 0 = [])
    (hu : ∀ i, i ≤ xs.length → unk (en i) (own.map (·.2))) (turn : ∀ i d, xs[i]? = some d → DcTurn T scope tg kx vx ifs (own.map (·.2)) ek ev d (en i) (en (i + 1)) (outs i) (outs (i + 1))) (hs : ∀ (v : Env) x, foldedSetIterable iter v x = pure x := by intro _ _; rfl) :
    JE T (.DictComp kx vx [⟨tg, iter, ifs, 0⟩] scope pos) e0 (en xs.length) (.o (eM ek ev (outs xs.length))) := fun X hX =>
  (pe_dc (own := own) (wi := tIJ X.K e0 e1 xs) (g := tTgJ (T.blk scope) X.K tg) (tt := tIfsJ (T.blk scope) X.K ifs) (tk := tEltJ (T.blk scope) X.K kx) (tv := tEltJ (T.blk scope) X.K vx) hX.calm (by rw [hX.N]; exact hnd) (hi X hX) (by rw [hX.N, hX.sc]; exact blkOk_by ok)
    (fun s H C cl fp => ⟨fun pins s1 σ H1 v u Q I r ⟨js, d, F1, F2, jg, q⟩ => (jg _ (hX.blk scope s H C cl fp)).run pins s1 σ H1 v u Q I r q⟩)
    (fun s H C cl fp => ⟨fun pins s1 σ H1 Q I ⟨F1, F2, c, jt, q⟩ => (jt _ (hX.blk scope s H C cl fp)).run pins s1 σ H1 Q I q⟩)
    (fun s H C cl fp => ⟨fun pins s1 σ H1 Q I ⟨F1, F2, r, je, q⟩ => (je _ (hX.blk scope s H C cl fp)).run pins s1 σ H1 Q I q⟩)
    (fun s H C cl fp => ⟨fun pins s1 σ H1 Q I ⟨F1, F2, r, je, q⟩ => (je _ (hX.blk scope s H C cl fp)).run pins s1 σ H1 Q I q⟩) (hs X.env)).wk fun σ H Q q => dc_run ke hX en outs h0 o0 hu turn σ H Q q
theorem dMk_snoc (l : List (κ × ν)) (q : κ × ν) : dMk (l ++ [q]) = dPut (dMk l) q.1 q.2 := by unfold dMk; rw [List.foldl_append]; rfl
/-- what a dict's comprehension whose parts leave the environment is to show -/
structure DcP (T : TC) (scope : Scope) (tg kx vx : Expr) (ifs : List Expr) (own : List (Str × Nat)) (e1 : Env') (d : PyData) (c : Bool) (dk dv : PyData) : Prop where
  ex : ∃ (js : List Nat) (E1 : Env'), js ⊆ own.map (·.2) ∧ JG (T.blk scope) tg js d e1 E1 ∧ JTs (T.blk scope) ifs E1 E1 c ∧ Le e1 E1 ∧ (c = true → JE (T.blk scope) kx E1 E1 (.d dk) ∧ JE (T.blk scope) vx E1 E1 (.d dv))
theorem dcp {tg kx vx : Expr} {ifs : List Expr} {scope : Scope} {dk dv : PyData} {js : List Nat} {own : List (Str × Nat)} {E1 : Env'} {d : PyData} {c : Bool} (hjs : js ⊆ own.map (·.2)) (hg : JG (T.blk scope) tg js d e1 E1) (ht : JTs (T.blk scope) ifs E1 E1 c) (hl : Le e1 E1) (hk : c = true → JE (T.blk scope) kx E1 E1 (.d dk)) (he : c = true → JE (T.blk scope) vx E1 E1 (.d dv)) : DcP T scope tg kx vx ifs own e1 d c dk dv := ⟨js, E1, hjs, hg, ht, hl, fun h => ⟨hk h, he h⟩⟩
variable {α : Type} {tg iter kx vx : Expr} {ifs : List Expr} {scope : Scope} {enc : α → PyData} {its : List α}
theorem dcp_turn {own : List (Str × Nat)} {pp : α → Bool} {kf : α → κ} {vf : α → ν} (turn : ∀ x, x ∈ its → DcP T scope tg kx vx ifs own e1 (enc x) (pp x) (ek (kf x)) (ev (vf x))) :
    ∀ i d, (its.map enc)[i]? = some d → DcTurn T scope tg kx vx ifs (own.map (·.2)) ek ev d e1 e1 (dMk (((its.take i).filter pp).map fun x => (kf x, vf x))) (dMk (((its.take (i + 1)).filter pp).map fun x => (kf x, vf x))) := fun i d hd => by
  rw [List.getElem?_map] at hd
  cases q : its[i]? with
  | none => rw [q] at hd; cases hd
  | some x =>
    rw [q] at hd; cases hd
    obtain ⟨js, E1, h1, h2, h3, h4, h5⟩ := (turn x (List.mem_of_getElem? q)).ex
    refine ⟨js, E1, E1, pp x, h1, h2, h3, fun hp => ⟨E1, E1, kf x, vf x, (h5 hp).1, (h5 hp).2, h4, ?_⟩, fun hp => ⟨h4, ?_⟩⟩
    · rw [filter_snoc pp q, if_pos hp, List.map_append, List.map_singleton, dMk_snoc]
    · rw [filter_snoc pp q, if_neg (by rw [hp]; exact Bool.false_ne_true), List.append_nil]
theorem je_dc1 (ke : KeyE ek) (own : List (Str × Nat)) (pp : α → Bool) (kf : α → κ) (vf : α → ν) (hi : JI T tg iter e0 e1 (its.map enc)) (hnd : T.N.Nodup) (ok : blkC T.N T.sc scope own = true) (hu : unk e1 (own.map (·.2)))
    (turn : ∀ x, x ∈ its → DcP T scope tg kx vx ifs own e1 (enc x) (pp x) (ek (kf x)) (ev (vf x))) (hs : ∀ (v : Env) x, foldedSetIterable iter v x = pure x := by intro _ _; rfl) : JE T (.DictComp kx vx [⟨tg, iter, ifs, 0⟩] scope pos) e0 e1 (.o (eM ek ev (dMk ((its.filter pp).map fun x => (kf x, vf x))))) := by
  have := je_dcG (pos := pos) ke own (fun _ => e1) (fun i => dMk (((its.take i).filter pp).map fun x => (kf x, vf x))) hi hnd ok rfl (by simp [dMk]) (fun _ _ => hu) (dcp_turn turn) hs
  simpa using this
theorem je_dc0 (ke : KeyE ek) (own : List (Str × Nat)) (kf : α → κ) (vf : α → ν) (hi : JI T tg iter e0 e1 (its.map enc)) (hnd : T.N.Nodup) (ok : blkC T.N T.sc scope own = true) (hu : unk e1 (own.map (·.2)))
    (turn : ∀ x, x ∈ its → DcP T scope tg kx vx [] own e1 (enc x) true (ek (kf x)) (ev (vf x))) (hs : ∀ (v : Env) x, foldedSetIterable iter v x = pure x := by intro _ _; rfl) : JE T (.DictComp kx vx [⟨tg, iter, [], 0⟩] scope pos) e0 e1 (.o (eM ek ev (dMk (its.map fun x => (kf x, vf x))))) := by
  have := je_dc1 (pos := pos) ke own (fun _ => true) kf vf hi hnd ok hu turn hs
  rw [show its.filter (fun _ => true) = its from List.filter_eq_self.mpr (fun _ _ => rfl)] at this
  exact this
/-- name = {..} on one line, the name a local -/
theorem ps_setDc {X : Cx} {i : Nat} {y : Str} {py : Pos} {kx vx tg iter : Expr} {ifs : List Expr} {scope : Scope} {own : List (Str × Nat)} {pos spos : Pos} {wi : TI} {g : TG} {tt : TT} {tk tv : TE} (hc : X.calm = true) (hN : X.N.Nodup) (hy : X.N[i]? = some y) (hyl : X.env.scope.names.lookup y = some .local)
    (hsw : swapsWith (.DictComp kx vx [⟨tg, iter, ifs, 0⟩] scope pos) (some (.Name y py)) spos.line X.env = pure true) (hi : PI X tg iter wi) (ok : BlkOk X.N X.env.scope scope own)
    (hg : ∀ (s : Shared) (H : Hp) (C : Addr) (cl : List (Str × Addr)) (fp : List Addr), PG (X.blk s H scope (compEnvC scope cl C X.env) fp) tg g) (ht : ∀ (s : Shared) (H : Hp) (C : Addr) (cl : List (Str × Addr)) (fp : List Addr), PTs (X.blk s H scope (compEnvC scope cl C X.env) fp) ifs tt)
    (hk : ∀ (s : Shared) (H : Hp) (C : Addr) (cl : List (Str × Addr)) (fp : List Addr), PE (X.blk s H scope (compEnvC scope cl C X.env) fp) kx tk)
    (he : ∀ (s : Shared) (H : Hp) (C : Addr) (cl : List (Str × Addr)) (fp : List Addr), PE (X.blk s H scope (compEnvC scope cl C X.env) fp) vx tv) (hs : ∀ x, foldedSetIterable iter X.env x = pure x := by intro _; rfl) :
    PS X (.Assign [.Name y py] (.DictComp kx vx [⟨tg, iter, ifs, 0⟩] scope pos) spos) (tAsg (tDc wi g tt tk tv (own.map (·.2))) (gName i)) := by
  refine ⟨fun pins s σ H D I h => ?_⟩
  rw [exec_Assign_Name_used _ _ _ _ hsw]
  refine wpAny_bind (wpAny_standAt (wpAny_bind ?_))
  show wpAny _ X.A (do let _ ← comprehension (.DictComp kx vx [⟨tg, iter, ifs, 0⟩] scope pos) scope X.env (firstIterPos [⟨tg, iter, ifs, 0⟩] pos) newDict false (eval iter X.env) (some (assign (.Name y py) X.env))) _ _ s
  have h : tDc wi g tt tk tv (own.map (·.2)) σ H (fun x H1 => gName i x σ H1 D.nx) := h
  refine wpAny_bind (thn (dc_core (Qf := fun _ s' => SP X pins D .next s') hc hN I hi ok hg ht hk he hs h fun L C s' m H' I' q hn f => ?_) fun _ s' hq => wpAny_pure (wpAny_pure hq))
  show wpAny _ _ (assign (.Name y py) X.env (.ref L)) _ _ _
  refine wpAny_assign_Name (store_ok2 (v := V.ref L) I' hN hy (.inl hyl) rfl (fun s2 I2 ⟨a, sb, ha⟩ => ?_) (.inr hyl))
  obtain ⟨f0, f1, f2, f3, f4, f5⟩ := f
  have haC : C ≠ a := by
    rcases ha with z | z
    · rw [z]; exact f1
    · exact fun e => f4 y a z e.symm
  refine ⟨m, hn.sameBut sb haC, fun h3 sb3 => ?_⟩
  exact ⟨_, H', I2.turned (t' := s2.toks) (fun b o hb e => (sb3.2 b hb).trans e) f0 f1 f3 f4 f5, q⟩
theorem sw_trueD {gs : List Comprehension} {scope : Scope} {pos py : Pos} {y : Str} {l : Nat} {env : Env} (hk : env.scope.kind = .function) (hy : env.scope.names.lookup y = some .local) (hl : (py.line == pos.line) = true)
    (ha : (scope.names.any fun (n, k) => n == y && (k == .local || k == .cell)) = false) : swapsWith (.DictComp kx vx gs scope pos) (some (.Name y py)) l env = pure true := by
  have ky : env.kindOf y = some .local := hy
  have hb : env.blockKind = .function := by unfold Env.blockKind; rw [hk]; rfl
  unfold swapsWith
  simp only [hb, ky, ha, Expr.pos, hl]
  rfl
theorem js_setDcG (ke : KeyE ek) (i : Nat) {nm : Str} {py spos : Pos} {xs : List PyData} (own : List (Str × Nat)) (en : Nat → Env') (outs : Nat → List (κ × ν)) (hi : JI T tg iter e0 e1 xs) (hnd : T.N.Nodup) (ok : blkC T.N T.sc scope own = true) (h0 : en 0 = e1) (o0 : outs 0 = [])
    (hu : ∀ i, i ≤ xs.length → unk (en i) (own.map (·.2))) (turn : ∀ i d, xs[i]? = some d → DcTurn T scope tg kx vx ifs (own.map (·.2)) ek ev d (en i) (en (i + 1)) (outs i) (outs (i + 1))) (hN : T.N[i]? = some nm := by rfl) (hl : T.sc.names.lookup nm = some .local := by rfl) (hk : T.sc.kind = .function := by rfl) (hpl : (py.line == pos.line) = true := by rfl) (ha : (scope.names.any fun (n, k) => n == nm && (k == .local || k == .cell)) = false := by decide +kernel) (hs : ∀ (v : Env) x, foldedSetIterable iter v x = pure x := by intro _ _; rfl) :
    JS T (.Assign [.Name nm py] (.DictComp kx vx [⟨tg, iter, ifs, 0⟩] scope pos) spos) e0 (.nx ((en xs.length).set i (.o none (eM ek ev (outs xs.length))))) := fun X hX =>
  (ps_setDc (i := i) (own := own) (wi := tIJ X.K e0 e1 xs) (g := tTgJ (T.blk scope) X.K tg) (tt := tIfsJ (T.blk scope) X.K ifs) (tk := tEltJ (T.blk scope) X.K kx) (tv := tEltJ (T.blk scope) X.K vx) hX.calm (by rw [hX.N]; exact hnd) (by rw [hX.N]; exact hN) (by rw [hX.sc]; exact hl)
    (sw_trueD (by rw [hX.sc]; exact hk) (by rw [hX.sc]; exact hl) hpl ha) (hi X hX) (by rw [hX.N, hX.sc]; exact blkOk_by ok)
    (fun s H C cl fp => ⟨fun pins s1 σ H1 v u Q I r ⟨js, d, F1, F2, jg, q⟩ => (jg _ (hX.blk scope s H C cl fp)).run pins s1 σ H1 v u Q I r q⟩)
    (fun s H C cl fp => ⟨fun pins s1 σ H1 Q I ⟨F1, F2, c, jt, q⟩ => (jt _ (hX.blk scope s H C cl fp)).run pins s1 σ H1 Q I q⟩)
    (fun s H C cl fp => ⟨fun pins s1 σ H1 Q I ⟨F1, F2, r, je, q⟩ => (je _ (hX.blk scope s H C cl fp)).run pins s1 σ H1 Q I q⟩)
    (fun s H C cl fp => ⟨fun pins s1 σ H1 Q I ⟨F1, F2, r, je, q⟩ => (je _ (hX.blk scope s H C cl fp)).run pins s1 σ H1 Q I q⟩) (hs X.env)).wk fun D σ H ⟨R, C, E, k⟩ =>
      dc_run ke hX en outs h0 o0 hu turn σ H _ ⟨R, C, E, fun v C' H' c E' ⟨p, evv, cp, rp, no, ow⟩ => by
        subst evv
        exact k _ C' H' c (E'.setO i cp rp no ow)⟩
theorem js_dc1 (ke : KeyE ek) (i : Nat) {nm : Str} {py spos : Pos} (own : List (Str × Nat)) (pp : α → Bool) (kf : α → κ) (vf : α → ν) (hi : JI T tg iter e0 e1 (its.map enc)) (hnd : T.N.Nodup) (ok : blkC T.N T.sc scope own = true) (hu : unk e1 (own.map (·.2)))
    (turn : ∀ x, x ∈ its → DcP T scope tg kx vx ifs own e1 (enc x) (pp x) (ek (kf x)) (ev (vf x))) (hN : T.N[i]? = some nm := by rfl) (hl : T.sc.names.lookup nm = some .local := by rfl) (hk : T.sc.kind = .function := by rfl) (hpl : (py.line == pos.line) = true := by rfl) (ha : (scope.names.any fun (n, k) => n == nm && (k == .local || k == .cell)) = false := by decide +kernel) (hs : ∀ (v : Env) x, foldedSetIterable iter v x = pure x := by intro _ _; rfl) :
    JS T (.Assign [.Name nm py] (.DictComp kx vx [⟨tg, iter, ifs, 0⟩] scope pos) spos) e0 (.nx (e1.set i (.o none (eM ek ev (dMk ((its.filter pp).map fun x => (kf x, vf x))))))) := by
  have := js_setDcG (pos := pos) (py := py) (spos := spos) ke i own (fun _ => e1) (fun i => dMk (((its.take i).filter pp).map fun x => (kf x, vf x))) hi hnd ok rfl (by simp [dMk]) (fun _ _ => hu) (dcp_turn turn) hN hl hk hpl ha hs
  simpa using this
theorem js_dc0 (ke : KeyE ek) (i : Nat) {nm : Str} {py spos : Pos} (own : List (Str × Nat)) (kf : α → κ) (vf : α → ν) (hi : JI T tg iter e0 e1 (its.map enc)) (hnd : T.N.Nodup) (ok : blkC T.N T.sc scope own = true) (hu : unk e1 (own.map (·.2)))
    (turn : ∀ x, x ∈ its → DcP T scope tg kx vx [] own e1 (enc x) true (ek (kf x)) (ev (vf x))) (hN : T.N[i]? = some nm := by rfl) (hl : T.sc.names.lookup nm = some .local := by rfl) (hk : T.sc.kind = .function := by rfl) (hpl : (py.line == pos.line) = true := by rfl) (ha : (scope.names.any fun (n, k) => n == nm && (k == .local || k == .cell)) = false := by decide +kernel) (hs : ∀ (v : Env) x, foldedSetIterable iter v x = pure x := by intro _ _; rfl) :
    JS T (.Assign [.Name nm py] (.DictComp kx vx [⟨tg, iter, [], 0⟩] scope pos) spos) e0 (.nx (e1.set i (.o none (eM ek ev (dMk (its.map fun x => (kf x, vf x))))))) := by
  have := js_dc1 (pos := pos) (py := py) (spos := spos) ke i own (fun _ => true) kf vf hi hnd ok hu turn hN hl hk hpl ha hs
  rw [show its.filter (fun _ => true) = its from List.filter_eq_self.mpr (fun _ _ => rfl)] at this
  exact this
end
end J
namespace J
open PySem L2 PySem.Spec PyProof.Rows

/-! ### an owned dict lent to a call -/
/-- without what stands at p -/
def cut1 (C : Hp) (p : Addr) : Hp := fun a => if a = p then none else C a
theorem cut1_of {C : Hp} {p a : Addr} {o : HO} (h : C a = some o) (n : a ≠ p) : cut1 C p a = some o := by unfold cut1; rw [if_neg n]; exact h
theorem cut1_some {C : Hp} {p a : Addr} {o : HO} (h : cut1 C p a = some o) : a ≠ p ∧ C a = some o := by
  unfold cut1 at h
  by_cases n : a = p
  · rw [if_pos n] at h; cases h
  · rw [if_neg n] at h; exact ⟨n, h⟩
/-- neither a list nor a tuple -/
def noSeq : HO → Prop
  | .dK _ => True
  | .dT _ => True
  | _ => False
mutual
theorem rp_cut {K : PySem.W.Frag} {C : Hp} {p : Addr} {od : Obj} {u : HO} (hp : C p = some (.frz od u)) (hu : noSeq u) : ∀ {v : V} {d : PyData}, Rp K C v d → pure0 d = true → Rp K (cut1 C p) v d
  | _, _, .non, _ => .non
  | _, _, .bl b, _ => .bl b
  | _, _, .int i, _ => .int i
  | _, _, .str h, _ => .str h
  | _, _, .lst h l r, q => .lst (cut1_of h (fun z => by rw [z, hp] at h; cases h)) l (rps_cut1 hp hu r (by simpa [pure0] using q))
  | _, _, .tup h l r, q => by
    refine .tup ?_ l (rps_cut1 hp hu r (by simpa [pure0] using q))
    rcases h with h | h
    · rcases h with h | ⟨o, h⟩
      · exact .inl (.inl (cut1_of h (fun z => by rw [z, hp] at h; cases h)))
      · exact .inl (.inr ⟨o, cut1_of h (fun z => by rw [z, hp] at h; cases h; exact hu)⟩)
    · exact .inr h
  | _, _, .scr h _ r, q => by simp [pure0] at q
  | _, _, .tupD h _ _ r, q => by simp [pure0] at q
  | _, _, .dK h _ r, q => by simp [pure0] at q
  | _, _, .dT h _ r, q => by simp [pure0] at q
theorem rps_cut1 {K : PySem.W.Frag} {C : Hp} {p : Addr} {od : Obj} {u : HO} (hp : C p = some (.frz od u)) (hu : noSeq u) : ∀ {v : List V} {d : List PyData}, Rps K C v d → pureAll d = true → Rps K (cut1 C p) v d
  | _, _, .nil, _ => .nil
  | _, _, .cons h r, q => by
    rw [pureAll, Bool.and_eq_true] at q
    exact .cons (rp_cut hp hu h q.1) (rps_cut1 hp hu r q.2)
end
/-- the environment in which slot i is known, and nothing is owned -/
def lendE (env : Env') (i : Nat) (x : PyData) : Env' := (env.map fun s => match s with | .o _ _ => .u | s => s).set i (.d x)
section
variable {T : TC} {a b e o : Expr} {es : List Expr} {env e0 e1 e2 e3 : Env'} {pos p apos : Pos} {x y z : PyData} {ds : List PyData} {K : PySem.W.Frag} {R C C' H H' : Hp} {σ : L2.St} {v : V} {κ ν : Type} [DecidableEq κ] {ek : κ → PyData} {ev : ν → PyData} {xs : List (κ × ν)} {k : κ}
theorem lendE_o {i j : Nat} {q : Option Addr} {w : PyData} : (lendE env i x)[j]? ≠ some (.o q w) := fun h => by
  unfold lendE at h
  by_cases c : i = j
  · subst c
    rw [List.getElem?_set_self'] at h
    cases hh : (env.map fun s => match s with | .o _ _ => Sl.u | s => s)[i]? <;> rw [hh] at h <;> simp at h
  · rw [List.getElem?_set_ne c, List.getElem?_map] at h
    cases hh : env[j]? with
    | none => rw [hh] at h; cases h
    | some s => rw [hh] at h; cases s <;> cases h
theorem lendE_d {i j : Nat} {w : PyData} (hi : i < env.length) (h : (lendE env i x)[j]? = some (.d w)) : (i = j ∧ w = x) ∨ (i ≠ j ∧ env[j]? = some (.d w)) := by
  unfold lendE at h
  by_cases c : i = j
  · subst c
    rw [List.getElem?_set_self (by simpa using hi)] at h
    cases h; exact .inl ⟨rfl, rfl⟩
  · rw [List.getElem?_set_ne c, List.getElem?_map] at h
    cases hh : env[j]? with
    | none => rw [hh] at h; cases h
    | some s => rw [hh] at h; cases s <;> cases h; exact .inr ⟨c, rfl⟩
theorem EnvC.lend {i : Nat} {k0 : Option Addr} {p : Addr} {u : HO} (E : EnvC K R C env σ H) (e : env[i]? = some (.o k0 x)) (s : σ[i]? = some (some (.ref p))) (hu : lkO u) (ow : Rp K (upd C p u) (.ref p) x) : EnvC K (frameOf (upd C p u) (upd H p u)) (upd C p u) (lendE env i x) σ (upd H p u) := by
  have hi : i < env.length := (List.getElem?_eq_some_iff.mp e).1
  have E2 := E.frzU e s hu ow
  refine ⟨by unfold lendE; simp [E.len], E2.cH, fun a o h => (frameOf_some h).2, fun a h => ?_, fun j w h => ?_, fun j q w h => absurd h lendE_o, fun j k q q' w w' a h => absurd h lendE_o, E2.lk⟩
  · cases q : frameOf (upd C p u) (upd H p u) a with
    | none => exact absurd q h
    | some o => exact (frameOf_some q).1
  · rcases lendE_d hi h with ⟨h1, h2⟩ | ⟨h1, h2⟩
    · subst h1; rw [h2]
      exact E2.dat i x (by rw [List.getElem?_set_self hi])
    · exact E2.dat j w (by rw [List.getElem?_set_ne h1]; exact h2)
theorem EnvC.back {i : Nat} {k0 : Option Addr} {p : Addr} {u u' : HO} {en : Env'} (E : EnvC K R C env σ H) (e : env[i]? = some (.o k0 x)) (s : σ[i]? = some (some (.ref p))) (hp : H p = some u') (c : Ex (upd C p u) C') (E' : EnvC K (frameOf (upd C p u) (upd H p u)) C' en σ H') : Ex C (cut1 C' p) ∧ EnvC K R (cut1 C' p) env σ (upd H' p u') := by
  obtain ⟨p0, s0, _, cp, rp, ow0⟩ := E.own i _ x e
  rw [s] at s0; cases s0
  have ex : Ex C (cut1 C' p) := fun a o h => by
    have n : a ≠ p := ne_of_none h cp
    exact cut1_of (c a o (by rw [upd_ne n]; exact h)) n
  have fr : ∀ {a : Addr} {o : HO}, a ≠ p → C a = none → H a = some o → H' a = some o ∧ C' a = none := fun {a o} n h1 h2 => by
    have z : frameOf (upd C p u) (upd H p u) a = some o := frameOf_of (by rw [upd_ne n]; exact h2) (by rw [upd_ne n]; exact h1)
    exact ⟨E'.rH _ _ z, E'.rc a (by rw [z]; simp)⟩
  refine ⟨ex, E.len, fun a o h => ?_, fun a o h => ?_, fun a h => ?_, fun j w h => ?_, fun j q w h => ?_, E.apart, fun a o h => ?_⟩
  · obtain ⟨n, h⟩ := cut1_some h
    rw [upd_ne n]; exact E'.cH _ _ h
  · have n : a ≠ p := ne_of_none h rp
    rw [upd_ne n]
    exact (fr n (E.rc a (by rw [h]; simp)) (E.rH _ _ h)).1
  · have n : a ≠ p := fun z => by subst z; exact h rp
    cases q : R a with
    | none => exact absurd q h
    | some o =>
      unfold cut1; rw [if_neg n]
      exact (fr n (E.rc a h) (E.rH _ _ q)).2
  · obtain ⟨w', h1, h2⟩ := E.dat j w h
    exact ⟨w', h1, h2.mono ex⟩
  · obtain ⟨q', h1, h0, h2, h3, h4⟩ := E.own j q w h
    by_cases n : q' = p
    · subst n
      refine ⟨q', h1, h0, by unfold cut1; rw [if_pos rfl], h3, ?_⟩
      rw [upd_same, ← hp]
      exact h4.mono ex
    · cases hq : H q' with
      | none => rw [hq] at h4; exact absurd rfl h4.there
      | some o =>
        obtain ⟨f1, f2⟩ := fr n h2 hq
        refine ⟨q', h1, h0, by unfold cut1; rw [if_neg n]; exact f2, h3, ?_⟩
        rw [upd_ne n, f1, ← hq]
        exact h4.mono ex
  · obtain ⟨n, h⟩ := cut1_some h
    exact E'.lk _ _ h
/-- a dict that slot i owns is lent to an expression that gives back something without dicts -/
theorem je_lend {i : Nat} {k0 : Option Addr} {es : List (PyData × PyData)} (he : env[i]? = some (.o k0 (.dict es))) (h : JE T e (lendE env i (.dict es)) (lendE env i (.dict es)) (.d z)) (hz : pure0 z = true) : JE T e env env (.d z) := fun X hX =>
  (pe_lock (h X hX)).wk fun σ H Q ⟨R, C, E, k⟩ => by
    obtain ⟨p, s, _, cp, rp, ow⟩ := E.own i _ _ he
    cases ho : H p with
    | none => rw [ho] at ow; exact absurd rfl ow.there
    | some u =>
      rw [ho] at ow
      have hns : noSeq u ∧ ¬ lkO u := by rcases ow with ⟨kvs, e, _, _⟩ | ⟨kvs, es', q, e, _, _⟩ <;> cases e <;> exact ⟨trivial, fun h => h⟩
      refine ⟨p, u, ho, ow.mut, fun od => ⟨_, _, E.lend (u := .frz od u) he s trivial (ow.frzL cp hns.2), fun v C' H' c E' r => ?_⟩⟩
      have hp : C' p = some (.frz od u) := c _ _ upd_same
      obtain ⟨b1, b2⟩ := E.back he s ho c E'
      exact ⟨E'.cH _ _ hp, k v _ _ b1 b2 (rp_cut hp hns.1 r hz)⟩
theorem rp_flatC {C' : Hp} (h : Rp K C v z) (f : flatD z = true) : Rp K C' v z := by
  cases h with
  | non => exact .non
  | bl b => exact .bl b
  | int i => exact .int i
  | str h => exact .str h
  | _ => cases f
/-- a list that slot i owns is lent to an expression that gives back a plain thing -/
theorem je_lendL {i : Nat} {k0 : Option Addr} {ds : List PyData} (he : env[i]? = some (.o k0 (.list ds))) (h : JE T e (lendE env i (.list ds)) (lendE env i (.list ds)) (.d z)) (hz : flatD z = true) : JE T e env env (.d z) := fun X hX =>
  (h X hX).wk fun σ H Q ⟨R, C, E, k⟩ => by
    obtain ⟨p, s, _, cp, rp, vs, ho, l, r⟩ := E.own i _ _ he
    have E2 := E.lend (u := .lst vs) he s trivial (.lst upd_same l (r.mono (Ex.new cp)))
    rw [upd_self ho] at E2
    refine ⟨_, _, E2, fun v C' H' c E' r => ?_⟩
    have E3 : EnvC X.K (frameOf (upd C p (.lst vs)) (upd H p (.lst vs))) C' (lendE env i (.list ds)) σ H' := by rw [upd_self ho]; exact E'
    have hp : H' p = some (.lst vs) := E'.cH _ _ (c _ _ upd_same)
    obtain ⟨b1, b2⟩ := E.back he s ho c E3
    rw [upd_self hp] at b2
    exact k v _ _ b1 b2 (rp_flatC r hz)
/-! ### dicts made of other things -/
theorem je_copyD (hg : glB T.sc "dict" = true) (hm : T.mg "dict" = none) {es : List (κ × ν)} (ke : KeyE ek) (ha : JE T e e0 e1 (.b (eM ek ev es))) (hp : Plain e [] pos := by exact ⟨fun _ => rfl, fun _ => rfl⟩) : JE T (.Call (.Name "dict" p) [e] [] pos) e0 e1 (.o (eM ek ev es)) :=
  je_ty1 (r := fun K xs H Q => ∃ (a : Addr) (kvs : List (Key × V)), xs = [.ref a] ∧ Rd H a (.dK kvs) ∧ ∀ p, H p = none → Q (.ref p) (upd H p (.dK kvs))) (fun X hX => call_dictD) hg hm (by decide +kernel) ha (fun R C H env σ v Q E hv k => by
    obtain ⟨p, kvs, rfl, h1, l1, r1⟩ := rb_dK E hv (kvs_head ke)
    refine ⟨p, kvs, rfl, h1, fun q hq => ?_⟩
    obtain ⟨E', r⟩ := E.freshK hq l1 r1
    exact k _ C _ (Ex.refl C) E' r) hp
/-- the pairs of a list -/
theorem pairs_rps (ke : KeyE ek) (c : Ex C H) : ∀ {xs : List (κ × ν)} {vs : List V}, Rps K C vs (xs.map (eP2 ek ev)) → ∃ (ps : List Addr) (kvs : List (Key × V)), vs = ps.map V.ref ∧ Paired (fun p kv => SqT K H p [kV kv.1, kv.2]) ps kvs ∧ RpK K C kvs (xs.map fun p => (ek p.1, ev p.2))
  | [], vs, h => by cases h; exact ⟨[], [], rfl, .nil, .nil⟩
  | x :: xs, vs, h => by
    cases h with
    | cons h1 h2 =>
    obtain ⟨ps, kvs, e, pp, rr⟩ := pairs_rps ke c h2
    subst e
    cases h1 with
    | tup q l r =>
    rename_i a ws
    cases r with
    | cons k1 r2 =>
    cases r2 with
    | cons v1 r3 =>
    cases r3
    have hk := rp_kOk ke k1
    have := rp_key ke k1
    subst this
    rename_i w
    exact ⟨a :: ps, (ke.f x.1, w) :: kvs, rfl, .cons (c.t q) pp, rpk_mk (k := x.1) (v := x.2) ke hk v1 rr⟩
theorem je_dictL (hg : glB T.sc "dict" = true) (hm : T.mg "dict" = none) (ke : KeyE ek) (ha : JE T e e0 e1 (.b (.list (xs.map (eP2 ek ev))))) (hp : Plain e [] pos := by exact ⟨fun _ => rfl, fun _ => rfl⟩) : JE T (.Call (.Name "dict" p) [e] [] pos) e0 e1 (.o (eM ek ev (dMk xs))) :=
  je_ty1 (r := fun K us H Q => ∃ (a : Addr) (ps : List Addr) (kvs : List (Key × V)), us = [.ref a] ∧ SqL K H a (ps.map V.ref) ∧ Paired (fun p kv => SqT K H p [kV kv.1, kv.2]) ps kvs ∧ ∀ p, H p = none → Q (.ref p) (upd H p (.dK (mergeK [] kvs)))) (fun X hX => call_dictP hX.calm) hg hm (by decide +kernel) ha (fun R C H env σ v Q E hv k => by
    obtain ⟨p, vs, rfl, h1, l1, r1⟩ := rb_lst E hv
    obtain ⟨ps, kvs, e, pp, rr⟩ := pairs_rps ke E.cH r1
    subst e
    refine ⟨p, ps, kvs, rfl, SqL.of h1, pp, fun q hq => ?_⟩
    have hl : kvs.length ≤ LN := by have := Paired.length pp; rw [List.length_map] at l1; omega
    obtain ⟨E', r⟩ := E.freshK (kvs := mergeK [] kvs) hq (by have := length_mergeK kvs []; simp at this; omega) (rpk_merge ke (acc := []) rr .nil)
    exact k _ C _ (Ex.refl C) E' r) hp
/-- list(d), len(d), the keys in order -/
theorem keys_rps (ke : KeyE ek) : ∀ {xs : List (κ × ν)} {kvs : List (Key × V)}, RpK K C kvs (xs.map fun p => (ek p.1, ev p.2)) → Rps K C (kvs.map fun kv => kV kv.1) ((xs.map (·.1)).map ek)
  | [], kvs, h => by rw [rpk_nil h]; exact .nil
  | p :: xs, kvs, h => by
    obtain ⟨u, r, e, h1, h2, h3⟩ := rpk_cons ke h
    subst e
    exact .cons (key_of ke h3) (keys_rps ke h2)
theorem je_listDk (hg : glB T.sc "list" = true) (hm : T.mg "list" = none) (ke : KeyE ek) (ha : JE T e e0 e1 (.b (eM ek ev xs))) (hp : Plain e [] pos := by exact ⟨fun _ => rfl, fun _ => rfl⟩) : JE T (.Call (.Name "list" p) [e] [] pos) e0 e1 (.o (.list ((xs.map (·.1)).map ek))) :=
  je_ty1 (r := fun K us H Q => ∃ (a : Addr) (kvs : List (Key × V)), us = [.ref a] ∧ Rd H a (.dK kvs) ∧ ∀ p, H p = none → Q (.ref p) (upd H p (.lst (kvs.map fun kv => kV kv.1)))) (fun X hX => call_listD hX.calm) hg hm (by decide +kernel) ha (fun R C H env σ v Q E hv k => by
    obtain ⟨p, kvs, rfl, h1, l1, r1⟩ := rb_dK E hv (kvs_head ke)
    refine ⟨p, kvs, rfl, h1, fun q hq => ?_⟩
    obtain ⟨E', r⟩ := E.freshO hq (by rw [List.length_map]; exact l1) (keys_rps ke r1)
    exact k _ C _ (Ex.refl C) E' r) hp
theorem cr_lenD {X : Cx} : CallR X (.builtin "len") (fun xs H Q => ∃ a kvs, xs = [V.ref a] ∧ Rd H a (.dK kvs) ∧ Q (.int kvs.length) H) := by
  intro pins s σ H xs us Q I r h
  obtain ⟨a, kvs, rfl, ha, q⟩ := h
  obtain ⟨u, rfl, ru⟩ := vals1 r
  cases ru
  exact d_len I ha fun t s' I' => ⟨.int kvs.length, H, I', ⟨t, rfl⟩, q⟩
theorem je_lenD (hg : glB T.sc "len" = true) (hm : T.mg "len" = none) (ke : KeyE ek) (ha : JE T e e0 e1 (.b (eM ek ev xs))) (hp : Plain e [] pos := by exact ⟨fun _ => rfl, fun _ => rfl⟩) : JE T (.Call (.Name "len" p) [e] [] pos) e0 e1 (.d (.int xs.length)) :=
  je_bi1 (r := fun K us H Q => ∃ (a : Addr) (kvs : List (Key × V)), us = [V.ref a] ∧ Rd H a (.dK kvs) ∧ Q (.int kvs.length) H) (fun X hX => cr_lenD) hg hm (by decide +kernel) ha (fun R C H env σ v Q E hv k => by
    obtain ⟨p, kvs, rfl, h1, l1, r1⟩ := rb_dK E hv (kvs_head ke)
    refine ⟨p, kvs, rfl, h1, ?_⟩
    have e : kvs.length = xs.length := by have := r1.len; rwa [List.length_map] at this
    rw [e]
    exact k _ C H (Ex.refl C) E (.int _)) hp
theorem je_sortDI {xs : List (Int × ν)} (hg : glB T.sc "sorted" = true) (hm : T.mg "sorted" = none) (ha : JE T e e0 e1 (.b (eM PyData.int ev xs))) (hl : xs.length < 64) (hp : Plain e [] pos := by exact ⟨fun _ => rfl, fun _ => rfl⟩) : JE T (.Call (.Name "sorted" p) [e] [] pos) e0 e1 (.o (.list ((pySort PyData.int (xs.map (·.1))).map PyData.int))) :=
  je_bi1 (r := fun K us H Q => ∃ (a : Addr) (kvs : List (Key × V)) (ks : List Int), us = [.ref a] ∧ Rd H a (.dK kvs) ∧ kvs.map (·.1) = ks.map Sum.inl ∧ ks.length < 64 ∧ ∀ (ys : List Int) (p : Addr), ys.Perm ks → ys.Pairwise (· ≤ ·) → H p = none → Q (.ref p) (upd H p (.lst (ys.map V.int)))) (fun X hX => call_sortedDI hX.calm) hg hm (by decide +kernel) ha (fun R C H env σ v Q E hv k => by
    obtain ⟨p, kvs, rfl, h1, l1, r1⟩ := rb_dK E hv (kvs_head ke_int)
    refine ⟨p, kvs, xs.map (·.1), rfl, h1, ?_, by simpa using hl, fun ys q hy hs hq => ?_⟩
    · have key : ∀ {xs : List (Int × ν)} {kvs : List (Key × V)}, RpK T.K C kvs (xs.map fun p => (PyData.int p.1, ev p.2)) → kvs.map (·.1) = (xs.map (·.1)).map Sum.inl := by
        intro xs
        induction xs with
        | nil => intro kvs h; rw [rpk_nil h]; rfl
        | cons x xs ih => intro kvs h; obtain ⟨u, r, e, h1, h2, h3⟩ := rpk_cons ke_int h; subst e; rw [List.map_cons, ih h2]; rfl
      exact key r1
    · have e : pySort PyData.int (xs.map (·.1)) = ys := pySort_eq tri_int hy.symm (hs.imp fun {a b} h => by rw [ltB_int]; exact decide_eq_false (by omega))
      obtain ⟨E', r⟩ := E.freshO (vs := ys.map V.int) hq (by rw [List.length_map, hy.length_eq, List.length_map]; show _ ≤ 16777216; omega) Rps.ints
      exact k _ C _ (Ex.refl C) E' (by rw [e]; exact r)) hp
end
end J
namespace J
open PySem L2 PySem.Spec PyProof.Rows
theorem dGet_some {κ ν : Type} [DecidableEq κ] (k : κ) : ∀ xs : List (κ × ν), (dGet (xs.map fun p => (p.1, some p.2)) k).getD none = dGet xs k
  | [] => rfl
  | p :: xs => by
    by_cases c : p.1 = k
    · rw [List.map_cons, dGet_pos (p := (p.1, some p.2)) c, dGet_pos c]; rfl
    · rw [List.map_cons, dGet_neg (p := (p.1, some p.2)) c, dGet_neg c]; exact dGet_some k xs
section
variable {T : TC} {a b e o : Expr} {es : List Expr} {env e0 e1 e2 e3 : Env'} {pos p apos : Pos} {x y z : PyData} {ds : List PyData} {K : PySem.W.Frag} {R C C' H H' : Hp} {σ : L2.St} {v : V} {κ ν : Type} [DecidableEq κ] {ek : κ → PyData} {ev : ν → PyData} {xs : List (κ × ν)} {k : κ}
theorem je_get1o (ke : KeyE ek) {xs : List (κ × Option ν)} (h : JE2 T o b e0 e2 (eM ek (eO ev) xs) (ek k)) (hp : PlainG o "get" apos [b] pos := by exact ⟨fun _ => rfl, fun _ => rfl, rfl⟩) (ht : ∀ v : Env, backTo pos (starEach [b] v) = [(false, eval b v)] := by intro _; rfl) :
    JE T (.Call (.Attribute o "get" apos) [b] [] pos) e0 e2 (.d (eO ev ((dGet xs k).getD none))) := by
  have := je_get1 (pos := pos) (apos := apos) ke h hp ht
  have q : eO (eO ev) (dGet xs k) = eO ev ((dGet xs k).getD none) := by cases dGet xs k <;> rfl
  rw [q] at this; exact this
theorem je_get2o {xs : List (κ × Option ν)} (ke : KeyE ek) {j : Nat} {p2 : Pos} (h : JE2 T o b e0 e2 (eM ek (eO ev) xs) (ek k)) (hp : PlainG o "get" apos [b, .Constant .none j p2] pos := by exact ⟨fun _ => rfl, fun _ => rfl, rfl⟩) (ht : ∀ v : Env, backTo pos (starEach [b, .Constant .none j p2] v) = [(false, eval b v), (false, eval (.Constant .none j p2) v)] := by intro _; rfl) :
    JE T (.Call (.Attribute o "get" apos) [b, .Constant .none j p2] [] pos) e0 e2 (.d (eO ev ((dGet xs k).getD none))) :=
  je_get2 (ev := eO ev) (x := none) ke h je_non hp ht
/-- d.get(k, None), values that are never None -/
theorem je_get2n (ke : KeyE ek) {j : Nat} {p2 : Pos} (h : JE2 T o b e0 e2 (eM ek ev xs) (ek k)) (hp : PlainG o "get" apos [b, .Constant .none j p2] pos := by exact ⟨fun _ => rfl, fun _ => rfl, rfl⟩) (ht : ∀ v : Env, backTo pos (starEach [b, .Constant .none j p2] v) = [(false, eval b v), (false, eval (.Constant .none j p2) v)] := by intro _; rfl) :
    JE T (.Call (.Attribute o "get" apos) [b, .Constant .none j p2] [] pos) e0 e2 (.d (eO ev (dGet xs k))) := by
  have h' : JE2 T o b e0 e2 (eM ek (eO ev) (xs.map fun p => (p.1, some p.2))) (ek k) := by
    have q : eM ek (eO ev) (xs.map fun p => (p.1, some p.2)) = eM ek ev xs := by simp [eM, List.map_map, Function.comp_def, eO]
    rw [q]; exact h
  have := je_get2o (pos := pos) (apos := apos) ke h' hp ht
  rw [dGet_some] at this; exact this
theorem risingS_pw : ∀ (ys : List Str) (x : Str), risingS x ys = true → (x :: ys).Pairwise fun a b => ltB PyData.str b a = false
  | [], x, _ => by simp
  | y :: ys, x, h => by
    unfold risingS at h
    rw [Bool.and_eq_true] at h
    have ih := risingS_pw ys y h.2
    have hxy : ¬ y.cps.toList < x.cps.toList := by
      have h1 := h.1
      rw [ltCps_eq] at h1
      exact of_decide_eq_false (by simpa using h1)
    refine List.pairwise_cons.mpr ⟨fun z hz => ?_, ih⟩
    show PySem.W.dataLt (PyData.str z) (PyData.str x) = false
    rw [PySem.W.dataLt_str]
    refine decide_eq_false fun hlt => ?_
    rcases List.mem_cons.mp hz with hz | hz
    · rw [hz] at hlt; exact hxy hlt
    · have := (List.pairwise_cons.mp ih).1 z hz
      have h2 : ¬ z.cps.toList < y.cps.toList := by
        have q : PySem.W.dataLt (PyData.str z) (PyData.str y) = false := this
        rw [PySem.W.dataLt_str] at q
        exact of_decide_eq_false q
      exact h2 (Std.lt_of_lt_of_le hlt (Std.not_lt.mp hxy))
theorem sortedS_pw : ∀ {ys : List Str}, sortedS ys = true → ys.Pairwise fun a b => ltB PyData.str b a = false
  | [], _ => List.Pairwise.nil
  | x :: ys, h => risingS_pw ys x h
theorem je_sortDS {xs : List (Str × ν)} (hg : glB T.sc "sorted" = true) (hm : T.mg "sorted" = none) (ha : JE T e e0 e1 (.b (eM PyData.str ev xs))) (hl : xs.length < 64) (hp : Plain e [] pos := by exact ⟨fun _ => rfl, fun _ => rfl⟩) : JE T (.Call (.Name "sorted" p) [e] [] pos) e0 e1 (.o (.list ((pySort PyData.str (xs.map (·.1))).map PyData.str))) :=
  je_bi1 (r := fun K us H Q => ∃ (a : Addr) (kvs : List (Key × V)) (ks : List Str), us = [.ref a] ∧ Rd H a (.dK kvs) ∧ kvs.map (·.1) = ks.map Sum.inr ∧ ks.length < 64 ∧ ∀ (ys : List Str) (p : Addr), ys.Perm ks → sortedS ys = true → H p = none → Q (.ref p) (upd H p (.lst (ys.map V.str)))) (fun X hX => call_sortedD hX.calm) hg hm (by decide +kernel) ha (fun R C H env σ v Q E hv k => by
    obtain ⟨p, kvs, rfl, h1, l1, r1⟩ := rb_dK E hv (kvs_head ke_str)
    have key : ∀ {xs : List (Str × ν)} {kvs : List (Key × V)}, RpK T.K C kvs (xs.map fun p => (PyData.str p.1, ev p.2)) → kvs.map (·.1) = (xs.map (·.1)).map Sum.inr ∧ ∀ x ∈ xs.map (·.1), sOk x := by
      intro xs
      induction xs with
      | nil => intro kvs h; rw [rpk_nil h]; exact ⟨rfl, by simp⟩
      | cons x xs ih =>
        intro kvs h
        obtain ⟨u, r, e, h1, h2, h3⟩ := rpk_cons ke_str h
        subst e
        obtain ⟨i1, i2⟩ := ih h2
        refine ⟨by rw [List.map_cons, i1]; rfl, fun y hy => ?_⟩
        rw [List.map_cons] at hy
        rcases List.mem_cons.mp hy with hy | hy
        · rw [hy]; exact h3
        · exact i2 y hy
    obtain ⟨k1, k2⟩ := key r1
    refine ⟨p, kvs, xs.map (·.1), rfl, h1, k1, by simpa using hl, fun ys q hy hs hq => ?_⟩
    have e : pySort PyData.str (xs.map (·.1)) = ys := pySort_eq tri_str hy.symm (sortedS_pw hs)
    obtain ⟨E', r⟩ := E.freshO (vs := ys.map V.str) hq (by rw [List.length_map, hy.length_eq, List.length_map]; show _ ≤ 16777216; omega) (Rps.ofStrs fun x hx => k2 x (hy.mem_iff.mp hx))
    exact k _ C _ (Ex.refl C) E' (by rw [e]; exact r)) hp
/-- list(d.items()) -/
theorem pe_listItemsR {X : Cx} {te : TE} (hc : X.calm = true) (he : PE X e te) (hg : Gl X "list") (hm : X.mg "list" = none) (hv : bootBuiltins "list" = some (.type "list")) {cpos : Pos} (hbase : attributeBase e "items" X.env (eval e X.env) = eval e X.env) (hline : (apos.endLine == cpos.line) = true)
    (hs : starEach [.Call (.Attribute e "items" apos) [] [] cpos] X.env = (false, eval (.Call (.Attribute e "items" apos) [] [] cpos) X.env) :: starEach [] X.env) :
    PE X (.Call (.Name "list" p) [.Call (.Attribute e "items" apos) [] [] cpos] [] pos) (fun σ H Q => te σ H fun x H1 => ∃ (d : Addr) (kvs : List (Key × V)), x = .ref d ∧ Rd H1 d (.dK kvs) ∧ ∀ (H' : Hp) (p : Addr) (ts : List Addr), (∀ b o, H1 b = some o → H' b = some o) → H1 p = none → (∀ t ∈ ts, H1 t = none) → p ∉ ts → H' p = some (.lst (ts.map V.ref)) → Paired (fun (t : Addr) (q : Key × V) => H' t = some (.tup [kV q.1, q.2])) ts kvs → Q (.ref p) H') := by
  refine ⟨fun pins s σ H Q I hq => ?_⟩
  refine wpAny_Call_Name_kw (ld_blt I hg hm hv ?_)
  refine PyProof.Rows.callWith_type1 ?_ hs rfl
  rw [hs]
  show wpAny _ _ (spliced ((false, eval (.Call (.Attribute e "items" apos) [] [] cpos) X.env) :: backTo pos (starEach [] X.env))) _ _ s
  refine Calls.spliced_cons ?_
  refine wpAny_Call_method (T := "dict") (id := "dict.items") hbase rfl hline F.plainAttrs_dict F.slot_dict_items F.type_dict_items (thn (he.run pins s σ H _ I hq) fun u s1 ⟨x, H1, I1, rx, d, kvs, ex, hd, q⟩ => ?_)
  subst ex
  obtain rfl : u = Value.ref d := rx
  obtain ⟨hz, hs0, vs, kv, hdo⟩ := dk_rd I1.hok hd
  obtain ⟨ep, hat⟩ := hdo.dictAt
  have lk : kvs.length = vs.length := Paired.length kv
  have I2 : Inv X pins σ H1 { s1 with heap := s1.heap.push { cls := .type "dict_items", data := .fields #[.ref d] } } := I1.kept (t' := s1.toks) fun b ob q => Heap.get?_push_of_some _ q
  refine ⟨hdo.typeIs, hdo.mapOf.noDict, ?_⟩
  show wpAny _ _ (callWith cpos (.builtin "dict.items") [.ref d] [] []) _ X.xe s1
  refine method_meetsIn F.slot_dict_items F.entry_dict_items rfl (PySem.evalArgs_none ⟨rfl, hdo.typeIs, F.args_dict_items_1 _, _, meets_dict_items (mixKind X.prog X.w) d hs0, ⟨vs, hdo⟩, ?_⟩)
  refine Calls.spliced_nil ?_
  refine PySem.W.kdx_call (knd := mixKind X.prog X.w) (kvs := vs) (ep := ep) (I1.ok.hd hc) ⟨_, Heap.get?_push_size _ rfl, rfl, rfl⟩ (hat.push _) (by omega) fun h' tk acc c as hk hS hl hG hacc => ?_
  obtain ⟨H', k1, k2, k3, k4, k5, k6, J⟩ := LiI.items_laid (tk := tk) I2 hz kv hk hS hl hG hacc
  exact ⟨.ref _, H', J, rfl, q H' _ as k1 k2 k3 k4 k5 k6⟩
/-- the heap behind many new tuples -/
theorem EnvC.many (E : EnvC K R C env σ H) : ∀ (ts : List Addr) (H' : Hp) (O : Addr → HO), (∀ b o, H b = some o → H' b = some o) → (∀ t ∈ ts, H t = none) → (∀ t ∈ ts, H' t = some (O t)) → (∀ t, lkO (O t)) →
    ∃ C', Ex C C' ∧ EnvC K R C' env σ H' ∧ (∀ t ∈ ts, C' t = some (O t)) ∧ ∀ t o, C' t = some o → C t = some o ∨ t ∈ ts := fun ts H' O k1 k2 k3 k4 => by
  have hd : ∀ a, Decidable (a ∈ ts) := fun a => inferInstance
  refine ⟨fun a => if a ∈ ts then H' a else C a, fun a o e => ?_, ⟨E.len, fun a o e => ?_, fun a o e => k1 _ _ (E.rH _ _ e), fun a e => ?_, fun i x e => ?_, fun i q x e => ?_, E.apart, fun a o e => ?_⟩, fun t ht => ?_, fun t o e => ?_⟩
  · have : a ∉ ts := fun z => by rw [E.cN (k2 a z)] at e; cases e
    simp only [if_neg this]; exact e
  · by_cases z : a ∈ ts
    · simp only [if_pos z] at e; exact e
    · simp only [if_neg z] at e; exact k1 _ _ (E.cH _ _ e)
  · have : a ∉ ts := fun z => e (E.rN (k2 a z))
    simp only [if_neg this]; exact E.rc a e
  · obtain ⟨v, h1, h2⟩ := E.dat i x e
    refine ⟨v, h1, h2.mono fun a o e => ?_⟩
    have : a ∉ ts := fun z => by rw [E.cN (k2 a z)] at e; cases e
    simp only [if_neg this]; exact e
  · obtain ⟨p, h1, h0, h2, h3, h4⟩ := E.own i q x e
    have ht : p ∉ ts := fun z => h4.there (k2 p z)
    cases ho : H p with
    | none => rw [ho] at h4; exact absurd rfl h4.there
    | some o =>
      refine ⟨p, h1, h0, by simp only [if_neg ht]; exact h2, h3, ?_⟩
      rw [k1 _ _ ho, ← ho]
      refine h4.mono fun a o e => ?_
      have : a ∉ ts := fun z => by rw [E.cN (k2 a z)] at e; cases e
      simp only [if_neg this]; exact e
  · by_cases z : a ∈ ts
    · simp only [if_pos z] at e; rw [k3 a z] at e; cases e; exact k4 a
    · simp only [if_neg z] at e; exact E.lk _ _ e
  · simp only [if_pos ht]; exact k3 t ht
  · by_cases z : t ∈ ts
    · exact .inr z
    · simp only [if_neg z] at e; exact .inl e
theorem tups_rps (ke : KeyE ek) (c : Ex C C') {O : Addr → HO} : ∀ {ts : List Addr} {kvs : List (Key × V)} {xs : List (κ × ν)}, Paired (fun (t : Addr) (q : Key × V) => C' t = some (.tup [kV q.1, q.2])) ts kvs → RpK K C kvs (xs.map fun p => (ek p.1, ev p.2)) → Rps K C' (ts.map V.ref) (xs.map (eP2 ek ev))
  | _, _, [], h, r => by
    have := rpk_nil r
    subst this
    cases h; exact .nil
  | _, _, x :: xs, h, r => by
    obtain ⟨u, r', e, h1, h2, h3⟩ := rpk_cons ke r
    subst e
    cases h with
    | cons h0 ht =>
    exact .cons (.tup (.inl (.inl h0)) (by show 2 ≤ LN; decide) (.cons (key_of ke h3) (.cons (h1.mono c) .nil))) (tups_rps ke c (O := O) ht h2)
theorem je_listItems {cpos : Pos} (hg : glB T.sc "list" = true) (hm : T.mg "list" = none) (ke : KeyE ek) (ha : JE T e e0 e1 (.b (eM ek ev xs))) (hb : ∀ v : Env, attributeBase e "items" v (eval e v) = eval e v := by intro _; rfl) (hl : (apos.endLine == cpos.line) = true := by rfl)
    (hs : ∀ v : Env, starEach [.Call (.Attribute e "items" apos) [] [] cpos] v = (false, eval (.Call (.Attribute e "items" apos) [] [] cpos) v) :: starEach [] v := by intro _; rfl) :
    JE T (.Call (.Name "list" p) [.Call (.Attribute e "items" apos) [] [] cpos] [] pos) e0 e1 (.o (.list (xs.map (eP2 ek ev)))) := fun X hX =>
  (pe_listItemsR hX.calm (ha X hX) (gl_of hX hg) (by rw [hX.mg]; exact hm) (by decide +kernel) (hb X.env) hl (hs X.env)).wk fun σ H Q ⟨R, C, E, k⟩ => by
    refine ⟨R, C, E, fun v C1 H1 c1 E1 r1 => ?_⟩
    obtain ⟨d, kvs, rfl, h1, l1, rr⟩ := rb_dK E1 r1 (kvs_head ke)
    refine ⟨d, kvs, rfl, h1, fun H' p ts k1 k2 k3 k4 k5 k6 => ?_⟩
    have key : ∀ t ∈ ts, ∃ vs, H' t = some (.tup vs) := fun t ht => by
      obtain ⟨j, y, e1, e2, e3⟩ := LiI.paired_ix k6 ht
      exact ⟨_, e3⟩
    let O : Addr → HO := fun t => match H' t with
      | some (.tup vs) => .tup vs
      | _ => .tup []
    have hO : ∀ t ∈ ts, H' t = some (O t) := fun t ht => by
      obtain ⟨vs, e⟩ := key t ht
      show H' t = some (match H' t with | some (.tup vs) => .tup vs | _ => .tup [])
      rw [e]
    have hlk : ∀ t, lkO (O t) := fun t => by
      show lkO (match H' t with | some (.tup vs) => .tup vs | _ => .tup [])
      split <;> trivial
    obtain ⟨C', c', E', q1, q2⟩ := E1.many ts H' O k1 k3 hO hlk
    have cp : C' p = none := by
      cases q : C' p with
      | none => rfl
      | some o =>
        rcases q2 p o q with z | z
        · rw [E1.cN k2] at z; cases z
        · exact absurd z k4
    have pp : Paired (fun (t : Addr) (q : Key × V) => C' t = some (.tup [kV q.1, q.2])) ts kvs := by
      have aux : ∀ {ts' : List Addr} {kvs' : List (Key × V)}, (∀ t ∈ ts', t ∈ ts) → Paired (fun (t : Addr) (q : Key × V) => H' t = some (.tup [kV q.1, q.2])) ts' kvs' → Paired (fun (t : Addr) (q : Key × V) => C' t = some (.tup [kV q.1, q.2])) ts' kvs' := by
        intro ts' kvs' hs h
        induction h with
        | nil => exact .nil
        | @cons a b as bs h0 ht ih =>
          refine .cons ?_ (ih fun t ht => hs t (by simp [ht]))
          have hm := hs a (by simp)
          rw [q1 a hm, ← hO a hm]; exact h0
      exact aux (fun t h => h) k6
    refine k _ C' _ (c1.trans c') E' ⟨p, rfl, cp, E1.rN k2, E1.notOwn k2, ts.map V.ref, k5, ?_, tups_rps (O := O) ke c' pp rr⟩
    rw [List.length_map, Paired.length k6]; exact l1
/-- x or y, tuples -/
theorem je_orT {α : Type} {enc : α → PyData} {xs ys : List α} (h : JE T a e0 e1 (.d (.tuple (xs.map enc)))) (h' : xs.isEmpty = true → JE T b e1 e1 (.d (.tuple (ys.map enc)))) : JE T (.BoolOp .Or [a, b] pos) e0 e1 (.d (.tuple ((if xs.isEmpty = true then ys else xs).map enc))) := fun X hX => by
  cases c : xs.isEmpty with
  | true =>
    refine (pe_orT (h X hX) (pe_one (h' c X hX))).wk fun σ H Q ⟨R, C, E, k⟩ => ⟨R, C, E, fun v C1 H1 c1 E1 r1 => ⟨false, ?_, ?_⟩⟩
    · have z := tru_rp (r1.mono E1.cH) rfl
      have e : truD (.tuple (xs.map enc)) = false := by
        show (!(xs.map enc).isEmpty) = false
        rw [List.isEmpty_map, c]; rfl
      rw [e] at z; exact z
    · rw [if_neg Bool.false_ne_true]
      exact ⟨R, C1, E1, fun w C2 H2 c2 E2 r2 => k w C2 H2 (c1.trans c2) E2 r2⟩
  | false =>
    refine (pe_orT (h X hX) pe_dead).wk fun σ H Q ⟨R, C, E, k⟩ => ⟨R, C, E, fun v C1 H1 c1 E1 r1 => ⟨true, ?_, ?_⟩⟩
    · have z := tru_rp (r1.mono E1.cH) rfl
      have e : truD (.tuple (xs.map enc)) = true := by
        show (!(xs.map enc).isEmpty) = true
        rw [List.isEmpty_map, c]; rfl
      rw [e] at z; exact z
    · rw [if_pos rfl]
      exact k v C1 H1 c1 E1 r1
theorem sw_falseD {sc : Scope} {nm : Str} {pos' : Pos} {kx vx : Expr} {gs : List Comprehension} {scope : Scope} {lpos : Pos} (h : sc.names.lookup nm = some .cell) (v : Env) (hv : v.scope = sc) (l : Nat) : swapsWith (.DictComp kx vx gs scope lpos) (some (.Name nm pos')) l v = pure false := by
  have ky : v.kindOf nm = some .cell := by unfold Env.kindOf; rw [hv]; exact h
  unfold swapsWith
  simp only [ky]
  have : ((some NameKind.cell : Option NameKind) == some NameKind.local) = false := by decide
  simp only [this, Bool.and_false, Bool.false_and]
theorem js_setCD (i : Nat) {nm : Str} {pos' : Pos} {d : PyData} {kx vx : Expr} {gs : List Comprehension} {scope : Scope} {lpos : Pos} (hnd : T.N.Nodup) (h : JE T (.DictComp kx vx gs scope lpos) e0 e1 (.o d)) (hN : T.N[i]? = some nm := by rfl) (hl : T.sc.names.lookup nm = some .cell := by rfl) (hf : T.fn nm = true := by rfl) :
    JS T (.Assign [.Name nm pos'] (.DictComp kx vx gs scope lpos) pos) e0 (.nx (e1.set i (.o none d))) := fun X hX =>
  (ps_set (i := i) (by rw [hX.N]; exact hnd) (by rw [hX.N]; exact hN) (by rw [hX.sc]; exact .inr hl) (h X hX) (sw_falseD hl X.env hX.sc pos.line) (.inl (hX.fn _ hf))).wk fun D σ H ⟨R, C, E, k⟩ => ⟨R, C, E, fun v C' H' c E' ⟨p, ev, cp, rp, no, ow⟩ => by
    subst ev
    exact k _ C' H' c (E'.setO i cp rp no ow)⟩
/-- sorted, of things some of whose parts might be None, but are not -/
theorem je_sortLo {α β : Type} {enc1 : α → PyData} {enc : β → PyData} {f : α → β} {g : β → α} {xs : List α} (hg : glB T.sc "sorted" = true) (hm : T.mg "sorted" = none) (ha : JE T e e0 e1 (.b (.list (xs.map enc1)))) (hf : ∀ x ∈ xs, enc1 x = enc (f x)) (hgd : ∀ y, enc1 (g y) = enc y) (al : AlkE enc) (so : SrtE enc) (sh : ShE 63 enc) (hp : Plain e [] pos := by exact ⟨fun _ => rfl, fun _ => rfl⟩) :
    JE T (.Call (.Name "sorted" p) [e] [] pos) e0 e1 (.o (.list (((pySort enc (xs.map f)).map g).map enc1))) := by
  have e1' : xs.map enc1 = (xs.map f).map enc := by rw [List.map_map]; exact List.map_congr_left hf
  rw [e1'] at ha
  have e2 : ((pySort enc (xs.map f)).map g).map enc1 = (pySort enc (xs.map f)).map enc := by rw [List.map_map]; exact List.map_congr_left fun y _ => hgd y
  rw [e2]
  exact je_sortL (pos := pos) hg hm ha al so (by
    show ((xs.map f).map enc).all (shN 63) = true
    rw [List.all_map, List.all_eq_true]
    exact fun x _ => sh x) hp
end
end J
namespace J
/-! ### plain laws of dicts -/
section
variable {κ ν : Type} [DecidableEq κ]
abbrev dKeys (xs : List (κ × ν)) : List κ := xs.map (·.1)
theorem dGet_cons (p : κ × ν) (xs : List (κ × ν)) (k : κ) : dGet (p :: xs) k = if p.1 = k then some p.2 else dGet xs k := by
  by_cases c : p.1 = k
  · rw [if_pos c]; exact dGet_pos c
  · rw [if_neg c]; exact dGet_neg c
theorem dGet_none {k : κ} : ∀ {xs : List (κ × ν)}, dGet xs k = none ↔ k ∉ dKeys xs
  | [] => by simp [dGet_nil, dKeys]
  | p :: xs => by
    rw [dGet_cons]
    by_cases c : p.1 = k
    · simp [c, dKeys]
    · rw [if_neg c, dGet_none]
      simp only [dKeys, List.map_cons, List.mem_cons, not_or]
      exact ⟨fun h => ⟨fun z => c z.symm, h⟩, fun h => h.2⟩
theorem dHas_iff {xs : List (κ × ν)} {k : κ} : dHas xs k = true ↔ k ∈ dKeys xs := by
  unfold dHas
  cases h : dGet xs k with
  | none => simp [dGet_none.mp h]
  | some v =>
    simp only [Option.isSome_some, true_iff]
    refine Decidable.byContradiction fun c => ?_
    rw [dGet_none.mpr c] at h; cases h
theorem dHas_eq {xs : List (κ × ν)} {k : κ} : dHas xs k = decide (k ∈ dKeys xs) := by
  rw [Bool.eq_iff_iff, dHas_iff, decide_eq_true_eq]
theorem dGet_isSome {xs : List (κ × ν)} {k : κ} : (dGet xs k).isSome = true ↔ k ∈ dKeys xs := dHas_iff
theorem dGet_mem {k : κ} {v : ν} : ∀ {xs : List (κ × ν)}, dGet xs k = some v → (k, v) ∈ xs
  | [], h => by cases h
  | p :: xs, h => by
    rw [dGet_cons] at h
    by_cases c : p.1 = k
    · rw [if_pos c] at h; cases h; rw [← c]; exact List.mem_cons_self
    · rw [if_neg c] at h; exact List.mem_cons_of_mem _ (dGet_mem h)
theorem dGet_of {k : κ} {v : ν} : ∀ {xs : List (κ × ν)}, (dKeys xs).Nodup → (k, v) ∈ xs → dGet xs k = some v
  | [], _, h => by cases h
  | p :: xs, hn, h => by
    rw [dGet_cons]
    have hn' := List.nodup_cons.mp hn
    rcases List.mem_cons.mp h with h | h
    · rw [← h, if_pos rfl]
    · have : ¬ p.1 = k := fun z => hn'.1 (List.mem_map.mpr ⟨(k, v), h, z.symm⟩)
      rw [if_neg this]; exact dGet_of hn'.2 h
theorem dGet_map {f : κ × ν → ν} [Inhabited ν] : ∀ {xs : List (κ × ν)}, (dKeys xs).Nodup → (dKeys xs).map (fun k => unO (dGet xs k)) = xs.map (·.2) := fun {xs} hn => by
  rw [List.map_map]
  exact List.map_congr_left fun p hp => by
    show unO (dGet xs p.1) = p.2
    rw [dGet_of hn (show (p.1, p.2) ∈ xs from hp)]; rfl
theorem dGet_keys [Inhabited ν] {xs : List (κ × ν)} (hn : (dKeys xs).Nodup) {p : κ × ν} (hp : p ∈ xs) : unO (dGet xs p.1) = p.2 := by
  rw [dGet_of hn (show (p.1, p.2) ∈ xs from hp)]; rfl
theorem dPut_keys {xs : List (κ × ν)} {k : κ} {v : ν} : dKeys (dPut xs k v) = if k ∈ dKeys xs then dKeys xs else dKeys xs ++ [k] := by
  unfold dPut
  have e : (xs.any fun p => decide (p.1 = k)) = decide (k ∈ dKeys xs) := by
    rw [Bool.eq_iff_iff, List.any_eq_true, decide_eq_true_eq, dKeys, List.mem_map]
    exact ⟨fun ⟨p, h, q⟩ => ⟨p, h, of_decide_eq_true q⟩, fun ⟨p, h, q⟩ => ⟨p, h, decide_eq_true q⟩⟩
  rw [e]
  by_cases c : k ∈ dKeys xs
  · rw [if_pos (decide_eq_true c), if_pos c, dKeys, List.map_map]
    exact List.map_congr_left fun p _ => by show (if p.1 = k then (p.1, v) else p).1 = p.1; split <;> rfl
  · rw [if_neg (by simpa using c), if_neg c, dKeys, List.map_append]; rfl
theorem dPut_nd {xs : List (κ × ν)} (hn : (dKeys xs).Nodup) (k : κ) (v : ν) : (dKeys (dPut xs k v)).Nodup := by
  rw [dPut_keys]
  split
  · exact hn
  · rename_i c
    exact List.nodup_append.mpr ⟨hn, by simp, fun a ha b hb => by rw [List.mem_singleton.mp hb]; rintro rfl; exact c ha⟩
theorem dPut_new {xs : List (κ × ν)} {k : κ} (h : k ∉ dKeys xs) (v : ν) : dPut xs k v = xs ++ [(k, v)] := by
  unfold dPut
  rw [if_neg]
  intro z
  obtain ⟨p, hp, q⟩ := List.any_eq_true.mp z
  exact h (List.mem_map.mpr ⟨p, hp, of_decide_eq_true q⟩)
theorem dPut_mem {xs : List (κ × ν)} {k : κ} {v : ν} {q : κ × ν} (h : q ∈ dPut xs k v) : q = (k, v) ∨ (q ∈ xs ∧ q.1 ≠ k) ∨ (q ∈ xs ∧ k ∉ dKeys xs) := by
  unfold dPut at h
  split at h
  · obtain ⟨p, hp, e⟩ := List.mem_map.mp h
    by_cases c : p.1 = k
    · rw [if_pos c] at e; left; rw [← e, c]
    · rw [if_neg c] at e; right; left; rw [← e]; exact ⟨hp, c⟩
  · rename_i c
    rcases List.mem_append.mp h with h | h
    · right; right
      exact ⟨h, fun z => c (by
        obtain ⟨p, hp, e⟩ := List.mem_map.mp z
        exact List.any_eq_true.mpr ⟨p, hp, decide_eq_true e⟩)⟩
    · left; exact List.mem_singleton.mp h
theorem dPut_mem' {xs : List (κ × ν)} {k : κ} {v : ν} {q : κ × ν} (h : q ∈ dPut xs k v) : q = (k, v) ∨ q ∈ xs := by
  rcases dPut_mem h with h | h | h
  · exact .inl h
  · exact .inr h.1
  · exact .inr h.1
theorem dGet_app {ys : List (κ × ν)} {k : κ} : ∀ {xs : List (κ × ν)}, dGet (xs ++ ys) k = match dGet xs k with | some v => some v | none => dGet ys k
  | [] => rfl
  | p :: xs => by
    rw [List.cons_append, dGet_cons, dGet_cons]
    by_cases c : p.1 = k
    · rw [if_pos c, if_pos c]
    · rw [if_neg c, if_neg c]; exact dGet_app
theorem dGet_mapv {k j : κ} {v : ν} : ∀ {xs : List (κ × ν)}, dGet (xs.map fun p => if p.1 = k then (p.1, v) else p) j = (dGet xs j).map fun x => if j = k then v else x
  | [] => rfl
  | p :: xs => by
    rw [List.map_cons, dGet_cons, dGet_cons]
    by_cases c : p.1 = k
    · rw [if_pos c]
      by_cases d : p.1 = j
      · rw [if_pos d, if_pos d, Option.map_some, if_pos (by rw [← d, c])]
      · rw [if_neg d, if_neg d]; exact dGet_mapv
    · rw [if_neg c]
      by_cases d : p.1 = j
      · rw [if_pos d, if_pos d, Option.map_some, if_neg (by rw [← d]; exact c)]
      · rw [if_neg d, if_neg d]; exact dGet_mapv
theorem dGet_put {xs : List (κ × ν)} {k j : κ} {v : ν} : dGet (dPut xs k v) j = if j = k then some v else dGet xs j := by
  unfold dPut
  split
  · rename_i c
    rw [dGet_mapv]
    by_cases d : j = k
    · rw [if_pos d, d]
      obtain ⟨p, hp, q⟩ := List.any_eq_true.mp c
      have : k ∈ dKeys xs := List.mem_map.mpr ⟨p, hp, of_decide_eq_true q⟩
      have := dGet_isSome.mpr this
      cases h : dGet xs k with
      | none => rw [h] at this; cases this
      | some x => simp
    · rw [if_neg d]
      cases dGet xs j with
      | none => rfl
      | some x => simp [d]
  · rename_i c
    rw [dGet_app]
    have hk : k ∉ dKeys xs := fun z => c (by
      obtain ⟨p, hp, e⟩ := List.mem_map.mp z
      exact List.any_eq_true.mpr ⟨p, hp, decide_eq_true e⟩)
    by_cases d : j = k
    · rw [if_pos d, d, dGet_none.mpr hk]; exact dGet_pos rfl
    · rw [if_neg d]
      cases dGet xs j with
      | some x => rfl
      | none => exact dGet_neg (p := (k, v)) fun z => d z.symm
theorem dDel_keys {xs : List (κ × ν)} {k : κ} : dKeys (dDel xs k) = (dKeys xs).filter fun j => decide (j ≠ k) := by
  unfold dDel dKeys; rw [List.filter_map]; rfl
theorem dDel_nd {xs : List (κ × ν)} (hn : (dKeys xs).Nodup) (k : κ) : (dKeys (dDel xs k)).Nodup := by
  rw [dDel_keys]; exact hn.filter _
theorem dDel_mem {xs : List (κ × ν)} {k : κ} {q : κ × ν} : q ∈ dDel xs k ↔ q ∈ xs ∧ q.1 ≠ k := by
  unfold dDel; rw [List.mem_filter, decide_eq_true_eq]
theorem dGet_del {k j : κ} : ∀ {xs : List (κ × ν)}, dGet (dDel xs k) j = if j = k then none else dGet xs j
  | [] => by simp [dDel, dGet_nil]
  | p :: xs => by
    by_cases c : p.1 = k
    · have e : dDel (p :: xs) k = dDel xs k := by unfold dDel; rw [List.filter_cons_of_neg (by simpa using c)]
      rw [e, dGet_del, dGet_cons]
      by_cases d : j = k
      · rw [if_pos d, if_pos d]
      · rw [if_neg d, if_neg d, if_neg (by rw [c]; exact fun z => d z.symm)]
    · have e : dDel (p :: xs) k = p :: dDel xs k := by unfold dDel; rw [List.filter_cons_of_pos (by simpa using c)]
      rw [e, dGet_cons, dGet_cons, dGet_del]
      by_cases d : p.1 = j
      · rw [if_pos d, if_pos d, if_neg (by rw [← d]; exact c)]
      · rw [if_neg d, if_neg d]
theorem dDel_len {xs : List (κ × ν)} {k : κ} : (dDel xs k).length ≤ xs.length := List.length_filter_le _ _
/-- pairs whose keys differ make themselves -/
theorem dMk_app : ∀ (ps acc : List (κ × ν)), (dKeys (acc ++ ps)).Nodup → ps.foldl (fun acc p => dPut acc p.1 p.2) acc = acc ++ ps
  | [], acc, _ => by simp
  | p :: ps, acc, h => by
    rw [List.foldl_cons]
    have hk : p.1 ∉ dKeys acc := fun z => by
      rw [dKeys, List.map_append] at h
      exact (List.nodup_append.mp h).2.2 p.1 z p.1 (by simp) rfl
    rw [dPut_new hk, dMk_app ps (acc ++ [(p.1, p.2)]) (by rw [List.append_assoc]; exact h), List.append_assoc]; rfl
theorem dMk_self {ps : List (κ × ν)} (h : (dKeys ps).Nodup) : dMk ps = ps := dMk_app ps [] h
theorem dMk_nd (ps : List (κ × ν)) : ∀ (acc : List (κ × ν)), (dKeys acc).Nodup → (dKeys (ps.foldl (fun acc p => dPut acc p.1 p.2) acc)).Nodup := by
  induction ps with
  | nil => exact fun acc h => h
  | cons p ps ih => exact fun acc h => ih _ (dPut_nd h _ _)
theorem dGet_fold {j : κ} : ∀ (ps acc : List (κ × ν)), dGet (ps.foldl (fun acc p => dPut acc p.1 p.2) acc) j = match (ps.reverse.find? fun p => decide (p.1 = j)) with | some p => some p.2 | none => dGet acc j
  | [], acc => rfl
  | p :: ps, acc => by
    rw [List.foldl_cons, dGet_fold ps, List.reverse_cons, List.find?_append]
    cases h : ps.reverse.find? fun p => decide (p.1 = j) with
    | some q => rfl
    | none =>
      simp only [Option.none_or, List.find?_cons, List.find?_nil]
      rw [dGet_put]
      by_cases c : p.1 = j
      · rw [if_pos c.symm, decide_eq_true c]
      · rw [if_neg fun z => c z.symm, decide_eq_false c]
end
end J
namespace J
open PySem L2 PySem.Spec PyProof.Rows PySem.W
theorem ltB_p3 {α β γ : Type} [DecidableEq α] [DecidableEq β] [DecidableEq γ] {f : α → PyData} {g : β → PyData} {h : γ → PyData} (F : AlkE f) (G : AlkE g) (K : AlkE h) (Fe : EqE f) (Ge : EqE g) (Ke : EqE h) (p q : α × β × γ) : ltB (eP3 f g h) p q = if p.1 = q.1 then (if p.2.1 = q.2.1 then ltB h p.2.2 q.2.2 else ltB g p.2.1 q.2.1) else ltB f p.1 q.1 := by
  show dataLt (.tuple _) (.tuple _) = _
  rw [dataLt_tuple]
  by_cases h1 : p.1 = q.1
  · rw [if_pos h1, dataLt_all_yes (F.1 _ _) (by rw [Fe]; simp [h1])]
    by_cases h2 : p.2.1 = q.2.1
    · rw [if_pos h2, dataLt_all_yes (G.1 _ _) (by rw [Ge]; simp [h2])]
      by_cases h3 : p.2.2 = q.2.2
      · rw [dataLt_all_yes (K.1 _ _) (by rw [Ke]; simp [h3])]
        unfold ltB; rw [h3]
        have e1 : lexLt itemOrd (keyToksAll []) (keyToksAll []) = false := by
          unfold keyToksAll; rw [lex_one]; simp [itemLt]
        rw [e1]
        exact (dataLt_irrefl _).symm
      · rw [dataLt_all_no (K.1 _ _) (by rw [Ke]; simp [h3])]; rfl
    · rw [if_neg h2, dataLt_all_no (G.1 _ _) (by rw [Ge]; simp [h2])]; rfl
  · rw [if_neg h1, dataLt_all_no (F.1 _ _) (by rw [Fe]; simp [h1])]; rfl
/-! ### while loops by an invariant and a measure -/
theorem while_inv {L : Type} {c : L → Bool} {step : L → L} (I : L → Prop) (m : L → Nat) (hI : ∀ l, I l → c l = true → I (step l) ∧ m (step l) < m l) :
    ∀ (n : Nat) (l : L), I l → m l < n → I (whileL c step n l) ∧ c (whileL c step n l) = false ∧ whileEnds (ρ := PyData) c (fun l => .inl (step l)) n l
  | 0, l, _, h => by omega
  | n + 1, l, hl, h => by
    cases q : c l with
    | false =>
      refine ⟨?_, ?_, ?_⟩
      · unfold whileL; rw [q]; exact hl
      · unfold whileL; rw [q]; exact q
      · unfold whileEnds; rw [q]; exact fun z => by cases z
    | true =>
      obtain ⟨h1, h2⟩ := hI l hl q
      obtain ⟨r1, r2, r3⟩ := while_inv I m hI n (step l) h1 (by omega)
      refine ⟨?_, ?_, ?_⟩
      · unfold whileL; rw [q]; exact r1
      · unfold whileL; rw [q]; exact r2
      · unfold whileEnds; intro _ l2 e; cases e; exact r3
theorem reach_inv {L : Type} {c : L → Bool} {step : L → L} (I : L → Prop) (hI : ∀ l, I l → c l = true → I (step l)) {l0 : L} (h0 : I l0) : ∀ l, Reach (ρ := PyData) c (fun l => .inl (step l)) l0 l → I l := fun l hl => by
  induction hl with
  | z => exact h0
  | s _ hc e ih => cases e; exact hI _ ih hc
end J
namespace J
open PySem L2 PySem.Spec PyProof.Rows
/-! ### tuples whose object is known: dict(tuple) -/
/-- the object is a plain tuple -/
def plainT (o : Obj) : Prop := o.cls = .type "tuple" ∧ o.dict = none
def eTK {α : Type} (enc : α → PyData) (xs : List α) : PyData := .dict [(.none, .tuple (xs.map enc))]
section
variable {X : Cx}
theorem call_tupleK : CallR X (.type "tuple") (fun xs H Q => ∃ p ys, xs = [.ref p] ∧ SqL X.K H p ys ∧ ∀ l o, H l = none → plainT o → Q (.ref l) (upd H l (.frz o (.tup ys)))) := by
  intro pins s σ H xs us Q I r h
  obtain ⟨p, ys, rfl, hq, q⟩ := h
  obtain ⟨u, rfl, rx⟩ := vals1 r
  cases rx
  obtain ⟨its, r', pl, hz⟩ := I.list hq
  have hlen := r'.length
  refine call_tuple_list pl.isList (fun h' kp => ?_) (by simp only [List.size_toArray] <;> omega)
  have I1 : Inv X pins σ H { s with heap := h' } := I.kept (t' := s.toks) kp
  have I2 : Inv X pins σ (upd H h'.objs.size (.frz { cls := .type "tuple", data := .seq its.toArray } (.tup ys))) { s with heap := h'.push { cls := .type "tuple", data := .seq its.toArray } } :=
    I1.laid (t' := s.toks) (fun b o e => Heap.get?_push_of_some _ e) (Nat.le_refl _) ⟨Heap.get?_push_size _ rfl, show ObjOk X.prog X.w _ _ _ (.tup ys) from ⟨hz, its, r', IsTup.new _ _⟩⟩
  exact ⟨.ref h'.objs.size, _, I2, rfl, q _ _ (I1.hok.fresh (Nat.le_refl _)) ⟨rfl, rfl⟩⟩
def tTupK (t : TA) : TE := fun σ H Q => t σ H fun xs H1 => xs.length ≤ sizeLine ∧ ∀ p o, H1 p = none → plainT o → Q (.ref p) (upd H1 p (.frz o (.tup xs)))
theorem pe_tupK {es : List Expr} {t : TA} {x1 : Nat} {pos : Pos} (h : PA X es t) : PE X (.Tuple es x1 pos) (tTupK t) := by
  refine ⟨fun pins s σ H Q I hq => ?_⟩
  refine wpAny_Tuple_spliced (thn (h.run pos pins s σ H _ I hq) fun us s1 ⟨xs, H1, I1, r, z, q⟩ => ⟨by rw [← r.length]; exact z, ?_⟩)
  have hf : H1 s1.heap.objs.size = none := I1.hok.fresh (Nat.le_refl _)
  refine ⟨.ref s1.heap.objs.size, _, I1.laid (t' := s1.toks) (fun b u e => Heap.get?_push_of_some _ e) (Nat.le_refl _) ?_, rfl, q _ { cls := .type "tuple", data := .seq us.toArray } hf ⟨rfl, rfl⟩⟩
  exact ⟨Heap.get?_push_size _ rfl, z, us, r, ⟨_, Heap.get?_push_size _ rfl, rfl, _, rfl⟩⟩
theorem pairsK_of {pins : List (Addr × Obj)} {σ : L2.St} {H : Hp} {s : Shared} (I : Inv X pins σ H s) : ∀ {ps : List Addr} {kvs : List (Key × V)}, Paired (fun p kv => SqT X.K H p [kV kv.1, kv.2]) ps kvs →
    ∃ (prs : List (Key × Value)) (qs : List (Value × Value)), KV kvs prs ∧ prs.length = ps.length ∧ qs.length = ps.length ∧ ∀ (j : Nat) (q : Value × Value), qs[j]? = some q → ∃ (b : Addr) (k : Key), ps[j]? = some b ∧ prs[j]? = some (k, q.2) ∧ IsTup s.heap b #[q.1, q.2] ∧ keyIs k q.1 = true
  | _, _, .nil => ⟨[], [], .nil, rfl, rfl, fun j q e => by simp at e⟩
  | _, _, .cons (a := p) (b := kv) h t => by
    obtain ⟨prs, qs, r, hl, hl2, hp⟩ := pairsK_of I t
    obtain ⟨its, rv, ht, _⟩ := I.tuple h
    obtain ⟨u, y, ei, ru, ry⟩ := vals2 rv
    subst ei
    refine ⟨(kv.1, y) :: prs, (u, y) :: qs, .cons ⟨rfl, ry⟩ r, by rw [List.length_cons, List.length_cons, hl], by rw [List.length_cons, List.length_cons, hl2], fun j q e => ?_⟩
    cases j with
    | zero =>
      have e' : (u, y) = q := Option.some.inj e
      subst e'
      exact ⟨p, kv.1, rfl, rfl, ht, kV_is (P := X.prog) (w := X.w) ru⟩
    | succ j =>
      obtain ⟨b, k', e1, e2, e3, e4⟩ := hp j q (by simpa using e)
      exact ⟨b, k', by simpa using e1, by simpa using e2, e3, e4⟩
theorem call_dictPT (hcalm : X.calm = true) : CallR X (.type "dict") (fun xs H Q => ∃ (a : Addr) (o : Obj) (ps : List Addr) (kvs : List (Key × V)), xs = [.ref a] ∧ H a = some (.frz o (.tup (ps.map V.ref))) ∧ plainT o ∧ Paired (fun p kv => SqT X.K H p [kV kv.1, kv.2]) ps kvs ∧
    ∀ p, H p = none → Q (.ref p) (upd H p (.dK (mergeK [] kvs)))) := by
  intro pins s σ H xs us Q I r q
  obtain ⟨a, o, ps, kvs, ex, hq, po, hp, q⟩ := q
  subst ex
  obtain ⟨u, eu, rx⟩ := vals1 r
  subst eu
  cases rx
  obtain ⟨ho, hz, its, rv, tt⟩ := (show ObjOk X.prog X.w H s.heap a (.frz o (.tup (ps.map V.ref))) from I.hok a _ hq)
  have ei := refs_at rv
  subst ei
  rw [List.length_map] at hz
  obtain ⟨prs, qs, rel, hl, hl2, hpr⟩ := pairsK_of I hp
  obtain ⟨o', ho', hc, n, hdat⟩ := tt
  rw [ho] at ho'
  cases ho'
  refine PySem.call_dict_pairs (knd := mixKind X.prog X.w) (kvs := prs) (PairArg.tuple a (ps.map Value.ref).toArray (fun j => (ps[j]?).getD 0) qs) (I.ok.hd hcalm) ⟨⟨o, n, ho, hc, po.2, hdat⟩, by simp [hl2], fun j k v e => ?_⟩ ⟨by rw [hl, hl2], fun i key v e => ?_⟩ (by rw [hl2]; exact hz) fun h' tk hd' k => ?_
  · obtain ⟨b, k', e1, e2, e3, e4⟩ := hpr j (k, v) e
    refine ⟨by simp [e1], .inl ?_⟩
    show s.heap.IsTuple ((ps[j]?).getD 0) #[k, v]
    rw [e1]
    exact e3
  · obtain ⟨b, k', e1, e2, e3, e4⟩ := hpr i (key, v) e
    exact ⟨k', e2, e4⟩
  · have hm : (s.heap.objs.size == sysModules) = false := beq_eq_false_iff_ne.mpr (Nat.ne_of_gt I.big)
    have hlen : (mergeK [] kvs).length ≤ sizeLine := by
      refine Nat.le_trans (length_mergeK kvs []) ?_
      rw [List.length_nil, Nat.zero_add, rel.length, hl]
      exact hz
    exact ⟨.ref s.heap.objs.size, upd H s.heap.objs.size (.dK (mergeK [] kvs)), I.laid (t' := tk) (fun b o e => k b o (by simp) e) (Nat.le_refl _) (show ObjOk X.prog X.w _ _ _ (.dK (mergeK [] kvs)) from ⟨hlen, hm, merged [] prs, KV.merge rel .nil, hd'⟩), rfl, q _ (I.hok.fresh (Nat.le_refl _))⟩
end
section
variable {T : TC} {es : List Expr} {e : Expr} {env e0 e1 : Env'} {pos p : Pos} {ds : List PyData} {K : PySem.W.Frag} {R C H : Hp} {σ : L2.St} {v : V} {κ ν : Type} [DecidableEq κ] {ek : κ → PyData} {ev : ν → PyData} {xs : List (κ × ν)}
theorem rp_tk {ds : List PyData} (h : Rp K C v (.dict [(.none, .tuple ds)])) : ∃ a vs o, v = .ref a ∧ C a = some (.frz o (.tup vs)) ∧ plainT o ∧ vs.length ≤ LN ∧ Rps K C vs ds := by
  generalize he : [(PyData.none, PyData.tuple ds)] = es at h
  cases h with
  | scr q l r => cases he
  | tupD q po l r => cases he; exact ⟨_, _, _, rfl, q, po, l, r⟩
  | dK q l r =>
    cases r with
    | nil => cases he
    | @cons k v r d es h1 h2 => cases k <;> simp [kD] at he
  | dT q l r => cases he
theorem EnvC.freshTK {vs : List V} {q : Addr} {o : Obj} (E : EnvC K R C env σ H) (hp : H q = none) (po : plainT o) (l : vs.length ≤ LN) (r : Rps K C vs ds) : Ex C (upd C q (.frz o (.tup vs))) ∧ EnvC K R (upd C q (.frz o (.tup vs))) env σ (upd H q (.frz o (.tup vs))) ∧ Rr K R (upd C q (.frz o (.tup vs))) (upd H q (.frz o (.tup vs))) env σ (.ref q) (.d (.dict [(.none, .tuple ds)])) :=
  ⟨Ex.new (E.cN hp), E.new hp, .tupD upd_same po l (r.mono (Ex.new (E.cN hp)))⟩
/-- tuple(list): a tuple whose object is known -/
theorem je_tupK {α : Type} {enc : α → PyData} {ys : List α} (hg : glB T.sc "tuple" = true) (hm : T.mg "tuple" = none) (ha : JE T e e0 e1 (.b (.list (ys.map enc)))) (hp : Plain e [] pos := by exact ⟨fun _ => rfl, fun _ => rfl⟩) : JE T (.Call (.Name "tuple" p) [e] [] pos) e0 e1 (.d (eTK enc ys)) :=
  je_ty1 (r := fun K xs H Q => ∃ p ys, xs = [.ref p] ∧ SqL K H p ys ∧ ∀ l o, H l = none → plainT o → Q (.ref l) (upd H l (.frz o (.tup ys)))) (fun X hX => call_tupleK) hg hm (by decide +kernel) ha (fun R C H env σ v Q E hv k => by
    obtain ⟨p, vs, rfl, h1, l1, r1⟩ := rb_lst E hv
    refine ⟨p, vs, rfl, SqL.of h1, fun l o hl po => ?_⟩
    obtain ⟨c, E', r⟩ := E.freshTK hl po l1 r1
    exact k _ _ _ c E' r) hp
/-- a written tuple: its object is known -/
theorem je_litK {k : Nat} {α : Type} {enc : α → PyData} {ys : List α} (h : JA T es e0 e1 (ys.map enc)) (hl : (ys.map enc).length ≤ LN := by exact Nat.le_of_ble_eq_true rfl) : JE T (.Tuple es k pos) e0 e1 (.d (eTK enc ys)) := fun X hX =>
  (pe_tupK (h X hX)).wk fun σ H Q ⟨R, C, E, k⟩ => ⟨R, C, E, fun vs C1 H1 c1 E1 r1 => ⟨lnS (by rw [r1.len]; exact hl), fun p o hp po => by
    obtain ⟨c, E', r⟩ := E1.freshTK hp po (by rw [r1.len]; exact hl) r1
    exact k _ _ _ (c1.trans c) E' r⟩⟩
/-- forget the object -/
theorem je_fgt {α : Type} {enc : α → PyData} {ys : List α} (h : JE T e e0 e1 (.d (eTK enc ys))) : JE T e e0 e1 (.d (eT enc ys)) := fun X hX =>
  (h X hX).wk fun σ H Q ⟨R, C, E, k⟩ => ⟨R, C, E, fun v C1 H1 c1 E1 r1 => k v C1 H1 c1 E1 (by
    obtain ⟨a, vs, o, rfl, q, po, l, r⟩ := rp_tk r1
    exact .tup (.inl (.inr ⟨o, q⟩)) l r)⟩
/-- dict(tuple of pairs) -/
theorem je_dictT (hg : glB T.sc "dict" = true) (hm : T.mg "dict" = none) (ke : KeyE ek) (ha : JE T e e0 e1 (.d (eTK (eP2 ek ev) xs))) (hp : Plain e [] pos := by exact ⟨fun _ => rfl, fun _ => rfl⟩) : JE T (.Call (.Name "dict" p) [e] [] pos) e0 e1 (.o (eM ek ev (dMk xs))) :=
  je_ty (r := fun K us H Q => ∃ (a : Addr) (o : Obj) (ps : List Addr) (kvs : List (Key × V)), us = [.ref a] ∧ H a = some (.frz o (.tup (ps.map V.ref))) ∧ plainT o ∧ Paired (fun p kv => SqT K H p [kV kv.1, kv.2]) ps kvs ∧ ∀ p, H p = none → Q (.ref p) (upd H p (.dK (mergeK [] kvs)))) (fun X hX => call_dictPT hX.calm) hg hm (by decide +kernel) (ja_cons ha ja_nil hp.he) (fun R C H env σ vs Q E hv k => by
    cases hv with
    | cons h1 r =>
    cases r
    obtain ⟨a, ws, o, rfl, q, po, l, r⟩ := rp_tk h1
    obtain ⟨ps, kvs, e, pp, rr⟩ := pairs_rps ke E.cH r
    subst e
    refine ⟨a, o, ps, kvs, rfl, E.cH _ _ q, po, pp, fun q hq => ?_⟩
    have hl : kvs.length ≤ LN := by have := Paired.length pp; rw [List.length_map] at l; omega
    obtain ⟨E', r⟩ := E.freshK (kvs := mergeK [] kvs) hq (by have := length_mergeK kvs []; simp at this; omega) (rpk_merge ke (acc := []) rr .nil)
    exact k _ C _ (Ex.refl C) E' r) hp
end
end J
namespace J
open PySem L2 PySem.Spec PyProof.Rows
instance dec6s : DecidableEq (Str × Str × Str × Int × Int × Int) := inferInstance
/-! ### comprehensions whose tests draw and whose elements draw, too -/
def fmS {α β S : Type} (c : S → α → Bool × S) (g : S → α → β × S) : S → List α → List β × S
  | s, [] => ([], s)
  | s, x :: xs => if (c s x).1 = true then ((g (c s x).2 x).1 :: (fmS c g (g (c s x).2 x).2 xs).1, (fmS c g (g (c s x).2 x).2 xs).2) else fmS c g (c s x).2 xs
theorem fmS_snoc {α β S : Type} (c : S → α → Bool × S) (g : S → α → β × S) : ∀ (xs : List α) (s : S) (x : α), fmS c g s (xs ++ [x]) = if (c (fmS c g s xs).2 x).1 = true then ((fmS c g s xs).1 ++ [(g (c (fmS c g s xs).2 x).2 x).1], (g (c (fmS c g s xs).2 x).2 x).2) else ((fmS c g s xs).1, (c (fmS c g s xs).2 x).2)
  | [], s, x => by simp only [List.nil_append, fmS]; rfl
  | y :: xs, s, x => by
    simp only [List.cons_append, fmS]
    by_cases h : (c s y).1 = true
    · simp only [if_pos h, fmS_snoc c g xs]
      split <;> rfl
    · simp only [if_neg h, fmS_snoc c g xs]
theorem fmS_in {α β S : Type} {c : S → α → Bool × S} {g : S → α → β × S} : ∀ (xs : List α) (s : S), ∀ y ∈ (fmS c g s xs).1, ∃ x ∈ xs, ∃ s', y = (g s' x).1
  | [], s => fun y h => by simp [fmS] at h
  | x :: xs, s => fun y h => by
    simp only [fmS] at h
    split at h
    · rcases List.mem_cons.mp h with e | h
      · exact ⟨x, by simp, _, e⟩
      · obtain ⟨z, hz, s', e⟩ := fmS_in xs _ y h
        exact ⟨z, by simp [hz], s', e⟩
    · obtain ⟨z, hz, s', e⟩ := fmS_in xs _ y h
      exact ⟨z, by simp [hz], s', e⟩
theorem fmS_keep {α β γ S : Type} {c : S → α → Bool × S} {g : S → α → β × S} {p : β → γ} {q : α → γ} (hh : ∀ s x, p (g s x).1 = q x) : ∀ (xs : List α) (s : S), ((fmS c g s xs).1.map p).Sublist (xs.map q)
  | [], s => by simp [fmS]
  | x :: xs, s => by
    simp only [fmS, List.map_cons]
    split
    · rw [List.map_cons, hh]
      exact (fmS_keep hh xs _).cons₂ _
    · exact (fmS_keep hh xs _).cons _
section
variable {T : TC} {a b c e : Expr} {es : List Expr} {env e0 e1 e2 e3 : Env'} {pos p p1 p2 p3 : Pos} {x y z : PyData} {ds : List PyData} {α β γ : Type} {enc : α → PyData} {tg iter elt : Expr} {ifs : List Expr} {scope : Scope}
structure LcHe {S : Type} (T : TC) (scope : Scope) (elt : Expr) (Ev : S → Env') (dec : β → PyData) (E2 : Env') (u : β × S) : Prop where
  ex : ∃ E3, JE (T.blk scope) elt E2 E3 (.d (dec u.1)) ∧ Le (Ev u.2) E3
theorem lche {S : Type} {Ev : S → Env'} {dec : β → PyData} {E2 E3 : Env'} {u : β × S} (he : JE (T.blk scope) elt E2 E3 (.d (dec u.1))) (hl : Le (Ev u.2) E3) : LcHe T scope elt Ev dec E2 u := ⟨E3, he, hl⟩
theorem lche_let {S : Type} {Ev : S → Env'} {dec : β → PyData} {E2 : Env'} {v : γ} {k : γ → β × S} (h : ∀ q, q = v → LcHe T scope elt Ev dec E2 (k q)) : LcHe T scope elt Ev dec E2 (Let v k) := h v rfl
structure LcH {S : Type} (T : TC) (scope : Scope) (tg elt : Expr) (ifs : List Expr) (own : List (Str × Nat)) (Ev : S → Env') (dec : β → PyData) (d : PyData) (s : S) (r : Bool × S) (u : β × S) : Prop where
  ex : ∃ (js : List Nat) (E1 E2 : Env'), js ⊆ own.map (·.2) ∧ JG (T.blk scope) tg js d (Ev s) E1 ∧ JTs (T.blk scope) ifs E1 E2 r.1 ∧ (r.1 = true → LcHe T scope elt Ev dec E2 u) ∧ (r.1 = false → Le (Ev r.2) E2)
theorem lch {S : Type} {own : List (Str × Nat)} {Ev : S → Env'} {dec : β → PyData} {d : PyData} {s : S} {r : Bool × S} {u : β × S} {js : List Nat} {E1 E2 : Env'} (hjs : js ⊆ own.map (·.2)) (hg : JG (T.blk scope) tg js d (Ev s) E1) (ht : JTs (T.blk scope) ifs E1 E2 r.1) (he : r.1 = true → LcHe T scope elt Ev dec E2 u) (hl : Le (Ev r.2) E2) : LcH T scope tg elt ifs own Ev dec d s r u := ⟨js, E1, E2, hjs, hg, ht, he, fun _ => hl⟩
theorem lch_let {S : Type} {own : List (Str × Nat)} {Ev : S → Env'} {dec : β → PyData} {d : PyData} {s : S} {v : γ} {k : γ → Bool × S} (g' : S → β × S) (h : ∀ q, q = v → LcH T scope tg elt ifs own Ev dec d s (k q) (g' (k q).2)) : LcH T scope tg elt ifs own Ev dec d s (Let v k) (g' (Let v k).2) := h v rfl
theorem je_lcHq {S : Type} {xs : List α} (m : List β × S) (own : List (Str × Nat)) (Ev : S → Env') (dec : β → PyData) (c : S → α → Bool × S) (g : S → α → β × S) (s0 : S) (hm : m = fmS c g s0 xs) (hi : JI T tg iter e0 (Ev s0) (xs.map enc)) (hnd : T.N.Nodup) (ok : blkC T.N T.sc scope own = true) (hu : ∀ s, unk (Ev s) (own.map (·.2)))
    (turn : ∀ s x, x ∈ xs → LcH T scope tg elt ifs own Ev dec (enc x) s (c s x) (g (c s x).2 x)) (hs : ∀ (v : Env) x, foldedSetIterable iter v x = pure x := by intro _ _; rfl) : JE T (.ListComp elt [⟨tg, iter, ifs, 0⟩] scope pos) e0 (Ev m.2) (.o (.list (m.1.map dec))) := by
  subst hm
  have := je_lcG (pos := pos) (elt := elt) (ifs := ifs) (scope := scope) own (fun i => Ev (fmS c g s0 (xs.take i)).2) (fun i => (fmS c g s0 (xs.take i)).1.map dec) hi hnd ok (by simp [fmS]) (by simp [fmS]) (fun _ _ => hu _) (fun i d hd => by
    rw [List.getElem?_map] at hd
    cases q : xs[i]? with
    | none => rw [q] at hd; cases hd
    | some x =>
      rw [q] at hd; cases hd
      obtain ⟨js, E1, E2, h1, h2, h3, h4, h5⟩ := (turn (fmS c g s0 (xs.take i)).2 x (List.mem_of_getElem? q)).ex
      simp only [take_get q, fmS_snoc]
      refine ⟨js, E1, E2, _, h1, h2, h3, fun hc => ?_, fun hc => ?_⟩
      · obtain ⟨E3, h6, h7⟩ := (h4 hc).ex
        rw [if_pos hc]
        exact ⟨E3, _, h6, h7, by rw [List.map_append]; rfl⟩
      · rw [if_neg (by rw [hc]; exact Bool.false_ne_true)]
        exact ⟨h5 hc, rfl⟩) hs
  simpa using this
end
end J
namespace J
open PySem L2 PySem.Spec PyProof.Rows
/-! ### sorted(set(a list of ints)) -/
section
variable {P : Program} {w : World} {A : Around} {E : Value → Shared → Prop} {s : Shared}
abbrev newS (w : World) : Obj := { cls := .type "set", dict := none, data := .set #[] 0 (.fresh 0 0 (!w.params.followText "set-order")) }
theorem call_set_listI {l : Addr} {items : Array Value} (ns : List Int) {Q : Value → Shared → Prop} (hh : A.handled = none) (hl : s.heap.IsList l items) (hit : IntsAre items.toList ns) (hb : ns.length + 1 < scanBound)
    (h : ∀ (h' : Heap) (tk c : Nat), SetR w h' s.heap.objs.size (fun j => decide (j ∈ ns)) c → c ≤ ns.length → (∀ b o, s.heap.get? b = some o → h'.get? b = some o) → Q (.ref s.heap.objs.size) { s with heap := h', toks := tk }) :
    wpAny (model P w) A (call (.type "set") [.ref l]) Q E s := by
  have hisz : items.size = ns.length := by
    have q := IntsAre.length hit
    rw [Array.length_toList] at q
    exact q
  obtain ⟨c, tl, hmro⟩ := PySem.F.called_set.mro
  have hmade := PySem.F.called_set.made
  have hsub := PySem.F.called_set.sub
  refine wpAny_call (codeAny_of_tree ?_)
  show wpAny _ _ (callAny (.type "set") _) _ _ _
  refine wpAny_pure ⟨Code.quiet_builtin _ (by decide +kernel), codeAny_builtin PySem.F.entry_type_call ?_⟩
  rw [Around.under_plain (weight_type_call_type "set" [.ref l] []) rfl]
  have h1 := PySem.F.called_set.notType
  have h2 := PySem.F.called_set.canCreate
  have hct := PySem.F.typeCall_set_1 (.ref l)
  repeat (any_goals (first | assumption | wp_step))

  refine codeAny_mono (code_set_led1 (.ref l) (E := E) (Q₁ := fun obj s₁ => obj = .ref s.heap.objs.size ∧ s₁ = { s with heap := s.heap.push (newS w) }) ⟨rfl, rfl⟩) fun r s₁ hr => ?_
  cases r with
  | error e => exact hr
  | ok fl =>
    cases fl with
    | ret obj =>
      obtain ⟨rfl, rfl⟩ := hr
      have hS : (s.heap.push (newS w)).get? s.heap.objs.size = some (newS w) := Heap.get?_push_size _ rfl
      have hT : Shared.TypeIs { s with heap := s.heap.push (newS w) } (.ref s.heap.objs.size) "set" := ⟨_, hS, rfl⟩
      have hli := PySem.F.called_set.init.lookup
      have hbi := PySem.F.called_set.init.bind (.ref s.heap.objs.size)
      repeat (any_goals (first | assumption | wp_step))

      refine codeAny_mono (codeAny_call_builtin (R := wants (fun r s₂ => r = .none ∧ ∃ h' tk c, s₂ = { s with heap := h', toks := tk } ∧ SetR w h' s.heap.objs.size (fun j => decide (j ∈ ns)) c ∧ c ≤ ns.length ∧
          (∀ b o, s.heap.get? b = some o → h'.get? b = some o)) E) PySem.F.called_set.init.plain PySem.F.entry_set_init (check_set_init_1 hT ?_)) fun r₂ s₂ hr₂ => ?_
      · obtain ⟨ol, hol, hcl, nl, hdl⟩ := hl
        obtain ⟨ocls, odict, odata, oslots⟩ := ol
        simp only at hcl hdl
        subst hcl; subst hdl
        have hol' : (s.heap.push (newS w)).get? l = some { cls := .type "list", dict := odict, data := .seq items nl, slots := oslots } := Heap.get?_push_of_some _ hol
        have hsls := PySem.F.sub_list_set
        have hslf := PySem.F.sub_list_frozenset
        have hne : (Value.type "list" == Value.type "dict") = false := by decide
        have hl1 : (s.heap.push (newS w)).IsList l items := ⟨_, hol', rfl, nl, rfl⟩
        unfold Builtin.«set.__init__» noKeywords Builtin.Frozenset.updateFrom
        generalize hPI : pyIter = PI
        wp_walk
        subst hPI

        refine wpAny_pyIter_list hl1 ?_
        refine wpAny_bind (wpAny_runValue ?_)
        have hlS : l < s.heap.objs.size := Heap.lt_size hol
        have hh3 : A.in1.in1.in1.handled = none := by simp [hh]
        have hz1 : (s.heap.push (newS w)).objs.size = s.heap.objs.size + 1 := Heap.size_push ..
        have hneI : l ≠ (s.heap.push (newS w)).objs.size := by
          rw [Heap.size_push]; exact Nat.ne_of_lt (Nat.lt_succ_of_lt hlS)
        have hSf : s.heap.objs.size ∉ [(s.heap.push (newS w)).objs.size, l] := by
          rw [Heap.size_push]; simp only [List.mem_cons, List.mem_singleton, List.not_mem_nil, or_false, not_or]
          exact ⟨Nat.ne_of_lt (Nat.lt_succ_self _), Nat.ne_of_gt hlS⟩
        have hval : ∀ (i : Nat) (v : Value), items[i]? = some v → ∃ k t, ns[i]? = some k ∧ v = .int k t := fun i v hv => by
          have hi : i < ns.length := by rw [← hisz]; exact (Array.getElem?_eq_some_iff.mp hv).1
          obtain ⟨t, e⟩ := IntsAre.int_at hit i v (by rw [Array.getElem?_toList]; exact hv)
          refine ⟨ns[i], t, List.getElem?_eq_getElem hi, ?_⟩
          rw [e, List.getD_eq_getElem?_getD, List.getElem?_eq_getElem hi] <;> rfl
        refine set_update_ints ((Walks.list hh3 _ l hneI items).toS) s.heap.objs.size
          hSf ns hisz hb hval (items.size - 0) 0 _ (by omega) (Nat.zero_le _)
          ⟨⟨_, Heap.get?_push_size _ rfl, rfl, rfl⟩, (hl1.push _)⟩ ?hS0 ?hR
        case hS0 =>
          have hget : ((s.heap.push (newS w)).push { cls := .type "list_iterator", data := .fields #[.ref l, .int 0 0] }).get? s.heap.objs.size
              = some (newS w) := Heap.get?_push_of_some _ hS
          exact ⟨0, Nat.le_refl 0, setR_new_at hget⟩
        case hR =>
          intro s' c' hm hc' hS'
          obtain ⟨h', g2, d', tk', os'⟩ := s'
          have eg : g2 = s.gens := hm.gens
          have ed : d' = s.drawn := hm.drawn
          have eo : os' = s.os := hm.os
          subst eg; subst ed; subst eo
          show wpAny _ _ _ _ _ _
          refine wpAny_pure ?_
          show wpAny _ _ (ret Value.none) _ _ _
          rw [hisz] at hc'
          refine wpAny_pure ⟨rfl, h', tk', c', rfl, hS', hc', fun b o e => ?_⟩
          have hb0 : b < s.heap.objs.size := Heap.lt_size e
          have hb1 : b ≠ s.heap.objs.size := Nat.ne_of_lt hb0
          have hb2 : b ≠ (s.heap.push (newS w)).objs.size := by
            rw [Heap.size_push]; exact Nat.ne_of_lt (Nat.lt_succ_of_lt hb0)
          exact hm.heap b o (by simp only [List.mem_cons, List.mem_singleton, List.not_mem_nil, or_false, not_or]; exact ⟨hb1, hb2⟩) (Heap.get?_push_of_some _ (Heap.get?_push_of_some _ e))

      · cases r₂ with
        | error e => exact hr₂
        | ok fl₂ =>
          cases fl₂ with
          | ret r =>
            obtain ⟨rfl, h', tk, c', rfl, hS', hc', hk'⟩ := hr₂
            repeat (any_goals (first | assumption | wp_step))
            exact h _ _ _ hS' hc' hk'
          | _ => exact hr₂.elim
    | _ => exact hr.elim
end
end J
namespace J
open PySem L2 PySem.Spec PyProof.Rows
section
variable {X : Cx}
def tSrtSet (K : PySem.W.Frag) (ta : TE) : TE := fun σ H Q => ta σ H fun x H1 => ∃ (l : Addr) (ns : List Int), x = V.ref l ∧ SqL K H1 l (ns.map V.int) ∧ ns.length < 64 ∧ ∀ (ys : List Int) (p : Addr), ys.Pairwise (· < ·) → (∀ k, k ∈ ys ↔ k ∈ ns) → H1 p = none → Q (.ref p) (upd H1 p (.lst (ys.map V.int)))
theorem pe_srtSet {a : Expr} {ta : TE} {p p2 q pos : Pos} (hc : X.calm = true) (hg : Gl X "sorted") (hm : X.mg "sorted" = none) (hg2 : Gl X "set") (hm2 : X.mg "set" = none) (ha : PE X a ta)
    (na : starEach [a] X.env = (false, eval a X.env) :: starEach [] X.env) : PE X (.Call (.Name "sorted" p) [.Call (.Name "set" p2) [a] [] q] [] pos) (tSrtSet X.K ta) := by
  refine ⟨fun pins s σ H Q I h => ?_⟩
  refine Call_ (ld_blt I hg hm (show bootBuiltins "sorted" = some (.builtin "sorted") by decide +kernel) ?_)
  refine PyProof.Rows.callWith_builtin1 (PyProof.Rows.args_cons ?_ rfl) rfl rfl
  refine Call_ (ld_blt I hg2 hm2 PyProof.Rows.boot_set ?_)
  refine PyProof.Rows.callWith_type1 (PyProof.Rows.args_cons (thn (ha.run pins s σ H _ I h) fun v s1 ⟨x, H1, I1, r1, q1⟩ => PyProof.Rows.args_nil ?_) na) na rfl
  obtain ⟨l, ns, rfl, hq, h1, q1⟩ := q1
  cases r1
  obtain ⟨its, r, pl, hz⟩ := I1.list hq
  refine call_set_listI ns (I1.ok.hd hc) pl.isList (by simpa using r.ints) (by unfold scanBound; omega) fun h' tk c hS hcn hk => ?_
  refine PyProof.Rows.args_nil ?_
  have I2 : Inv X pins σ H1 { s1 with heap := h', toks := tk } := I1.kept fun b o e => hk b o e
  refine sorted_set (s := { s1 with heap := h', toks := tk }) hS (I2.ok.hd hc) (by omega) fun s' p out cc ys k1 g1 o1 hp hl hy hs hmem hlen => ?_
  have hy' : Vals (ys.map V.int) out.toList := vals_of_ints hy
  have e : s'.heap.get? p = some { cls := .type "list", data := .seq out.toList.toArray cc } := by rw [hl]
  have nw : ObjOk X.prog X.w (upd H1 p (.lst (ys.map V.int))) s'.heap p (.lst (ys.map V.int)) := ⟨by rw [List.length_map, sizeLine_eq]; omega, out.toList, cc, hy', e⟩
  exact ⟨.ref p, upd H1 p (.lst (ys.map V.int)), I2.call' (ch := []) o1 (Un.laid k1 hp (I2.hok.fresh hp)) (I2.hok.laid k1 hp nw) (by rw [g1]; exact I2.bare) (fun _ z => nomatch z), rfl, q1 ys p hs (fun k => by rw [hmem k, decide_eq_true_eq]) (I2.hok.fresh hp)⟩
end
/-- in order, each once -/
def srtSet (ns : List Int) : List Int := pySort PyData.int (dd ns)
theorem srtSet_eq {ys ns : List Int} (hs : ys.Pairwise (· < ·)) (hm : ∀ k, k ∈ ys ↔ k ∈ ns) : srtSet ns = ys := by
  have hn : ys.Nodup := hs.imp fun {a b} h e => by omega
  refine pySort_eq tri_int ((List.perm_ext_iff_of_nodup (dd_nd ns) hn).mpr fun k => dd_mem.trans (hm k).symm) (hs.imp fun {a b} h => ?_)
  rw [ltB_int]; exact decide_eq_false (by omega)
section
variable {T : TC} {a : Expr} {e0 e1 : Env'} {pos p p1 p2 : Pos}
theorem je_srtSet {ns : List Int} (hg : glB T.sc "sorted" = true) (hm : T.mg "sorted" = none) (hg2 : glB T.sc "set" = true) (hm2 : T.mg "set" = none) (ha : JE T a e0 e1 (.b (.list (ns.map .int)))) (hn : ns.length < 64)
    (na : ∀ v : Env, starEach [a] v = (false, eval a v) :: starEach [] v := by intro _; rfl) : JE T (.Call (.Name "sorted" p) [.Call (.Name "set" p1) [a] [] p2] [] pos) e0 e1 (.o (.list ((srtSet ns).map PyData.int))) := fun X hX =>
  (pe_srtSet hX.calm (gl_of hX hg) (by rw [hX.mg]; exact hm) (gl_of hX hg2) (by rw [hX.mg]; exact hm2) (ha X hX) (na X.env)).wk fun σ H Q ⟨R, C, E, k⟩ => ⟨R, C, E, fun v C1 H1 c1 E1 r1 => by
    rw [hX.K] at *
    obtain ⟨q, vs, rfl, h1, l1, r1⟩ := rb_lst E1 r1
    have e := r1.int
    subst e
    refine ⟨q, ns, rfl, SqL.of h1, hn, fun ys p hs hmem hp => ?_⟩
    rw [srtSet_eq hs hmem] at k
    have hl : ys.length ≤ LN := by
      have h2 := (pySort_len PyData.int (dd ns))
      have h3 : (dd ns).length ≤ ns.length := by
        have : ∀ xs : List Int, (dd xs).length ≤ xs.length := by
          intro xs
          induction xs with
          | nil => exact Nat.le_refl _
          | cons x xs ih =>
            unfold dd
            split
            · exact Nat.le_succ_of_le ih
            · rw [List.length_cons, List.length_cons]; omega
        exact this ns
      have h4 : (srtSet ns).length = (dd ns).length := h2
      rw [srtSet_eq hs hmem] at h4
      show _ ≤ 16777216
      omega
    obtain ⟨E', r⟩ := E1.freshO (vs := ys.map V.int) hp (by rw [List.length_map]; exact hl) Rps.ints
    exact k _ C1 _ c1 E' r⟩
end
end J
namespace J
open PySem L2 PySem.Spec PyProof.Rows
/-! ### sets of texts -/
def keyS (e : Int × Value) : Str := match e.2 with | .str k _ => k | _ => Str.empty
def GoodS (w : World) (e : Int × Value) : Prop := ∃ k tk, e.2 = Value.str k tk ∧ e.1 = hashStr w k
def SetS (w : World) (h : Heap) (a : Addr) (S : Str → Bool) (n : Nat) : Prop :=
  ∃ o es ep t, h.get? a = some o ∧ o.ExactSet ∧ o.data = .set es ep t ∧ (∀ e ∈ es.toList, GoodS w e) ∧ (es.toList.map keyS).Nodup ∧ (∀ k, S k = true ↔ k ∈ es.toList.map keyS) ∧
    es.size < scanBound ∧ t.fits es.size = true ∧ es.size = n ∧ Ris t.place.toList ∧ (w.params.followText "set-order" = true ∨ t.led = true)
section
variable {P : Program} {w : World} {h h' : Heap} {a : Addr} {S : Str → Bool} {n : Nat}
theorem SetS.at (R : SetS w h a S n) (k : ∀ o, h.get? a = some o → h'.get? a = some o) : SetS w h' a S n := by
  obtain ⟨o, es, ep, t, ho, r⟩ := R
  exact ⟨o, es, ep, t, k o ho, r⟩
theorem SetS.congr {S' : Str → Bool} (R : SetS w h a S n) (e : ∀ k, S' k = S k) : SetS w h a S' n := by
  have q : S' = S := funext e
  rw [q]; exact R
theorem goodS_elems {l : List (Int × Value)} (g : ∀ e ∈ l, GoodS w e) : ElemsOf (PySem.strKind P w) l := fun e he => by
  obtain ⟨k, tk, h1, h2⟩ := g e he
  exact ⟨⟨k, by rw [h1]; exact strKind_is P w k tk, h2⟩, by rw [h1] <;> rfl⟩
theorem goodS_is {e : Int × Value} (g : GoodS w e) (k : Str) : (PySem.strKind P w).is k e.2 = true ↔ keyS e = k := by
  obtain ⟨k0, tk, h1, _⟩ := g
  unfold keyS
  rw [h1]
  show ((k0 == k) = true) ↔ k0 = k
  exact beq_iff_eq
theorem goodS_mem {l : List (Int × Value)} (g : ∀ e ∈ l, GoodS w e) (k : Str) : k ∈ l.map keyS ↔ ∃ e ∈ l, (PySem.strKind P w).is k e.2 = true := by
  rw [List.mem_map]
  constructor
  · rintro ⟨e, he, q⟩
    exact ⟨e, he, (goodS_is (g e he) k).2 q⟩
  · rintro ⟨e, he, q⟩
    exact ⟨e, he, (goodS_is (g e he) k).1 q⟩
end
section
variable {P : Program} {w : World} {A : Around} {E : Value → Shared → Prop} {s : Shared} {a : Addr} {S : Str → Bool} {n : Nat}
theorem setS_add_tail {g : Bool → Sem Unit} (hg : ∀ (b : Bool) (s₁ : Shared) (Q' : Unit → Shared → Prop), Q' () s₁ → wpAny (model P w) A (g b) Q' E s₁)
    {o : Obj} {es : Array (Int × Value)} {ep : Nat} {t : SetTable} (ho : s.heap.get? a = some o) (hex : o.ExactSet) (hd : o.data = .set es ep t)
    {es1 : Array (Int × Value)} {t2 : SetTable} {S' : Str → Bool} (g1 : ∀ e ∈ es1.toList, GoodS w e) (nd1 : (es1.toList.map keyS).Nodup) (m1 : ∀ k, S' k = true ↔ k ∈ es1.toList.map keyS)
    (hb1 : es1.size < scanBound) (hf2 : t2.fits es1.size = true) (hr : Ris t2.place.toList) (hl : w.params.followText "set-order" = true ∨ t2.led = true) {wasDummy : Bool} {R : Option Bool → Shared → Prop}
    (hR : ∀ h', Heap.SameBut a s.heap h' → SetS w h' a S' es1.size → R (some true) { s with heap := h' }) :
    wpAny (model P w) A (do
        storeSet a es1 t2
        if (!wasDummy && t2.tooFull) = true then do
            g (relayAll t2 es1 (SetTable.grown es1.size)).2.2
            storeSet a (relayAll t2 es1 (SetTable.grown es1.size)).1 (relayAll t2 es1 (SetTable.grown es1.size)).2.1
            pure (some true)
          else pure (some true)) R E s := by
  refine wpAny_bind (wpAny_storeSet_of ho hd ?_ (fits_of_scanBound hb1))
  have ho1 := store_at (es' := es1) (t' := t2) ho hd
  have sb1 := Heap.SameBut.update s.heap a (Obj.putSet es1 t2)
  split
  · have pm := relayAll_perm t2 es1 (SetTable.grown es1.size)
    have hf3 := relayAll_fits t2 es1 (SetTable.grown es1.size)
    have hr3 := relayAll_ris t2 es1 (SetTable.grown es1.size)
    have hl3 := relayAll_led t2 es1 (SetTable.grown es1.size)
    generalize relayAll t2 es1 (SetTable.grown es1.size) = Z at pm hf3 hr3 hl3 ⊢
    obtain ⟨es2, t3, gave⟩ := Z
    dsimp only at pm hf3 hr3 hl3 ⊢
    have hsz : es2.size = es1.size := by rw [← Array.length_toList, pm.length_eq, Array.length_toList]
    have hb2 : es2.size < scanBound := by rw [hsz]; exact hb1
    refine wpAny_bind (hg _ _ _ ?_)
    refine wpAny_bind (wpAny_storeSet_of ho1 rfl ?_ (fits_of_scanBound hb2))
    have ho2 := store_at (es' := es2) (t' := t3) ho1 rfl
    refine wpAny_pure (hR _ (sb1.trans (Heap.SameBut.update _ a _)) ?_)
    exact ⟨_, es2, _, t3, ho2, hex, rfl, fun e he => g1 e (pm.mem_iff.mp he), (pm.map keyS).nodup_iff.mpr nd1, fun k => (m1 k).trans (pm.map keyS).mem_iff.symm, hb2, hf3, hsz, hr3,
      hl.imp id fun z => by rw [hl3]; exact z⟩
  · exact wpAny_pure (hR _ sb1 ⟨_, es1, _, t2, ho1, hex, rfl, g1, nd1, m1, hb1, hf2, rfl, hr, hl⟩)

theorem setS_add_hashed {k : Str} {tk : Tok} {Q : Bool → Shared → Prop} (R : SetS w s.heap a S n) (room : n + 1 < scanBound)
    (hQ : ∀ h', Heap.SameBut a s.heap h' → SetS w h' a (fun j => S j || decide (j = k)) (if S k = true then n else n + 1) → Q (!S k) { s with heap := h' }) :
    wpAny (model P w) A (setAddHashed a (.str k tk) ((PySem.strKind P w).hash k)) Q E s := by
  obtain ⟨o, es, ep, t, ho, hex, hd, g, nd, hm, hb, hf, hn, hr, hl⟩ := R
  have hkey : (PySem.strKind P w).is k (.str k tk) = true := strKind_is P w k tk
  have hsc : (Value.str k tk).scannable = true := rfl
  have hel : ElemsOf (PySem.strKind P w) es.toList := goodS_elems g
  unfold setAddHashed setAddHashedIn
  refine wpAny_holding (wpAny_bind (wpAny_setState_of ho hd hf ?_))
  dsimp only
  rw [byScan_of hsc hb hel]
  simp only [↓reduceIte]
  unfold setAddByScan
  refine wpAny_bind ?_
  refine wpAny_bind (wpAny_rule ?_)
  refine wpAny_bind (wpAny_setScan_of hkey ho hd hf hel ?_)
  cases hfi : List.findIdx? (fun e => (PySem.strKind P w).is k e.2) es.toList with
  | some j =>
    dsimp only
    obtain ⟨hj, pj, _⟩ := List.findIdx?_eq_some_iff_getElem.mp hfi
    have hSk : S k = true := (hm k).2 ((goodS_mem (P := P) (w := w) g k).2 ⟨es.toList[j], List.getElem_mem hj, pj⟩)
    refine wpAny_pure (wpAny_pure ?_)
    have q := hQ s.heap (Heap.SameBut.refl a s.heap) ⟨o, es, ep, t, ho, hex, hd, g, nd, fun i => by
      rw [Bool.or_eq_true, decide_eq_true_eq, ← hm i]
      exact ⟨fun z => z.elim id (fun e => e ▸ hSk), .inl⟩, hb, hf, by rw [if_pos hSk]; exact hn, hr, hl⟩
    rw [hSk] at q
    exact q
  | none =>
    dsimp only
    have hnk : k ∉ es.toList.map keyS := fun z => by
      obtain ⟨e, he, q⟩ := (goodS_mem (P := P) (w := w) g k).1 z
      have c := List.findIdx?_eq_none_iff.mp hfi e he
      rw [q] at c
      cases c
    have hSk : S k = false := by
      cases q : S k with
      | false => rfl
      | true => exact absurd ((hm k).1 q) hnk
    have hgw : ∀ (b : Bool) {s₁ : Shared} {Q' : Unit → Shared → Prop}, Q' () s₁ → wpAny (model P w) A (match b with | true => rule "set.scan.the-table-gave-way" | false => pure ()) Q' E s₁ :=
      fun b s₁ Q' q => by cases b <;> first | exact wpAny_pure q | exact wpAny_rule q
    have pm := layNew_perm t es ((PySem.strKind P w).hash k) (.str k tk)
    have hf1 := layNew_fits t es ((PySem.strKind P w).hash k) (.str k tk)
    have hr1 := layNew_ris t es ((PySem.strKind P w).hash k) (.str k tk) hr
    have hl1 := layNew_led t es ((PySem.strKind P w).hash k) (.str k tk)
    generalize layNew t es ((PySem.strKind P w).hash k) (.str k tk) = Z at pm hf1 hr1 hl1 ⊢
    obtain ⟨es1, t1, wasDummy, gave⟩ := Z
    dsimp only at pm hf1 hr1 hl1 ⊢
    rw [Array.toList_push] at pm
    have pc : es1.toList.Perm (((PySem.strKind P w).hash k, Value.str k tk) :: es.toList) := pm.trans (List.perm_append_singleton _ _)
    have pk : (es1.toList.map keyS).Perm (k :: es.toList.map keyS) := pc.map keyS
    have g1 : ∀ e ∈ es1.toList, GoodS w e := fun e he => by
      rcases List.mem_cons.mp (pc.mem_iff.mp he) with z | z
      · rw [z]; exact ⟨k, tk, rfl, rfl⟩
      · exact g e z
    have nd1 : (es1.toList.map keyS).Nodup := pk.nodup_iff.mpr (List.nodup_cons.mpr ⟨hnk, nd⟩)
    have m1 : ∀ i, (S i || decide (i = k)) = true ↔ i ∈ es1.toList.map keyS := fun i => by
      rw [Bool.or_eq_true, decide_eq_true_eq, hm i, pk.mem_iff, List.mem_cons]
      exact Or.comm
    have hsz : es1.size = n + 1 := by rw [← Array.length_toList, pc.length_eq, List.length_cons, Array.length_toList, hn]
    have hb1 : es1.size < scanBound := by rw [hsz]; exact room
    have hled : w.params.followText "set-order" = true ∨ t1.led = true := hl.imp id fun z => by rw [hl1]; exact z
    have fin : ∀ h', Heap.SameBut a s.heap h' → SetS w h' a (fun j => S j || decide (j = k)) es1.size → Q true { s with heap := h' } := fun h' sb r => by
      have q := hQ h' sb
      rw [hSk] at q
      rw [hsz] at r
      exact q r
    refine wpAny_bind (hgw _ ?_)
    split
    · refine wpAny_bind ?_
      rw [hashByValue_scannable 8 hsc]
      refine wpAny_pure ?_
      refine setS_add_tail ?_ ho hex hd g1 nd1 m1 hb1 ?_ ?_ ?_ ?_
      · intro b s₁ Q' q; cases b <;> first | exact wpAny_pure q | exact wpAny_rule q
      · first | (split <;> first | exact hf1 | exact SetTable.fits_plain_off hf1) | exact hf1
      · first | (split <;> exact hr1) | exact hr1
      · first | (split <;> exact hled) | exact hled
      · intro h' sb r; dsimp only; exact wpAny_pure (fin h' sb r)
    · refine wpAny_bind (wpAny_pure ?_)
      simp only [↓reduceIte]
      refine setS_add_tail ?_ ho hex hd g1 nd1 m1 hb1 hf1 hr1 hled ?_
      · intro b s₁ Q' q; cases b <;> first | exact wpAny_pure q | exact wpAny_rule q
      · intro h' sb r; dsimp only; exact wpAny_pure (fin h' sb r)

theorem setS_new_at {w : World} {h : Heap} {a : Addr} {ns : List Str} (ho : h.get? a = some { cls := .type "set", dict := none, data := .set #[] 0 (.fresh 0 0 (!w.params.followText "set-order")) }) : SetS w h a (fun j => decide (j ∈ ns.take 0)) 0 :=
  ⟨_, #[], 0, _, ho, ⟨rfl, rfl, rfl⟩, rfl, (fun e he => by simp at he), (by simp), (fun k => by simp), (by decide), (by rfl), rfl, List.Pairwise.nil, by
    show _ ∨ (!w.params.followText "set-order") = true
    cases w.params.followText "set-order"
    · exact .inr rfl
    · exact .inl rfl⟩

theorem set_update_strs {I : Addr} {fp wr : List Addr} {G : Array GenState → Array GenState → Prop} {n : Nat} {Pv : Nat → Value → Prop} {St : Nat → Shared → Prop} {R : Result → Shared → Prop}
    (W : WalksS P w A.in1 I fp wr G n Pv St) (S : Addr) (hSf : S ∉ fp) (ns : List Str) (hn : n = ns.length) (hb : ns.length + 1 < scanBound) (hval : ∀ i v, Pv i v → ∃ k t, ns[i]? = some k ∧ v = .str k t) :
    ∀ (k i : Nat) (s : Shared), n - i = k → i ≤ n → St i s → (∃ c, c ≤ i ∧ SetS w s.heap S (fun j => decide (j ∈ ns.take i)) c) →
      (∀ s' c, Moved (S :: wr) G s s' → c ≤ n → SetS w s'.heap S (fun j => decide (j ∈ ns)) c → R (.ok (.ret .none)) s') →
      codeAny (model P w) A (.builtin "set.update.loop" ⟨[.ref S, .ref I], []⟩) R s := by
  have hSw : S ∉ wr := fun h => hSf (W.sub _ h)
  have hsub : ∀ b ∈ wr, b ∈ S :: wr := fun b hb => List.mem_cons_of_mem _ hb
  intro k
  induction k with
  | zero =>
    intro i s hk' hi hst ⟨c, hc, hS⟩ hR
    have hin : i = n := by omega
    subst hin
    refine codeAny_builtin F.entry_set_update_loop ?_
    rw [Around.under_plainId F.plain_set_update_loop _]
    show wpAny _ A.in1 (pyNext (.ref I) >>= _) _ _ s
    refine wpAny_bind (W.done s _ _ hst fun s' hm => ?_)
    show wpAny _ A.in1 (ret Value.none) _ _ s'
    have e : ns.take i = ns := List.take_of_length_le (by omega)
    rw [e] at hS
    exact wpAny_pure (hR s' c (hm.mono hsub) hc (hS.at fun o e => hm.heap S o hSw e))
  | succ k ih =>
    intro i s hk' hi hst ⟨c, hc, hS⟩ hR
    have hlt : i < n := by omega
    refine codeAny_builtin F.entry_set_update_loop ?_
    rw [Around.under_plainId F.plain_set_update_loop _]
    show wpAny _ A.in1 (pyNext (.ref I) >>= _) _ _ s
    refine wpAny_bind (W.item i s _ _ hlt hst fun v s' hP hst' hm => ?_)
    obtain ⟨z, t, hz, rfl⟩ := hval i v hP
    have hS' : SetS w s'.heap S (fun j => decide (j ∈ ns.take i)) c := hS.at fun o e => hm.heap S o hSw e
    show wpAny _ A.in1 (holding [Value.str z t] (setAdd S (.str z t)) >>= _) _ _ s'
    refine wpAny_bind (wpAny_holding ?_)
    unfold setAdd
    refine wpAny_holding ?_
    refine wpAny_bind ((PySem.strKind P w).pyHash (k := z) (strKind_is _ _ _ _) ?_)
    refine setS_add_hashed (s := { s' with toks := s'.toks + 1 }) hS' (by omega) fun h' hsb hS2 => ?_
    have hS3 : SetS w h' S (fun j => decide (j ∈ ns.take (i + 1))) (if decide (z ∈ ns.take i) = true then c else c + 1) := hS2.congr fun j => by
      rw [List.take_add_one, hz]
      simp [List.mem_append]
    have hc3 : (if decide (z ∈ ns.take i) = true then c else c + 1) ≤ i + 1 := by
      split <;> omega
    refine wpAny_pure ⟨plainId_quiet F.plain_set_update_loop _, ih (i + 1) _ (by omega) hlt (W.frame _ s' _ _ hst' (Nat.le_succ _) fun b hb o e => ?_) ⟨_, hc3, hS3⟩ fun s'' c2 hm'' hc'' hS'' => ?_⟩
    · rw [hsb.2 b (fun h : b = S => hSf (by rw [← h]; exact hb))]; exact e
    · refine hR s'' c2 (Moved.trans W.gtrans ((hm.mono hsub).then_heap (Nat.le_succ _) fun b o hb e => ?_) hm'') hc'' hS''
      rw [hsb.2 b (fun h : b = S => hb (by rw [h]; exact List.mem_cons_self))]; exact e
end
end J
namespace J
open PySem L2 PySem.Spec PyProof.Rows
section
variable {P : Program} {w : World} {A : Around} {E : Value → Shared → Prop} {s : Shared}
theorem strs_get : ∀ {us : List Value} {xs : List Str}, StrsAre us xs → ∀ (i : Nat) (v : Value), us[i]? = some v → ∃ t, v = .str (xs.getD i default) t
  | _, _, .nil, i, v, h => by simp at h
  | _, _, .cons n t hr, 0, v, h => by simp at h; exact ⟨t, by rw [← h]; rfl⟩
  | _, _, .cons n t hr, i + 1, v, h => by
    simp only [List.getElem?_cons_succ] at h
    obtain ⟨t', e⟩ := strs_get hr i v h
    exact ⟨t', by rw [e]; rfl⟩
theorem strs_len : ∀ {us : List Value} {xs : List Str}, StrsAre us xs → us.length = xs.length
  | _, _, .nil => rfl
  | _, _, .cons n t hr => by rw [List.length_cons, List.length_cons, strs_len hr]
theorem call_set_listT {l : Addr} {items : Array Value} (ns : List Str) {Q : Value → Shared → Prop} (hh : A.handled = none) (hl : s.heap.IsList l items) (hit : PyProof.Rows.StrsAre items.toList ns) (hb : ns.length + 1 < scanBound)
    (h : ∀ (h' : Heap) (tk c : Nat), SetS w h' s.heap.objs.size (fun j => decide (j ∈ ns)) c → c ≤ ns.length → (∀ b o, s.heap.get? b = some o → h'.get? b = some o) → Q (.ref s.heap.objs.size) { s with heap := h', toks := tk }) :
    wpAny (model P w) A (call (.type "set") [.ref l]) Q E s := by
  have hisz : items.size = ns.length := by
    have q := PyProof.Rows.StrsAre.length hit
    rw [Array.length_toList] at q
    exact q
  obtain ⟨c, tl, hmro⟩ := PySem.F.called_set.mro
  have hmade := PySem.F.called_set.made
  have hsub := PySem.F.called_set.sub
  refine wpAny_call (codeAny_of_tree ?_)
  show wpAny _ _ (callAny (.type "set") _) _ _ _
  refine wpAny_pure ⟨Code.quiet_builtin _ (by decide +kernel), codeAny_builtin PySem.F.entry_type_call ?_⟩
  rw [Around.under_plain (weight_type_call_type "set" [.ref l] []) rfl]
  have h1 := PySem.F.called_set.notType
  have h2 := PySem.F.called_set.canCreate
  have hct := PySem.F.typeCall_set_1 (.ref l)
  repeat (any_goals (first | assumption | wp_step))

  refine codeAny_mono (code_set_led1 (.ref l) (E := E) (Q₁ := fun obj s₁ => obj = .ref s.heap.objs.size ∧ s₁ = { s with heap := s.heap.push (newS w) }) ⟨rfl, rfl⟩) fun r s₁ hr => ?_
  cases r with
  | error e => exact hr
  | ok fl =>
    cases fl with
    | ret obj =>
      obtain ⟨rfl, rfl⟩ := hr
      have hS : (s.heap.push (newS w)).get? s.heap.objs.size = some (newS w) := Heap.get?_push_size _ rfl
      have hT : Shared.TypeIs { s with heap := s.heap.push (newS w) } (.ref s.heap.objs.size) "set" := ⟨_, hS, rfl⟩
      have hli := PySem.F.called_set.init.lookup
      have hbi := PySem.F.called_set.init.bind (.ref s.heap.objs.size)
      repeat (any_goals (first | assumption | wp_step))

      refine codeAny_mono (codeAny_call_builtin (R := wants (fun r s₂ => r = .none ∧ ∃ h' tk c, s₂ = { s with heap := h', toks := tk } ∧ SetS w h' s.heap.objs.size (fun j => decide (j ∈ ns)) c ∧ c ≤ ns.length ∧
          (∀ b o, s.heap.get? b = some o → h'.get? b = some o)) E) PySem.F.called_set.init.plain PySem.F.entry_set_init (check_set_init_1 hT ?_)) fun r₂ s₂ hr₂ => ?_
      · obtain ⟨ol, hol, hcl, nl, hdl⟩ := hl
        obtain ⟨ocls, odict, odata, oslots⟩ := ol
        simp only at hcl hdl
        subst hcl; subst hdl
        have hol' : (s.heap.push (newS w)).get? l = some { cls := .type "list", dict := odict, data := .seq items nl, slots := oslots } := Heap.get?_push_of_some _ hol
        have hsls := PySem.F.sub_list_set
        have hslf := PySem.F.sub_list_frozenset
        have hne : (Value.type "list" == Value.type "dict") = false := by decide
        have hl1 : (s.heap.push (newS w)).IsList l items := ⟨_, hol', rfl, nl, rfl⟩
        unfold Builtin.«set.__init__» noKeywords Builtin.Frozenset.updateFrom
        generalize hPI : pyIter = PI
        wp_walk
        subst hPI

        refine wpAny_pyIter_list hl1 ?_
        refine wpAny_bind (wpAny_runValue ?_)
        have hlS : l < s.heap.objs.size := Heap.lt_size hol
        have hh3 : A.in1.in1.in1.handled = none := by simp [hh]
        have hz1 : (s.heap.push (newS w)).objs.size = s.heap.objs.size + 1 := Heap.size_push ..
        have hneI : l ≠ (s.heap.push (newS w)).objs.size := by
          rw [Heap.size_push]; exact Nat.ne_of_lt (Nat.lt_succ_of_lt hlS)
        have hSf : s.heap.objs.size ∉ [(s.heap.push (newS w)).objs.size, l] := by
          rw [Heap.size_push]; simp only [List.mem_cons, List.mem_singleton, List.not_mem_nil, or_false, not_or]
          exact ⟨Nat.ne_of_lt (Nat.lt_succ_self _), Nat.ne_of_gt hlS⟩
        have hval : ∀ (i : Nat) (v : Value), items[i]? = some v → ∃ k t, ns[i]? = some k ∧ v = .str k t := fun i v hv => by
          have hi : i < ns.length := by rw [← hisz]; exact (Array.getElem?_eq_some_iff.mp hv).1
          obtain ⟨t, e⟩ := strs_get hit i v (by rw [Array.getElem?_toList]; exact hv)
          refine ⟨ns[i], t, List.getElem?_eq_getElem hi, ?_⟩
          rw [e, List.getD_eq_getElem?_getD, List.getElem?_eq_getElem hi] <;> rfl
        refine set_update_strs ((Walks.list hh3 _ l hneI items).toS) s.heap.objs.size
          hSf ns hisz hb hval (items.size - 0) 0 _ (by omega) (Nat.zero_le _)
          ⟨⟨_, Heap.get?_push_size _ rfl, rfl, rfl⟩, (hl1.push _)⟩ ?hS0 ?hR
        case hS0 =>
          have hget : ((s.heap.push (newS w)).push { cls := .type "list_iterator", data := .fields #[.ref l, .int 0 0] }).get? s.heap.objs.size
              = some (newS w) := Heap.get?_push_of_some _ hS
          exact ⟨0, Nat.le_refl 0, setS_new_at hget⟩
        case hR =>
          intro s' c' hm hc' hS'
          obtain ⟨h', g2, d', tk', os'⟩ := s'
          have eg : g2 = s.gens := hm.gens
          have ed : d' = s.drawn := hm.drawn
          have eo : os' = s.os := hm.os
          subst eg; subst ed; subst eo
          show wpAny _ _ _ _ _ _
          refine wpAny_pure ?_
          show wpAny _ _ (ret Value.none) _ _ _
          rw [hisz] at hc'
          refine wpAny_pure ⟨rfl, h', tk', c', rfl, hS', hc', fun b o e => ?_⟩
          have hb0 : b < s.heap.objs.size := Heap.lt_size e
          have hb1 : b ≠ s.heap.objs.size := Nat.ne_of_lt hb0
          have hb2 : b ≠ (s.heap.push (newS w)).objs.size := by
            rw [Heap.size_push]; exact Nat.ne_of_lt (Nat.lt_succ_of_lt hb0)
          exact hm.heap b o (by simp only [List.mem_cons, List.mem_singleton, List.not_mem_nil, or_false, not_or]; exact ⟨hb1, hb2⟩) (Heap.get?_push_of_some _ (Heap.get?_push_of_some _ e))

      · cases r₂ with
        | error e => exact hr₂
        | ok fl₂ =>
          cases fl₂ with
          | ret r =>
            obtain ⟨rfl, h', tk, c', rfl, hS', hc', hk'⟩ := hr₂
            repeat (any_goals (first | assumption | wp_step))
            exact h _ _ _ hS' hc' hk'
          | _ => exact hr₂.elim
    | _ => exact hr.elim
end
section
variable {X : Cx}
theorem strs_keys : ∀ {l : List (Int × Value)} {w : World}, (∀ e ∈ l, GoodS w e) → StrsAre (l.map (·.2)) (l.map keyS)
  | [], w, _ => .nil
  | e :: l, w, h => by
    obtain ⟨k, tk, h1, _⟩ := h e (by simp)
    rw [List.map_cons, List.map_cons, show keyS e = k by unfold keyS; rw [h1], h1]
    exact .cons k tk (strs_keys fun x hx => h x (by simp [hx]))
theorem strs_perm {w : World} {vs : List Value} {l : List (Int × Value)} (g : ∀ e ∈ l, GoodS w e) (p : vs.Perm (l.map (·.2))) : ∃ ks : List Str, StrsAre vs ks ∧ ks.Perm (l.map keyS) := by
  have key : ∀ {us vs : List Value}, us.Perm vs → ∀ ks, StrsAre vs ks → ∃ ks', StrsAre us ks' ∧ ks'.Perm ks := by
    intro us vs p
    induction p with
    | nil => intro ks h; exact ⟨ks, h, List.Perm.refl _⟩
    | cons x p ih =>
      intro ks h
      cases h with
      | cons n t hr =>
        obtain ⟨ks', a, b⟩ := ih _ hr
        exact ⟨_, .cons n t a, b.cons _⟩
    | swap x y l =>
      intro ks h
      cases h with
      | cons n t hr =>
        cases hr with
        | cons n' t' hr =>
          exact ⟨_, .cons n' t' (.cons n t hr), List.Perm.swap _ _ _⟩
    | trans p q ih1 ih2 =>
      intro ks h
      obtain ⟨k1, a, b⟩ := ih2 ks h
      obtain ⟨k2, c, d⟩ := ih1 k1 a
      exact ⟨k2, c, d.trans b⟩
  exact key p _ (strs_keys g)
def tSrtSetS (K : PySem.W.Frag) (ta : TE) : TE := fun σ H Q => ta σ H fun x H1 => ∃ (l : Addr) (ns : List Str), x = V.ref l ∧ SqL K H1 l (ns.map V.str) ∧ ns.length < 64 ∧ ∀ (ys : List Str) (p : Addr), ys.Pairwise (fun a b => ltB PyData.str b a = false) → ys.Nodup → (∀ k, k ∈ ys ↔ k ∈ ns) → H1 p = none → Q (.ref p) (upd H1 p (.lst (ys.map V.str)))
theorem pe_srtSetS {a : Expr} {ta : TE} {p p2 q pos : Pos} (hc : X.calm = true) (hg : Gl X "sorted") (hm : X.mg "sorted" = none) (hg2 : Gl X "set") (hm2 : X.mg "set" = none) (ha : PE X a ta)
    (na : starEach [a] X.env = (false, eval a X.env) :: starEach [] X.env) : PE X (.Call (.Name "sorted" p) [.Call (.Name "set" p2) [a] [] q] [] pos) (tSrtSetS X.K ta) := by
  refine ⟨fun pins s σ H Q I h => ?_⟩
  refine Call_ (ld_blt I hg hm (show bootBuiltins "sorted" = some (.builtin "sorted") by decide +kernel) ?_)
  refine PyProof.Rows.callWith_builtin1 (PyProof.Rows.args_cons ?_ rfl) rfl rfl
  refine Call_ (ld_blt I hg2 hm2 PyProof.Rows.boot_set ?_)
  refine PyProof.Rows.callWith_type1 (PyProof.Rows.args_cons (thn (ha.run pins s σ H _ I h) fun v s1 ⟨x, H1, I1, r1, q1⟩ => PyProof.Rows.args_nil ?_) na) na rfl
  obtain ⟨l, ns, rfl, hq, h1, q1⟩ := q1
  cases r1
  obtain ⟨its, r, pl, hz⟩ := I1.list hq
  refine call_set_listT ns (I1.ok.hd hc) pl.isList (by simpa using strs_of_vals r) (by unfold scanBound; omega) fun h' tk c hS hcn hk => ?_
  refine PyProof.Rows.args_nil ?_
  have I2 : Inv X pins σ H1 { s1 with heap := h', toks := tk } := I1.kept fun b o e => hk b o e
  obtain ⟨o, es, ep, t, ho, hex, hd, g, nd, hmem, hb, hf, hn, hr, hl⟩ := hS
  refine Calls.call_function_entry PyProof.Rows.kind_sorted PyProof.Rows.plain_sorted PyProof.Rows.entry_sorted (PyProof.Rows.args_sorted1 _) ?_
  unfold Builtin.«sorted»
  refine wpAny_bind (m := checkCount "sorted" 1 1 _) (wpAny_pure ?_)
  refine wpAny_bind (collect_set (A := X.A.in1) (s := { s1 with heap := h', toks := tk }) (I2.ok.hd hc) ⟨o, ho, hex.1, hd⟩ hf hb hr hl fun s3 vs k1 hz3 g1 o1 pm => ?_)
  obtain ⟨ks, hS, pk⟩ := strs_perm g pm
  have hvl : vs.length = c := by rw [pm.length_eq, List.length_map, Array.length_toList]; exact hn
  have I3 : Inv X pins σ H1 s3 := I2.call' (ch := []) o1 (Un.kept k1) (I2.hok.kept k1) (by rw [g1]; exact I2.bare) (fun _ z => nomatch z)
  refine wpAny_bind (wpAny_newList ?_ (by rw [hvl, sizeLine_eq]; omega))
  have hoL : (s3.heap.push (seqObj "list" vs.toArray 0)).get? s3.heap.objs.size = some (seqObj "list" vs.toArray 0) := Heap.get?_push_size _ rfl
  show wpAny _ _ _ _ _ { s3 with heap := s3.heap.push (seqObj "list" vs.toArray 0) }
  refine wpAny_bind (wpAny_holding (wpAny_call_entry PyProof.Rows.slot_list_sort ⟨_, hoL, rfl⟩ PyProof.Rows.entry_list_sort
    (list_sort_treeK strKind_oneLt (s := { s3 with heap := s3.heap.push (seqObj "list" vs.toArray 0) }) hoL hS.keysOf (fun v₁ v₂ rest e => keyKind_strs (by rw [← e]; exact hS)) (by rw [hvl]; omega) fun st' hp hs => ⟨_, rfl, ?_⟩)
    (PyProof.Rows.args_list_sort _)))
  obtain ⟨ys, g4, g2, g3⟩ := sorted_out_str hS hp hs
  obtain ⟨e', he'⟩ := PyProof.Rows.sortedHeap_at (vs := vs) (out := (arrOf st').map (·.2)) hoL
  have hlen : (ys.map V.str).length ≤ sizeLine := by
    have := (strs_len hS)
    rw [List.length_map, g2.length_eq, ← this, hvl, sizeLine_eq]; omega
  have pn : ys.Perm (es.toList.map keyS) := g2.trans pk
  refine wpAny_pure ⟨_, rfl, .ref s3.heap.objs.size, upd H1 s3.heap.objs.size (.lst (ys.map V.str)), I3.laid (t' := s3.toks) (fun b u e => ?_) (Nat.le_refl _)
    (show ObjOk X.prog X.w _ _ _ (.lst (ys.map V.str)) from ⟨hlen, ((arrOf st').map (·.2)).toList, e', vals_of_strs g4, by rw [Array.toArray_toList]; exact he'⟩), rfl, q1 ys _ (sortedS_pw g3) (pn.nodup_iff.mpr nd) (fun k => ?_) (I3.hok.fresh (Nat.le_refl _))⟩
  · have hb : b < s3.heap.objs.size := Heap.lt_size e
    rw [PyProof.Rows.sortedHeap_old (Nat.ne_of_lt hb) (by rw [size_push']; exact Nat.lt_succ_of_lt hb)]
    exact Heap.get?_push_of_some _ e
  · rw [pn.mem_iff, ← hmem k, decide_eq_true_eq]
end
end J
namespace J
open PySem L2 PySem.Spec PyProof.Rows
/-! ### each once -/
section
variable {α : Type} [DecidableEq α]
def ddA : List α → List α
  | [] => []
  | x :: xs => if x ∈ ddA xs then ddA xs else x :: ddA xs
theorem ddA_mem {x : α} : ∀ {xs : List α}, x ∈ ddA xs ↔ x ∈ xs
  | [] => Iff.rfl
  | y :: ys => by
    unfold ddA
    split
    · rename_i h
      rw [ddA_mem (xs := ys), List.mem_cons]
      exact ⟨.inr, fun q => q.elim (fun e => by rw [e]; exact ddA_mem.mp h) id⟩
    · rw [List.mem_cons, List.mem_cons, ddA_mem (xs := ys)]
theorem ddA_nd : ∀ xs : List α, (ddA xs).Nodup
  | [] => .nil
  | y :: ys => by
    unfold ddA
    split
    · exact ddA_nd ys
    · rename_i h
      exact List.nodup_cons.mpr ⟨h, ddA_nd ys⟩
theorem ddA_len : ∀ xs : List α, (ddA xs).length ≤ xs.length
  | [] => Nat.le_refl _
  | y :: ys => by
    have := ddA_len ys
    unfold ddA
    split
    · exact Nat.le_succ_of_le this
    · rw [List.length_cons, List.length_cons]; omega
end
def srtSetS (ns : List Str) : List Str := pySort PyData.str (ddA ns)
theorem srtSetS_eq {ys ns : List Str} (hs : ys.Pairwise fun a b => ltB PyData.str b a = false) (hn : ys.Nodup) (hm : ∀ k, k ∈ ys ↔ k ∈ ns) : srtSetS ns = ys :=
  pySort_eq tri_str ((List.perm_ext_iff_of_nodup (ddA_nd ns) hn).mpr fun k => ddA_mem.trans (hm k).symm) hs
theorem srtSetS_mem {k : Str} {ns : List Str} : k ∈ srtSetS ns ↔ k ∈ ns := pySort_mem.trans ddA_mem
theorem srtSetS_nd (ns : List Str) : (srtSetS ns).Nodup := (pySort_perm _ _).nodup_iff.mpr (ddA_nd ns)
theorem srtSetS_len (ns : List Str) : (srtSetS ns).length ≤ ns.length := by unfold srtSetS; rw [pySort_len]; exact ddA_len ns
section
variable {T : TC} {a : Expr} {e0 e1 : Env'} {pos p p1 p2 : Pos} {K : PySem.W.Frag} {C : Hp}
theorem rps_strsB : ∀ {ns : List Str} {vs : List V}, Rps K C vs (ns.map PyData.str) → vs = ns.map V.str ∧ ∀ x ∈ ns, sOk x
  | [], vs, h => by cases h; exact ⟨rfl, fun x hx => by cases hx⟩
  | n :: ns, vs, h => by
    cases h with
    | cons h1 h2 =>
      obtain ⟨e, hs⟩ := rps_strsB h2
      cases h1 with
      | str ok =>
        subst e
        exact ⟨rfl, fun x hx => by
          rcases List.mem_cons.mp hx with e | hx
          · rw [e]; exact ok
          · exact hs x hx⟩
theorem je_srtSetS {ns : List Str} (hg : glB T.sc "sorted" = true) (hm : T.mg "sorted" = none) (hg2 : glB T.sc "set" = true) (hm2 : T.mg "set" = none) (ha : JE T a e0 e1 (.b (.list (ns.map PyData.str)))) (hn : ns.length < 64)
    (na : ∀ v : Env, starEach [a] v = (false, eval a v) :: starEach [] v := by intro _; rfl) : JE T (.Call (.Name "sorted" p) [.Call (.Name "set" p1) [a] [] p2] [] pos) e0 e1 (.o (.list ((srtSetS ns).map PyData.str))) := fun X hX =>
  (pe_srtSetS hX.calm (gl_of hX hg) (by rw [hX.mg]; exact hm) (gl_of hX hg2) (by rw [hX.mg]; exact hm2) (ha X hX) (na X.env)).wk fun σ H Q ⟨R, C, E, k⟩ => ⟨R, C, E, fun v C1 H1 c1 E1 r1 => by
    rw [hX.K] at *
    obtain ⟨q, vs, rfl, h1, l1, r1⟩ := rb_lst E1 r1
    obtain ⟨e, ok⟩ := rps_strsB r1
    subst e
    refine ⟨q, ns, rfl, SqL.of h1, hn, fun ys p hs hnd hmem hp => ?_⟩
    have e := srtSetS_eq hs hnd hmem
    rw [e] at k
    have hl : ys.length ≤ LN := by
      have := srtSetS_len ns
      rw [e] at this
      show _ ≤ 16777216
      omega
    obtain ⟨E', r⟩ := E1.freshO (vs := ys.map V.str) hp (by rw [List.length_map]; exact hl) (Rps.ofStrs fun x hx => ok x ((hmem x).mp hx))
    exact k _ C1 _ c1 E' r⟩
end
end J
namespace J
open PySem L2 PySem.Spec PyProof.Rows
/-! ### tuples whose objects are known, within others: forgetting deep down -/
def Fg {α : Type} (f g : α → PyData) : Prop := ∀ (K : PySem.W.Frag) (C : Hp) (v : V) (x : α), Rp K C v (f x) → Rp K C v (g x)
section
variable {α β γ δ ε ζ : Type}
theorem fg_r (f : α → PyData) : Fg f f := fun _ _ _ _ h => h
theorem fg_rps {f g : α → PyData} (F : Fg f g) {K : PySem.W.Frag} {C : Hp} : ∀ {xs : List α} {vs : List V}, Rps K C vs (xs.map f) → Rps K C vs (xs.map g)
  | [], vs, h => h
  | x :: xs, vs, h => by
    cases h with
    | cons h1 h2 => exact .cons (F _ _ _ _ h1) (fg_rps F h2)
theorem fg_t {f g : α → PyData} (F : Fg f g) : Fg (eT f) (eT g) := fun K C v x h => by
  cases h with
  | tup q l r => exact .tup q l (fg_rps F r)
theorem fg_l {f g : α → PyData} (F : Fg f g) : Fg (eL f) (eL g) := fun K C v x h => by
  cases h with
  | lst q l r => exact .lst q l (fg_rps F r)
theorem fg_tk {f g : α → PyData} (F : Fg f g) : Fg (eTK f) (eT g) := fun K C v x h => by
  obtain ⟨a, vs, o, rfl, q, po, l, r⟩ := rp_tk h
  exact .tup (.inl (.inr ⟨o, q⟩)) l (fg_rps F r)
theorem fg_p2 {f f' : α → PyData} {g g' : β → PyData} (F : Fg f f') (G : Fg g g') : Fg (eP2 f g) (eP2 f' g') := fun K C v x h => by
  cases h with
  | tup q l r =>
    cases r with
    | cons h1 r =>
      cases r with
      | cons h2 r =>
        cases r
        exact .tup q l (.cons (F _ _ _ _ h1) (.cons (G _ _ _ _ h2) .nil))
theorem fg_p3 {f f' : α → PyData} {g g' : β → PyData} {i i' : γ → PyData} (F : Fg f f') (G : Fg g g') (I : Fg i i') : Fg (eP3 f g i) (eP3 f' g' i') := fun K C v x h => by
  cases h with
  | tup q l r =>
    cases r with
    | cons h1 r =>
      cases r with
      | cons h2 r =>
        cases r with
        | cons h3 r =>
          cases r
          exact .tup q l (.cons (F _ _ _ _ h1) (.cons (G _ _ _ _ h2) (.cons (I _ _ _ _ h3) .nil)))
end
section
variable {T : TC} {a b e : Expr} {es : List Expr} {env e0 e1 : Env'} {pos p : Pos} {α : Type}
theorem je_fgD {f g : α → PyData} {x : α} (F : Fg f g) (h : JE T e e0 e1 (.d (f x))) : JE T e e0 e1 (.d (g x)) := fun X hX =>
  (h X hX).wk fun σ H Q ⟨R, C, E, k⟩ => ⟨R, C, E, fun v C1 H1 c1 E1 r1 => k v C1 H1 c1 E1 (F _ _ _ _ r1)⟩
/-- x or y, tuples whose objects are known -/
theorem je_orTK {enc : α → PyData} {xs ys : List α} (h : JE T a e0 e1 (.d (eTK enc xs))) (h' : xs.isEmpty = true → JE T b e1 e1 (.d (eTK enc ys))) : JE T (.BoolOp .Or [a, b] pos) e0 e1 (.d (eTK enc (if xs.isEmpty = true then ys else xs))) := fun X hX => by
  have tr : ∀ {K : PySem.W.Frag} {C : Hp} {v : V}, Rp K C v (eTK enc xs) → Rp K C v (.tuple (xs.map enc)) := fun r => fg_tk (fg_r enc) _ _ _ _ r
  cases c : xs.isEmpty with
  | true =>
    refine (pe_orT (h X hX) (pe_one (h' c X hX))).wk fun σ H Q ⟨R, C, E, k⟩ => ⟨R, C, E, fun v C1 H1 c1 E1 r1 => ⟨false, ?_, ?_⟩⟩
    · have z := tru_rp ((tr r1).mono E1.cH) rfl
      have e : truD (.tuple (xs.map enc)) = false := by
        show (!(xs.map enc).isEmpty) = false
        rw [List.isEmpty_map, c]; rfl
      rw [e] at z; exact z
    · rw [if_neg Bool.false_ne_true]
      exact ⟨R, C1, E1, fun w C2 H2 c2 E2 r2 => k w C2 H2 (c1.trans c2) E2 r2⟩
  | false =>
    refine (pe_orT (h X hX) pe_dead).wk fun σ H Q ⟨R, C, E, k⟩ => ⟨R, C, E, fun v C1 H1 c1 E1 r1 => ⟨true, ?_, ?_⟩⟩
    · have z := tru_rp ((tr r1).mono E1.cH) rfl
      have e : truD (.tuple (xs.map enc)) = true := by
        show (!(xs.map enc).isEmpty) = true
        rw [List.isEmpty_map, c]; rfl
      rw [e] at z; exact z
    · rw [if_pos rfl]
      exact k v C1 H1 c1 E1 r1
end
end J
namespace J
open PySem L2 PySem.Spec PyProof.Rows PySem.W
/-! ### min, max of a list with a default -/
def rBD (best : PyData → List PyData → PyData) (K : PySem.W.Frag) (d : V) : List V → Hp → VK → Prop := fun vs H Q => ∃ (a : Addr) (ys : List V) (xs : List PyData), vs = [.ref a] ∧ SqL K H a ys ∧ DpAll K H ys xs ∧ AlikeAll xs ∧ PyData.depthAll xs ≤ 64 ∧ (xs = [] → Q d H) ∧
  ∀ (y : PyData) (t : List PyData), xs = y :: t → ∀ (i : Nat) w, ys[i]? = some w → xs[i]? = some (best y t) → Q w H
section
variable {X : Cx} {e b : Expr} {te td : TE} {p kp pos : Pos}
theorem pe_maxLD (hc : X.calm = true) (hu : X.A.units + 200 < cLine) (he : PE X e te) (hd : PE X b td) (hg : Gl X "max") (hm : X.mg "max" = none) (hv : bootBuiltins "max" = some (.builtin "max")) (hs : starEach [e] X.env = (false, eval e X.env) :: starEach [] X.env) :
    PE X (.Call (.Name "max" p) [e] [⟨some ("default" : Str), b, kp⟩] pos) (fun σ H Q => te σ H fun x H1 => td σ H1 fun d H2 => rBD maxD X.K d [x] H2 Q) := by
  refine ⟨fun pins s σ H Q I hq => ?_⟩
  refine wpAny_Call_Name_kw (ld_blt I hg hm hv ?_ (by decide) (by decide))
  refine PyProof.Rows.callWith_kw (e := e) (rest := []) (kws := [⟨some ("default" : Str), b, kp⟩]) ?_ (by rw [hs]; rfl) (by rw [hs]; rfl)
  rw [hs]
  show wpAny _ _ (spliced ((false, eval e X.env) :: backTo pos (starEach [] X.env))) _ _ s
  refine Calls.spliced_cons (thn (he.run pins s σ H _ I hq) fun u s1 ⟨x, H1, I1, rx, q⟩ => ?_)
  refine Calls.spliced_nil ?_
  refine PyProof.Rows.kws_cons (thn (hd.run pins s1 σ H1 _ I1 q) fun u2 s2 ⟨d, H2, I2, rd, q2⟩ => ?_)
  refine PyProof.Rows.kws_nil ?_
  show wpAny _ _ (call (.builtin "max") [u] [(Str.ofString "default", u2)]) _ _ s2
  obtain ⟨a, ys, xs, ex, hl, hdp, al, dp, q0, q1⟩ := q2
  cases ex
  obtain rfl : u = Value.ref a := rx
  obtain ⟨its, r, pl, hz⟩ := I2.list hl
  obtain ⟨as, ra⟩ := Dp.readsAll I2 xs ys its hdp r
  refine max_list_default (I2.ok.hd hc) pl.isList (by simpa using ra) al (by omega) (fun e0 h' tk hk => ⟨_, H2, I2.kept (t' := tk) hk, rd, q0 e0⟩) fun y ds i v h' tk bs e1 hv' hr hk => ?_
  subst e1
  have hv' : its[i]? = some v := by simpa using hv'
  have hi := at_best maxD_mem al (ReadsAll.keeps hk ra) hv' hr
  have hln : i < ys.length := by rw [r.length]; exact (List.getElem?_eq_some_iff.mp hv').1
  obtain ⟨u', hu', ru⟩ := r.get (List.getElem?_eq_getElem hln)
  rw [hv'] at hu'; cases hu'
  exact ⟨_, H2, I2.kept (t' := tk) hk, ru, q1 y ds rfl i _ (List.getElem?_eq_getElem hln) hi⟩
theorem pe_minLD (hc : X.calm = true) (hu : X.A.units + 200 < cLine) (he : PE X e te) (hd : PE X b td) (hg : Gl X "min") (hm : X.mg "min" = none) (hv : bootBuiltins "min" = some (.builtin "min")) (hs : starEach [e] X.env = (false, eval e X.env) :: starEach [] X.env) :
    PE X (.Call (.Name "min" p) [e] [⟨some ("default" : Str), b, kp⟩] pos) (fun σ H Q => te σ H fun x H1 => td σ H1 fun d H2 => rBD minD X.K d [x] H2 Q) := by
  refine ⟨fun pins s σ H Q I hq => ?_⟩
  refine wpAny_Call_Name_kw (ld_blt I hg hm hv ?_ (by decide) (by decide))
  refine PyProof.Rows.callWith_kw (e := e) (rest := []) (kws := [⟨some ("default" : Str), b, kp⟩]) ?_ (by rw [hs]; rfl) (by rw [hs]; rfl)
  rw [hs]
  show wpAny _ _ (spliced ((false, eval e X.env) :: backTo pos (starEach [] X.env))) _ _ s
  refine Calls.spliced_cons (thn (he.run pins s σ H _ I hq) fun u s1 ⟨x, H1, I1, rx, q⟩ => ?_)
  refine Calls.spliced_nil ?_
  refine PyProof.Rows.kws_cons (thn (hd.run pins s1 σ H1 _ I1 q) fun u2 s2 ⟨d, H2, I2, rd, q2⟩ => ?_)
  refine PyProof.Rows.kws_nil ?_
  show wpAny _ _ (call (.builtin "min") [u] [(Str.ofString "default", u2)]) _ _ s2
  obtain ⟨a, ys, xs, ex, hl, hdp, al, dp, q0, q1⟩ := q2
  cases ex
  obtain rfl : u = Value.ref a := rx
  obtain ⟨its, r, pl, hz⟩ := I2.list hl
  obtain ⟨as, ra⟩ := Dp.readsAll I2 xs ys its hdp r
  refine min_list_default (I2.ok.hd hc) pl.isList (by simpa using ra) al (by omega) (fun e0 h' tk hk => ⟨_, H2, I2.kept (t' := tk) hk, rd, q0 e0⟩) fun y ds i v h' tk bs e1 hv' hr hk => ?_
  subst e1
  have hv' : its[i]? = some v := by simpa using hv'
  have hi := at_best minD_mem al (ReadsAll.keeps hk ra) hv' hr
  have hln : i < ys.length := by rw [r.length]; exact (List.getElem?_eq_some_iff.mp hv').1
  obtain ⟨u', hu', ru⟩ := r.get (List.getElem?_eq_getElem hln)
  rw [hv'] at hu'; cases hu'
  exact ⟨_, H2, I2.kept (t' := tk) hk, ru, q1 y ds rfl i _ (List.getElem?_eq_getElem hln) hi⟩
end
section
variable {T : TC} {e b : Expr} {e0 e1 e2 : Env'} {pos p kp : Pos} {α : Type} [Inhabited α] {enc : α → PyData} {xs : List α}
def pyMaxD {α : Type} [Inhabited α] (enc : α → PyData) (xs : List α) (d : α) : α := if xs.isEmpty = true then d else pyMax enc xs
def pyMinD {α : Type} [Inhabited α] (enc : α → PyData) (xs : List α) (d : α) : α := if xs.isEmpty = true then d else pyMin enc xs
theorem pyMaxD_nil {d : α} (h : xs = []) : pyMaxD enc xs d = d := by subst h; rfl
theorem pyMinD_nil {d : α} (h : xs = []) : pyMinD enc xs d = d := by subst h; rfl
theorem pyMaxD_cons {d : α} {y : PyData} {t : List PyData} (h : xs.map enc = y :: t) : enc (pyMaxD enc xs d) = maxD y t := by
  cases xs with
  | nil => cases h
  | cons x xs =>
    rw [List.map_cons] at h
    obtain ⟨rfl, rfl⟩ := List.cons.inj h
    show enc (pyMax enc (x :: xs)) = _
    exact pyMax_enc enc x xs
theorem pyMinD_cons {d : α} {y : PyData} {t : List PyData} (h : xs.map enc = y :: t) : enc (pyMinD enc xs d) = minD y t := by
  cases xs with
  | nil => cases h
  | cons x xs =>
    rw [List.map_cons] at h
    obtain ⟨rfl, rfl⟩ := List.cons.inj h
    show enc (pyMin enc (x :: xs)) = _
    exact pyMin_enc enc x xs
theorem je_maxLD {d : α} (hg : glB T.sc "max" = true) (hm : T.mg "max" = none) (ha : JE T e e0 e1 (.d (.list (xs.map enc)))) (hd : JE T b e1 e2 (.d (enc d))) (al : AlkE enc) (sh : shN 64 (.list (xs.map enc)) = true := by simp [shN]) (hp : Plain e [] pos := by exact ⟨fun _ => rfl, fun _ => rfl⟩) :
    JE T (.Call (.Name "max" p) [e] [⟨some ("default" : Str), b, kp⟩] pos) e0 e2 (.d (enc (pyMaxD enc xs d))) := fun X hX =>
  (pe_maxLD hX.calm (room_units hX) (ha X hX) (hd X hX) (gl_of hX hg) (by rw [hX.mg]; exact hm) (by decide +kernel) (hp.he X.env)).wk fun σ H Q ⟨R, C, E, k⟩ => ⟨R, C, E, fun v C1 H1 c1 E1 r1 => by
    refine ⟨R, C1, E1, fun w C2 H2 c2 E2 r3 => ?_⟩
    rw [hX.K] at *
    have r1' : Rp T.K C2 v (.list (xs.map enc)) := Rp.mono c2 r1
    obtain ⟨q, vs, rfl, h1, l1, r2⟩ := rb_lst E2 (.inl r1')
    obtain ⟨q1, q2⟩ := shN_all (n := 63) sh
    refine ⟨q, vs, xs.map enc, rfl, SqL.of h1, (r2.mono E2.cH).dps q1, al.all xs, by omega, fun e0 => ?_, fun y t e1 i w' hw hi => ?_⟩
    · rw [pyMaxD_nil (List.map_eq_nil_iff.mp e0)] at k
      exact k w C2 H2 (c1.trans c2) E2 r3
    · rw [pyMaxD_cons e1] at k
      obtain ⟨d', hd, rd⟩ := r2.get hw
      rw [hi] at hd; cases hd
      exact k w' C2 H2 (c1.trans c2) E2 rd⟩
theorem je_minLD {d : α} (hg : glB T.sc "min" = true) (hm : T.mg "min" = none) (ha : JE T e e0 e1 (.d (.list (xs.map enc)))) (hd : JE T b e1 e2 (.d (enc d))) (al : AlkE enc) (sh : shN 64 (.list (xs.map enc)) = true := by simp [shN]) (hp : Plain e [] pos := by exact ⟨fun _ => rfl, fun _ => rfl⟩) :
    JE T (.Call (.Name "min" p) [e] [⟨some ("default" : Str), b, kp⟩] pos) e0 e2 (.d (enc (pyMinD enc xs d))) := fun X hX =>
  (pe_minLD hX.calm (room_units hX) (ha X hX) (hd X hX) (gl_of hX hg) (by rw [hX.mg]; exact hm) (by decide +kernel) (hp.he X.env)).wk fun σ H Q ⟨R, C, E, k⟩ => ⟨R, C, E, fun v C1 H1 c1 E1 r1 => by
    refine ⟨R, C1, E1, fun w C2 H2 c2 E2 r3 => ?_⟩
    rw [hX.K] at *
    have r1' : Rp T.K C2 v (.list (xs.map enc)) := Rp.mono c2 r1
    obtain ⟨q, vs, rfl, h1, l1, r2⟩ := rb_lst E2 (.inl r1')
    obtain ⟨q1, q2⟩ := shN_all (n := 63) sh
    refine ⟨q, vs, xs.map enc, rfl, SqL.of h1, (r2.mono E2.cH).dps q1, al.all xs, by omega, fun e0 => ?_, fun y t e1 i w' hw hi => ?_⟩
    · rw [pyMinD_nil (List.map_eq_nil_iff.mp e0)] at k
      exact k w C2 H2 (c1.trans c2) E2 r3
    · rw [pyMinD_cons e1] at k
      obtain ⟨d', hd, rd⟩ := r2.get hw
      rw [hi] at hd; cases hd
      exact k w' C2 H2 (c1.trans c2) E2 rd⟩
end
end J
namespace J
open PySem L2 PySem.Spec PyProof.Rows
/-! ### zip of two iterators of any kind -/
/-- what the two iterators rest on stands apart from the zip's own objects -/
structure ZA (z TI TO i1 i2 : Addr) (f1 f2 : List Addr) : Prop where
  tz : TI ≠ z
  oz : TO ≠ z
  to : TI ≠ TO
  t1 : TI ≠ i1
  t2 : TI ≠ i2
  o1 : TO ≠ i1
  o2 : TO ≠ i2
  z1 : i1 ≠ z
  z2 : i2 ≠ z
  zf1 : z ∉ f1
  zf2 : z ∉ f2
  of1 : TO ∉ f1
  of2 : TO ∉ f2
  xf1 : i2 ∉ f1
  xf2 : i1 ∉ f2
section
variable {prog : Program} {w : World} {A : Around} {E : Value → Shared → Prop} {s : Shared} {z TI TO i1 i2 : Addr} {f1 f2 : List Addr} {n1 n2 k : Nat} {P1 P2 : Nat → Value → Prop} {S1 S2 : Nat → Heap → Prop} {a b : Value}
theorem Draws.off {it : Addr} {fp : List Addr} {n i : Nat} {P : Nat → Value → Prop} {St : Nat → Heap → Prop} (D : Draws prog w A it fp n P St) {x : Addr} {h h' : Heap} (hx : x ∉ fp) (sb : Heap.SameBut x h h') (st : St i h) : St i h' :=
  D.frame i h h' st fun b hb o e => sb.extBut _ _ (fun q => hx (q ▸ hb)) e
theorem zipG_item {Q : Value → Shared → Prop} (D1 : Draws prog w A i1 f1 n1 P1 S1) (D2 : Draws prog w A i2 f2 n2 P2 S2) (D : ZA z TI TO i1 i2 f1 f2)
    (hz : IsZip s.heap z TI TO .none) (hTI : IsPair s.heap TI (.ref i1) (.ref i2)) (hTO : IsPair s.heap TO a b) (s1 : S1 k s.heap) (s2 : S2 k s.heap) (h1 : k < n1) (h2 : k < n2)
    (hQ : ∀ x y h' tk, P1 k x → P2 k y → IsZip h' z TI TO (rawInt s.heap.objs.size) → IsPair h' TO x y → S1 (k + 1) h' → S2 (k + 1) h' → IsPair h' s.heap.objs.size x y → h'.objs.size = s.heap.objs.size + 1 →
      (∀ c o, c ≠ z → c ≠ TO → c ≠ i1 → c ≠ i2 → s.heap.get? c = some o → h'.get? c = some o) → Q (.ref s.heap.objs.size) { s with heap := h', toks := tk }) :
    wpAny (model prog w) A (Builtin.«zip.__next__» ⟨[.ref z], []⟩) (fun fin s' => ∃ v, fin = .done (.ret v) ∧ Q v s') E s := by
  show wpAny _ _ (field (.ref z) 2 >>= _) _ _ _
  refine wpAny_bind (wpAny_field hz rfl (x := .bool false) rfl ?_)
  show wpAny _ _ (field (.ref z) 3 >>= _) _ _ _
  refine wpAny_bind (wpAny_field hz rfl (x := .ref TI) rfl ?_)
  refine wpAny_bind (wpAny_seqItems hTI rfl ?_)
  show wpAny _ _ (Builtin.SmallTypes.ownedTupleIsFree (.ref z) >>= _) _ _ _
  refine wpAny_bind ?_
  unfold Builtin.SmallTypes.ownedTupleIsFree
  refine wpAny_bind (wpAny_field hz rfl (x := .none) rfl (wpAny_pure ?_))
  simp only [if_true]
  refine wpAny_bind (wpAny_rule ?_)
  refine wpAny_bind (wpAny_field hz rfl (x := .ref TO) rfl ?_)
  refine wpAny_bind (wpAny_setField_rec hz (by simp) fun g1 hz1 hs1 => ?_)
  replace hz1 : IsZip g1 z TI TO .ellipsis := hz1
  refine wpAny_bind ?_
  simp only [List.zipIdx_cons, List.zipIdx_nil, List.forIn_cons, List.forIn_nil]
  refine wpAny_bind (wpAny_bind (wpAny_onRaise ?_))
  show wpAny _ _ (Builtin.SmallTypes.nextOf (.ref i1) >>= _) _ _ _
  refine wpAny_bind (D1.item k { s with heap := g1 } _ _ h1 (Draws.off D1 D.zf1 hs1 s1) fun x g2 tk1 p1 st1 hs2 => wpAny_pure ?_)
  have hTO2 : IsPair g2 TO a b := hs2.extBut _ _ D.o1 (hs1.extBut _ _ D.oz hTO)
  refine wpAny_bind (wpAny_seqItems hTO2 rfl ?_)
  refine wpAny_bind (wpAny_updateSeq_pair hTO2 fun g3 hTO3 hs3 => ?_)
  replace hTO3 : IsPair g3 TO x b := hTO3
  refine wpAny_bind (wpAny_letGo (wpAny_pure ?_))
  refine wpAny_bind (wpAny_bind (wpAny_onRaise ?_))
  show wpAny _ _ (Builtin.SmallTypes.nextOf (.ref i2) >>= _) _ _ _
  refine wpAny_bind (D2.item k { s with heap := g3, toks := tk1 } _ _ h2 (Draws.off D2 D.of2 hs3 (Draws.off D2 D.xf2 hs2 (Draws.off D2 D.zf2 hs1 s2))) fun y g4 tk2 p2 st2 hs4 => wpAny_pure ?_)
  have hTO4 : IsPair g4 TO x b := hs4.extBut _ _ D.o2 hTO3
  refine wpAny_bind (wpAny_seqItems hTO4 rfl ?_)
  refine wpAny_bind (wpAny_updateSeq_pair hTO4 fun g5 hTO5 hs5 => ?_)
  replace hTO5 : IsPair g5 TO x y := hTO5
  refine wpAny_bind (wpAny_letGo (wpAny_pure (wpAny_pure ?_)))
  refine wpAny_bind (wpAny_seqItems hTO5 rfl ?_)
  refine wpAny_bind (wpAny_newTuple ?_)
  have hsz : g5.objs.size = s.heap.objs.size := by rw [hs5.1, hs4.1, hs3.1, hs2.1, hs1.1]
  have hz5 : IsZip g5 z TI TO .ellipsis := hs5.extBut _ _ D.oz.symm (hs4.extBut _ _ D.z2.symm (hs3.extBut _ _ D.oz.symm (hs2.extBut _ _ D.z1.symm hz1)))
  have hk5 : ∀ c o, c ≠ z → c ≠ TO → c ≠ i1 → c ≠ i2 → s.heap.get? c = some o → g5.get? c = some o := fun c o c1 c2 c3 c4 e =>
    hs5.extBut _ _ c2 (hs4.extBut _ _ c4 (hs3.extBut _ _ c2 (hs2.extBut _ _ c3 (hs1.extBut _ _ c1 e))))
  have st1' : S1 (k + 1) g5 := Draws.off D1 D.of1 hs5 (Draws.off D1 D.xf1 hs4 (Draws.off D1 D.of1 hs3 st1))
  have st2' : S2 (k + 1) g5 := Draws.off D2 D.of2 hs5 st2
  have hzlt : z < g5.objs.size := Heap.lt_size hz5
  show wpAny _ _ (Builtin.SmallTypes.ownedTupleHandOut (.ref z) (.ref g5.objs.size) >>= _) _ _ _
  refine wpAny_bind ?_
  unfold Builtin.SmallTypes.ownedTupleHandOut
  have hz6 : IsZip (g5.push { cls := .type "tuple", data := .seq #[x, y] }) z TI TO .ellipsis := Heap.get?_push_of_some _ hz5
  refine wpAny_bind (wpAny_setField_rec hz6 (by simp) fun g7 hz7 hs7 => ?_)
  replace hz7 : IsZip g7 z TI TO (rawInt g5.objs.size) := hz7
  refine wpAny_setField_rec hz7 (by simp) fun g8 hz8 hs8 => ?_
  replace hz8 : IsZip g8 z TI TO (rawInt g5.objs.size) := hz8
  have up : ∀ c o, c ≠ z → g5.get? c = some o → g8.get? c = some o := fun c o c1 e => hs8.extBut _ _ c1 (hs7.extBut _ _ c1 (Heap.get?_push_of_some _ e))
  have hT8 : IsPair g8 g5.objs.size x y := hs8.extBut _ _ (Nat.ne_of_gt hzlt) (hs7.extBut _ _ (Nat.ne_of_gt hzlt) (Heap.get?_push_size _ rfl))
  have hq8 : g8.objs.size = g5.objs.size + 1 := by rw [hs8.1, hs7.1, Heap.size_push]
  have st1'' : S1 (k + 1) g8 := D1.frame _ _ _ st1' fun b hb o e => up b o (fun q => D.zf1 (q ▸ hb)) e
  have st2'' : S2 (k + 1) g8 := D2.frame _ _ _ st2' fun b hb o e => up b o (fun q => D.zf2 (q ▸ hb)) e
  rw [hsz] at hz8 hT8 hq8
  refine wpAny_pure ⟨_, rfl, ?_⟩
  show Q (.ref g5.objs.size) _
  rw [hsz]
  exact hQ x y g8 tk2 p1 p2 hz8 (up _ _ D.oz hTO5) st1'' st2'' hT8 hq8 fun c o c1 c2 c3 c4 e => up c o c1 (hk5 c o c1 c2 c3 c4 e)
theorem zipG_end {Q : Fin → Shared → Prop} (D1 : Draws prog w A i1 f1 n1 P1 S1) (D2 : Draws prog w A i2 f2 n2 P2 S2) (D : ZA z TI TO i1 i2 f1 f2)
    (hz : IsZip s.heap z TI TO .none) (hTI : IsPair s.heap TI (.ref i1) (.ref i2)) (hTO : IsPair s.heap TO a b) (s1 : S1 k s.heap) (s2 : S2 k s.heap) (hend : k = n1 ∨ (k < n1 ∧ k = n2))
    (hE : ∀ h' e tk, (∀ c o, c ≠ z → c ≠ TO → c ≠ i1 → c ≠ i2 → s.heap.get? c = some o → h'.get? c = some o) → (∃ o, h'.get? e = some o ∧ o.cls = .type "StopIteration") → E (.ref e) { s with heap := h', toks := tk }) :
    wpAny (model prog w) A (Builtin.«zip.__next__» ⟨[.ref z], []⟩) Q E s := by
  show wpAny _ _ (field (.ref z) 2 >>= _) _ _ _
  refine wpAny_bind (wpAny_field hz rfl (x := .bool false) rfl ?_)
  show wpAny _ _ (field (.ref z) 3 >>= _) _ _ _
  refine wpAny_bind (wpAny_field hz rfl (x := .ref TI) rfl ?_)
  refine wpAny_bind (wpAny_seqItems hTI rfl ?_)
  show wpAny _ _ (Builtin.SmallTypes.ownedTupleIsFree (.ref z) >>= _) _ _ _
  refine wpAny_bind ?_
  unfold Builtin.SmallTypes.ownedTupleIsFree
  refine wpAny_bind (wpAny_field hz rfl (x := .none) rfl (wpAny_pure ?_))
  simp only [if_true]
  refine wpAny_bind (wpAny_rule ?_)
  refine wpAny_bind (wpAny_field hz rfl (x := .ref TO) rfl ?_)
  refine wpAny_bind (wpAny_setField_rec hz (by simp) fun g1 hz1 hs1 => ?_)
  replace hz1 : IsZip g1 z TI TO .ellipsis := hz1
  refine wpAny_bind ?_
  simp only [List.zipIdx_cons, List.zipIdx_nil, List.forIn_cons, List.forIn_nil]
  refine wpAny_bind (wpAny_bind (wpAny_onRaise ?_))
  show wpAny _ _ (Builtin.SmallTypes.nextOf (.ref i1) >>= _) _ _ _
  have st1 := Draws.off D1 D.zf1 hs1 s1
  have fin : ∀ (g : Heap) (e : Addr) (tk : Nat), IsZip g z TI TO .ellipsis → (∃ o, g.get? e = some o ∧ o.cls = .type "StopIteration") → (∀ c o, c ≠ z → c ≠ TO → c ≠ i1 → c ≠ i2 → s.heap.get? c = some o → g.get? c = some o) →
      wpAny (model prog w) A (setField (.ref z) 0 .none) (fun _ s' => E (.ref e) s') E { s with heap := g, toks := tk } := fun g e tk hg he hk => by
    obtain ⟨oe, hoe, hce⟩ := he
    have hez : e ≠ z := fun x => by subst x; rw [hg] at hoe; cases hoe; simp at hce
    exact wpAny_setField_rec (s := { s with heap := g, toks := tk }) hg (by simp) fun g3 _ hs3 => hE g3 e tk (fun c o c1 c2 c3 c4 x => hs3.extBut _ _ c1 (hk c o c1 c2 c3 c4 x)) ⟨oe, hs3.extBut _ _ hez hoe, hce⟩
  rcases hend with rfl | ⟨hlt, rfl⟩
  · refine wpAny_bind (D1.done { s with heap := g1 } _ _ st1 fun g2 e hs2 he => ?_)
    exact fin g2 e s.toks (hs2 _ _ D.z1.symm hz1) he fun c o c1 _ c3 _ x => hs2 _ _ c3 (hs1.extBut _ _ c1 x)
  · refine wpAny_bind (D1.item k { s with heap := g1 } _ _ hlt st1 fun x g2 tk1 p1 st1 hs2 => wpAny_pure ?_)
    have hTO2 : IsPair g2 TO a b := hs2.extBut _ _ D.o1 (hs1.extBut _ _ D.oz hTO)
    refine wpAny_bind (wpAny_seqItems hTO2 rfl ?_)
    refine wpAny_bind (wpAny_updateSeq_pair hTO2 fun g3 hTO3 hs3 => ?_)
    refine wpAny_bind (wpAny_letGo (wpAny_pure ?_))
    refine wpAny_bind (wpAny_bind (wpAny_onRaise ?_))
    show wpAny _ _ (Builtin.SmallTypes.nextOf (.ref i2) >>= _) _ _ _
    refine wpAny_bind (D2.done { s with heap := g3, toks := tk1 } _ _ (Draws.off D2 D.of2 hs3 (Draws.off D2 D.xf2 hs2 (Draws.off D2 D.zf2 hs1 s2))) fun g4 e hs4 he => ?_)
    exact fin g4 e tk1 (hs4 _ _ D.z2.symm (hs3.extBut _ _ D.oz.symm (hs2.extBut _ _ D.z1.symm hz1))) he fun c o c1 c2 c3 c4 x => hs4 _ _ c4 (hs3.extBut _ _ c2 (hs2.extBut _ _ c3 (hs1.extBut _ _ c1 x)))
theorem pyNext_zipG_item {Q : Option Value → Shared → Prop} (D1 : Draws prog w A.in1 i1 f1 n1 P1 S1) (D2 : Draws prog w A.in1 i2 f2 n2 P2 S2) (D : ZA z TI TO i1 i2 f1 f2)
    (hz : IsZip s.heap z TI TO .none) (hTI : IsPair s.heap TI (.ref i1) (.ref i2)) (hTO : IsPair s.heap TO a b) (s1 : S1 k s.heap) (s2 : S2 k s.heap) (h1 : k < n1) (h2 : k < n2)
    (hQ : ∀ x y h' tk, P1 k x → P2 k y → IsZip h' z TI TO (rawInt s.heap.objs.size) → IsPair h' TO x y → S1 (k + 1) h' → S2 (k + 1) h' → IsPair h' s.heap.objs.size x y → h'.objs.size = s.heap.objs.size + 1 →
      (∀ c o, c ≠ z → c ≠ TO → c ≠ i1 → c ≠ i2 → s.heap.get? c = some o → h'.get? c = some o) → Q (some (.ref s.heap.objs.size)) { s with heap := h', toks := tk }) :
    wpAny (model prog w) A (pyNext (.ref z)) Q E s := by
  have hT : s.TypeIs (.ref z) "zip" := ⟨_, hz, rfl⟩
  unfold pyNext
  exact wpAny_bind (wpAny_attempt (wpAny_callSpecial?_slot (name := Str.ofString "__next__") hT F.slot_zip_next
    (wpAny_call_entry F.slot_zip_next hT F.entry_zip_next
      (zipG_item D1 D2 D hz hTI hTO s1 s2 h1 h2 fun x y h' tk a0 a0' a1 a2 a3 a4 a5 a6 a7 => wpAny_pure (hQ x y h' tk a0 a0' a1 a2 a3 a4 a5 a6 a7)) (F.args_zip_next_1 _))))
theorem pyNext_zipG_end {Q : Option Value → Shared → Prop} (D1 : Draws prog w A.in1 i1 f1 n1 P1 S1) (D2 : Draws prog w A.in1 i2 f2 n2 P2 S2) (D : ZA z TI TO i1 i2 f1 f2)
    (hz : IsZip s.heap z TI TO .none) (hTI : IsPair s.heap TI (.ref i1) (.ref i2)) (hTO : IsPair s.heap TO a b) (s1 : S1 k s.heap) (s2 : S2 k s.heap) (hend : k = n1 ∨ (k < n1 ∧ k = n2))
    (hQ : ∀ h' tk, (∀ c o, c ≠ z → c ≠ TO → c ≠ i1 → c ≠ i2 → s.heap.get? c = some o → h'.get? c = some o) → Q none { s with heap := h', toks := tk }) : wpAny (model prog w) A (pyNext (.ref z)) Q E s := by
  have hT : s.TypeIs (.ref z) "zip" := ⟨_, hz, rfl⟩
  unfold pyNext
  refine wpAny_bind (wpAny_attempt (wpAny_callSpecial?_slot (name := Str.ofString "__next__") hT F.slot_zip_next
    (wpAny_call_entry F.slot_zip_next hT F.entry_zip_next (zipG_end D1 D2 D hz hTI hTO s1 s2 hend fun h' e tk hk he => ?_) (F.args_zip_next_1 _))))
  obtain ⟨o, ho, hc⟩ := he
  refine wpAny_bind (wpAny_isInstance (T := "StopIteration") (b := true) ⟨o, ho, hc⟩ isSubtype_stop ?_)
  exact wpAny_pure (hQ _ _ hk)
end
end J
namespace J
open PySem L2 PySem.Spec PyProof.Rows
theorem za_of {z TI TO i1 i2 a b : Addr} (D : ZipApart z TI TO i1 i2 a b) : ZA z TI TO i1 i2 [i1, a] [i2, b] where
  tz := D.TIz
  oz := D.TOz
  to := D.TITO
  t1 := D.TIi1
  t2 := D.TIi2
  o1 := D.TOi1
  o2 := D.TOi2
  z1 := D.i1z
  z2 := D.i2z
  zf1 := by simp only [List.mem_cons, List.not_mem_nil, or_false, not_or]; exact ⟨D.i1z.symm, D.l1z.symm⟩
  zf2 := by simp only [List.mem_cons, List.not_mem_nil, or_false, not_or]; exact ⟨D.i2z.symm, D.l2z.symm⟩
  of1 := by simp only [List.mem_cons, List.not_mem_nil, or_false, not_or]; exact ⟨D.TOi1, D.l1TO.symm⟩
  of2 := by simp only [List.mem_cons, List.not_mem_nil, or_false, not_or]; exact ⟨D.TOi2, D.l2TO.symm⟩
  xf1 := by simp only [List.mem_cons, List.not_mem_nil, or_false, not_or]; exact ⟨D.i12.symm, D.l1i2.symm⟩
  xf2 := by simp only [List.mem_cons, List.not_mem_nil, or_false, not_or]; exact ⟨D.i12, D.l2i1.symm⟩
/-- the objects that a zip lays, the iterators of any class -/
abbrev zgI (c : String) (h : Heap) (l : Addr) : Heap := h.push { cls := .type c, data := .fields #[.ref l, .int 0 0] }
abbrev zg2 (c c' : String) (h : Heap) (l l' : Addr) : Heap := zgI c' (zgI c h l) l'
abbrev zg3 (c c' : String) (h : Heap) (l l' : Addr) : Heap := (zg2 c c' h l l').push { cls := .type "tuple", data := .seq #[.ref h.objs.size, .ref (zgI c h l).objs.size] }
abbrev zg4 (c c' : String) (h : Heap) (l l' : Addr) : Heap := (zg3 c c' h l l').push { cls := .type "tuple", data := .seq #[.none, .none] }
abbrev zg5 (c c' : String) (h : Heap) (l l' : Addr) : Heap := (zg4 c c' h l l').push { cls := .type "zip", data := .fields #[.none, .bool false, .bool false, .ref (zg2 c c' h l l').objs.size, .ref (zg3 c c' h l l').objs.size] }
theorem zg_facts (c c' : String) (h : Heap) (l l' : Addr) : (zg4 c c' h l l').objs.size = h.objs.size + 4 ∧ IsZip (zg5 c c' h l l') (h.objs.size + 4) (h.objs.size + 2) (h.objs.size + 3) .none ∧ IsPair (zg5 c c' h l l') (h.objs.size + 2) (.ref h.objs.size) (.ref (h.objs.size + 1)) ∧ IsPair (zg5 c c' h l l') (h.objs.size + 3) .none .none ∧
    (zg5 c c' h l l').get? h.objs.size = some { cls := .type c, data := .fields #[.ref l, .int 0 0] } ∧ (zg5 c c' h l l').get? (h.objs.size + 1) = some { cls := .type c', data := .fields #[.ref l', .int 0 0] } ∧ ∀ x o, h.get? x = some o → (zg5 c c' h l l').get? x = some o := by
  have z1 : (zgI c h l).objs.size = h.objs.size + 1 := Heap.size_push ..
  have z2 : (zg2 c c' h l l').objs.size = h.objs.size + 2 := by rw [Heap.size_push, z1]
  have z3 : (zg3 c c' h l l').objs.size = h.objs.size + 3 := by rw [Heap.size_push, z2]
  have z4 : (zg4 c c' h l l').objs.size = h.objs.size + 4 := by rw [Heap.size_push, z3]
  have g5 : (zg5 c c' h l l').get? (zg4 c c' h l l').objs.size = some _ := Heap.get?_push_size _ rfl
  have g4 : (zg5 c c' h l l').get? (zg3 c c' h l l').objs.size = some _ := Heap.get?_push_of_some _ (Heap.get?_push_size _ rfl)
  have g3 : (zg5 c c' h l l').get? (zg2 c c' h l l').objs.size = some _ := Heap.get?_push_of_some _ (Heap.get?_push_of_some _ (Heap.get?_push_size _ rfl))
  have g2 : (zg5 c c' h l l').get? (zgI c h l).objs.size = some _ := Heap.get?_push_of_some _ (Heap.get?_push_of_some _ (Heap.get?_push_of_some _ (Heap.get?_push_size _ rfl)))
  have g1 : (zg5 c c' h l l').get? h.objs.size = some _ := Heap.get?_push_of_some _ (Heap.get?_push_of_some _ (Heap.get?_push_of_some _ (Heap.get?_push_of_some _ (Heap.get?_push_size _ rfl))))
  rw [z2, z3, z4] at g5
  rw [z1, z2] at g3
  rw [z3] at g4
  rw [z1] at g2
  exact ⟨z4, g5, g3, g4, g1, g2, fun x o e => Heap.get?_push_of_some _ (Heap.get?_push_of_some _ (Heap.get?_push_of_some _ (Heap.get?_push_of_some _ (Heap.get?_push_of_some _ e))))⟩

/-! ### LT -/
theorem meets_zipLT (l1 l2 : Addr) (xs ys : Array Value) :
    Meets (Builtin.«zip.__new__» ⟨[.type "zip", .ref l1, .ref l2], []⟩) (fun _ R s => s.heap.IsList l1 xs ∧ s.heap.IsTuple l2 ys ∧
      R (.ok (.ret (.ref (zg4 "list_iterator" "tuple_iterator" s.heap l1 l2).objs.size))) { s with heap := zg5 "list_iterator" "tuple_iterator" s.heap l1 l2 }) :=
  .of_wp fun prog w A R s h => by
    obtain ⟨hp, g, d, tk, os⟩ := s
    obtain ⟨hl1, hl2, h⟩ := h
    have hsub := sub_zip
    have hL1 : Heap.IsList (Shared.heap ⟨hp, g, d, tk, os⟩) l1 xs := hl1
    have hL2 : Heap.IsTuple (Shared.heap ⟨hp.push { cls := .type "list_iterator", data := .fields #[.ref l1, .int 0 0] }, g, d, tk, os⟩) l2 ys := Heap.IsTuple.push hl2 _
    wp_walk using wpAny_pyIter_list hL1, wpAny_pyIter_tuple hL2
    exact ⟨_, rfl, h⟩
theorem call_zipLT {prog : Program} {w : World} {A : Around} {E : Value → Shared → Prop} {s : Shared} {l1 l2 : Addr} {xs ys : Array Value} {Q : Value → Shared → Prop} (hl1 : s.heap.IsList l1 xs) (hl2 : s.heap.IsTuple l2 ys)
    (h : ∀ h', IsZip h' (s.heap.objs.size + 4) (s.heap.objs.size + 2) (s.heap.objs.size + 3) .none → IsPair h' (s.heap.objs.size + 2) (.ref s.heap.objs.size) (.ref (s.heap.objs.size + 1)) →
      IsPair h' (s.heap.objs.size + 3) .none .none → h'.IsListIter s.heap.objs.size l1 0 → h'.IsTupleIter (s.heap.objs.size + 1) l2 0 →
      (∀ c o, s.heap.get? c = some o → h'.get? c = some o) → Q (.ref (s.heap.objs.size + 4)) { s with heap := h' }) :
    wpAny (model prog w) A (call (.type "zip") [.ref l1, .ref l2]) Q E s := by
  refine callType_new F.called_zip (by decide) (F.typeCall_zip_2 _ _) (F.newCall_zip_2 _ _) (fun obj => F.args_object_init_3 obj _ _) F.entry_zip_new
    (meets_zipLT l1 l2 xs ys) ⟨hl1, hl2, ?_⟩
  obtain ⟨e, a1, a2, a3, a4, a5, a6⟩ := zg_facts "list_iterator" "tuple_iterator" s.heap l1 l2
  show _ ∧ _
  rw [e]
  exact ⟨⟨_, a1, rfl⟩, h _ a1 a2 a3 ⟨_, a4, rfl, rfl⟩ ⟨_, a5, rfl, rfl⟩ a6⟩
def ItzLT (K : PySem.W.Frag) (a b : Addr) : It :=
  ⟨fun i H => ∃ (xs ys : List V) (x y : V), SqL K H a xs ∧ SqT K H b ys ∧ xs[i]? = some x ∧ ys[i]? = some y,
    fun i H v H' => ∃ T x y, v = .ref T ∧ H T = none ∧ H' = upd H T (.tup [x, y]) ∧ (∀ xs, SqL K H a xs → xs[i]? = some x) ∧ ∀ ys, SqT K H b ys → ys[i]? = some y,
    fun i H => ∃ xs ys : List V, SqL K H a xs ∧ SqT K H b ys ∧ (i = xs.length ∨ (i < xs.length ∧ i = ys.length))⟩
theorem turn_zipLT {P : Program} {w : World} {K : PySem.W.Frag} {elts : List Expr} {kk : Nat} {tpos : Pos} {a b z TI TO i1 i2 : Addr} (D : ZipApart z TI TO i1 i2 a b) :
    Turn P w K (.Tuple elts kk tpos) (ItzLT K a b) [z, TI, TO, i1, i2] z (fun i h => IsZip h z TI TO .none ∧ IsPair h TI (.ref i1) (.ref i2) ∧ (∃ x y, IsPair h TO x y) ∧ h.IsListIter i1 a i ∧ h.IsTupleIter i2 b i) where
  mem := by simp
  obj := fun i h st c hc => by
    obtain ⟨hz, hTI, ⟨x, y, hTO⟩, ⟨o1, e1, _, d1⟩, ⟨o2, e2, _, d2⟩⟩ := st
    have e' : c = z ∨ c = TI ∨ c = TO ∨ c = i1 ∨ c = i2 := by simpa using hc
    rcases e' with rfl | rfl | rfl | rfl | rfl
    · exact ⟨_, hz, fun v q => nomatch q⟩
    · exact ⟨_, hTI, fun v q => nomatch q⟩
    · exact ⟨_, hTO, fun v q => nomatch q⟩
    · exact ⟨o1, e1, fun v q => by rw [d1] at q; cases q⟩
    · exact ⟨o2, e2, fun v q => by rw [d2] at q; cases q⟩
  keep := fun i h h' st k => by
    obtain ⟨hz, hTI, ⟨x, y, hTO⟩, h1, h2⟩ := st
    exact ⟨k z (by simp) _ hz, k TI (by simp) _ hTI, ⟨x, y, k TO (by simp) _ hTO⟩, h1.at fun o q => k i1 (by simp) o q, h2.at fun o q => k i2 (by simp) o q⟩
  item := by
    intro X hP hw hK hc i pins s σ H E I hf st hg
    subst hP hw hK
    obtain ⟨hz, hTI, ⟨x0, y0, hTO⟩, h1, h2⟩ := st
    obtain ⟨xs, ys, x, y, hqx, hqy, hx, hy⟩ := hg
    obtain ⟨its, rv, p, _⟩ := I.list hqx
    obtain ⟨its2, rv2, p2, _⟩ := I.tuple hqy
    obtain ⟨u, hu, ru⟩ := rv.get hx
    obtain ⟨u2, hu2, ru2⟩ := rv2.get hy
    have hzl : z < s.heap.objs.size := Heap.lt_size hz
    have hi1 : i < its.toArray.size := by have := (List.getElem?_eq_some_iff.mp hu).1; simpa using this
    have hi2 : i < its2.toArray.size := by have := (List.getElem?_eq_some_iff.mp hu2).1; simpa using this
    refine pyNext_zipG_item (Draws.list (A := X.A.in1) (I.ok.hd hc) i1 a D.l1i1 its.toArray) (Draws.tuple (A := X.A.in1) (I.ok.hd hc) i2 b D.l2i2 its2.toArray) (za_of D) hz hTI hTO ⟨h1, p.isList⟩ ⟨h2, p2⟩ hi1 hi2 fun v v2 h' tk hv hv2 z' TO' h1' h2' hT hsz hk => ?_
    have e1 : v = u := by
      have q : its[i]? = some v := by simpa using hv
      rw [hu] at q; exact (Option.some.inj q).symm
    have e2 : v2 = u2 := by
      have q : its2[i]? = some v2 := by simpa using hv2
      rw [hu2] at q; exact (Option.some.inj q).symm
    subst e1 e2
    refine ⟨_, rfl, wpAny_letOwnedTupleGo_zip (s := { s with heap := h', toks := tk }) z' fun h'' z'' sb => ?_⟩
    have hT2 : h''.get? s.heap.objs.size = some { cls := .type "tuple", data := .seq #[v, v2] } := (sb.2 _ (Nat.ne_of_gt hzl)).trans hT
    have new : ObjOk X.prog X.w (upd H s.heap.objs.size (.tup [x, y])) h'' s.heap.objs.size (.tup [x, y]) :=
      ⟨by show 2 ≤ sizeLine; decide, [v, v2], .cons ru (.cons ru2 .nil), ⟨_, hT2, rfl, _, rfl⟩⟩
    have I1 : Inv X pins σ (upd H s.heap.objs.size (.tup [x, y])) { s with heap := h'', toks := tk } :=
      I.turnedNew (ch := [z, TI, TO, i1, i2]) (fun c o hb q => (sb.2 c (fun q' => hb (by simp [q']))).trans (hk c o (fun q' => hb (by simp [q'])) (fun q' => hb (by simp [q'])) (fun q' => hb (by simp [q'])) (fun q' => hb (by simp [q'])) q)) hf (Nat.le_refl _) new
    refine ⟨.ref s.heap.objs.size, _, I1, rfl, ⟨_, x, y, rfl, I.hok.fresh (Nat.le_refl _), rfl, fun l hl => by rw [I.list_inj hl hqx]; exact hx, fun l hl => by rw [I.tuple_inj hl hqy]; exact hy⟩, ⟨z'', ?_, ⟨v, v2, ?_⟩, ?_, ?_⟩, fun c hcm => ?_⟩
    · exact (sb.2 _ D.TIz).trans (hk _ _ D.TIz D.TITO D.TIi1 D.TIi2 hTI)
    · exact (sb.2 _ D.TOz).trans TO'
    · exact h1'.1.at fun o q => (sb.2 _ D.i1z).trans q
    · exact h2'.1.at fun o q => (sb.2 _ D.i2z).trans q
    · have hlt : c < s.heap.objs.size := by
        have e' : c = z ∨ c = TI ∨ c = TO ∨ c = i1 ∨ c = i2 := by simpa using hcm
        rcases e' with rfl | rfl | rfl | rfl | rfl
        · exact hzl
        · exact Heap.lt_size hTI
        · exact Heap.lt_size hTO
        · obtain ⟨_, e1, _⟩ := h1; exact Heap.lt_size e1
        · obtain ⟨_, e2, _⟩ := h2; exact Heap.lt_size e2
      rw [upd_ne (Nat.ne_of_lt hlt)]
      exact (hf c hcm).1
  done := by
    intro X hP hw hK hc i pins s σ H E I hf st hg
    subst hP hw hK
    obtain ⟨hz, hTI, ⟨x0, y0, hTO⟩, h1, h2⟩ := st
    obtain ⟨xs, ys, hqx, hqy, hend⟩ := hg
    obtain ⟨its, rv, p, _⟩ := I.list hqx
    obtain ⟨its2, rv2, p2, _⟩ := I.tuple hqy
    have l1 := rv.length
    have l2 := rv2.length
    have he : i = its.toArray.size ∨ (i < its.toArray.size ∧ i = its2.toArray.size) := by
      simp only [List.size_toArray]; omega
    exact pyNext_zipG_end (Draws.list (A := X.A.in1) (I.ok.hd hc) i1 a D.l1i1 its.toArray) (Draws.tuple (A := X.A.in1) (I.ok.hd hc) i2 b D.l2i2 its2.toArray) (za_of D) hz hTI hTO ⟨h1, p.isList⟩ ⟨h2, p2⟩ he fun h' tk hk => ⟨rfl, I.turnedL (ch := [z, TI, TO, i1, i2]) (fun c o hb q =>
      hk c o (fun q' => hb (by simp [q'])) (fun q' => hb (by simp [q'])) (fun q' => hb (by simp [q'])) (fun q' => hb (by simp [q'])) q) hf⟩
  self := fun A i s Q E st h => wpAny_pyIter_zip st.1 h
def iZipLT (K : PySem.W.Frag) (ta : TA) : TI := fun σ H R => ta σ H fun vs H1 => ∃ a b xs ys, vs = [.ref a, .ref b] ∧ SqL K H1 a xs ∧ SqT K H1 b ys ∧ R (ItzLT K a b) H1
theorem pi_zipLT {X : Cx} {e e2 : Expr} {ta : TA} {p pos tpos : Pos} {elts : List Expr} {kk : Nat} (hg : Gl X "zip") (hm : X.mg "zip" = none) (ha : PA X [e, e2] ta)
    (hs : starEach [e, e2] X.env = (false, eval e X.env) :: starEach [e2] X.env := by rfl) (hpl : (backTo pos (starEach [e2] X.env)).any (·.1) = false := by rfl) :
    PI X (.Tuple elts kk tpos) (.Call (.Name "zip" p) [e, e2] [] pos) (iZipLT X.K ta) := by
  refine ⟨fun pins s σ H R I h => ?_⟩
  refine Call_ (ld_blt I hg hm PyProof.Rows.boot_zip (PyProof.Rows.callWith_type1 (thn (ha.run pos pins s σ H _ I h) fun us s1 ⟨vs, H1, I1, r1, q1⟩ => ?_) hs hpl))
  obtain ⟨a, b, xs, ys, ex, hqx, hqy, q⟩ := q1
  subst ex
  cases r1 with
  | cons r rr =>
    cases rr with
    | cons r' rr =>
      cases rr
      cases r
      cases r'
      have fresh5 : ∀ c, c ∈ [s1.heap.objs.size + 4, s1.heap.objs.size + 2, s1.heap.objs.size + 3, s1.heap.objs.size, s1.heap.objs.size + 1] → FpOk X pins H1 c := fun c hcm => by
        have hle : s1.heap.objs.size ≤ c := by simp only [List.mem_cons, List.not_mem_nil, or_false] at hcm; omega
        exact I1.fpOk hle (I1.hok.fresh hle)
      obtain ⟨its, rv, p1, _⟩ := I1.list hqx
      obtain ⟨its2, rv2, p2, _⟩ := I1.tuple hqy
      obtain ⟨o1, ho1, _⟩ := id p1.isList
      obtain ⟨o2, ho2, _⟩ := id p2
      refine call_zipLT (show s1.heap.IsList a its.toArray from p1.isList) (show s1.heap.IsTuple b its2.toArray from p2) fun h' hz hTI hTO h1 h2 hk => wpAny_pyIter_zip hz ?_
      have I2 : Inv X pins σ H1 { s1 with heap := h' } := I1.kept (t' := s1.toks) hk
      exact ⟨s1.heap.objs.size + 4, [s1.heap.objs.size + 4, s1.heap.objs.size + 2, s1.heap.objs.size + 3, s1.heap.objs.size, s1.heap.objs.size + 1], _, _, H1, rfl, I2, turn_zipLT (PySem.W.ktu_apart s1.heap.objs.size a b (Heap.lt_size ho1) (Heap.lt_size ho2)), ⟨hz, hTI, ⟨_, _, hTO⟩, h1, h2⟩, fresh5, q⟩
section
variable {T : TC} {a b e : Expr} {env e0 e1 e2 : Env'} {pos p tpos : Pos} {kk : Nat} {elts : List Expr}
theorem ji_zipLT {xs ys : List PyData} (hg : glB T.sc "zip" = true) (hm : T.mg "zip" = none) (h : JA T [a, b] e0 e1 [.list xs, .tuple ys]) (hs : ∀ v : Env, starEach [a, b] v = (false, eval a v) :: starEach [b] v := by intro _; rfl) (hpl : ∀ v : Env, (backTo pos (starEach [b] v)).any (·.1) = false := by intro _; rfl) : JI T (.Tuple elts kk tpos) (.Call (.Name "zip" p) [a, b] [] pos) e0 e1 (zipD xs ys) := fun X hX =>
  (pi_zipLT (gl_of hX hg) (by rw [hX.mg]; exact hm) (h X hX) (hs X.env) (hpl X.env)).wk fun σ H Rr' ⟨R, C, E, k⟩ => ⟨R, C, E, fun vs C1 H1 c1 E1 r1 => by
    cases r1 with
    | cons r1 r2 =>
    cases r2 with
    | cons r2 r3 =>
    cases r3
    cases r1 with
    | lst q1 l1 r1 =>
    cases r2 with
    | tup q2 l2 r2 =>
    refine ⟨_, _, _, _, rfl, SqL.of (E1.cH _ _ q1), E1.cH.t q2, k _ C1 H1 c1 E1 (by rw [zipD_len, ← r1.len]; omega) fun C2 env σ H2 c2 E2 => ⟨⟨_, _, SqL.of (E2.cH _ _ (c2 _ _ q1)), E2.cH.t (c2.t q2), by rw [zipD_len, ← r1.len, ← r2.len]; omega⟩, fun i d hd => ?_⟩⟩
    obtain ⟨x, y, hx, hy, rfl⟩ := zipD_get hd
    obtain ⟨u, hu, ru⟩ := r1.getD hx
    obtain ⟨w, hw, rw⟩ := r2.getD hy
    refine ⟨⟨_, _, u, w, SqL.of (E2.cH _ _ (c2 _ _ q1)), E2.cH.t (c2.t q2), hu, hw⟩, fun z H3 hz => ?_⟩
    obtain ⟨t, u', w', rfl, ht, rfl, h1, h2⟩ := hz
    have e1 := h1 _ (SqL.of (E2.cH _ _ (c2 _ _ q1)))
    have e2 := h2 _ (E2.cH.t (c2.t q2))
    rw [hu] at e1; cases e1
    rw [hw] at e2; cases e2
    exact E2.pair ht (ru.mono c2) (rw.mono c2)⟩
theorem ji_zipLT' {α β : Type} {ea : α → PyData} {eb : β → PyData} {xs : List α} {ys : List β} (hg : glB T.sc "zip" = true) (hm : T.mg "zip" = none) (h : JA T [a, b] e0 e1 [.list (xs.map ea), .tuple (ys.map eb)]) (hs : ∀ v : Env, starEach [a, b] v = (false, eval a v) :: starEach [b] v := by intro _; rfl) (hpl : ∀ v : Env, (backTo pos (starEach [b] v)).any (·.1) = false := by intro _; rfl) : JI T (.Tuple elts kk tpos) (.Call (.Name "zip" p) [a, b] [] pos) e0 e1 ((xs.zip ys).map (eP2 ea eb)) := by
  have := ji_zipLT (elts := elts) (kk := kk) (tpos := tpos) (p := p) hg hm h hs hpl
  have e : zipD (xs.map ea) (ys.map eb) = (xs.zip ys).map (eP2 ea eb) := by
    unfold zipD
    rw [List.zip_map, List.map_map]
    rfl
  rw [e] at this
  exact this
end

/-! ### TL -/
theorem meets_zipTL (l1 l2 : Addr) (xs ys : Array Value) :
    Meets (Builtin.«zip.__new__» ⟨[.type "zip", .ref l1, .ref l2], []⟩) (fun _ R s => s.heap.IsTuple l1 xs ∧ s.heap.IsList l2 ys ∧
      R (.ok (.ret (.ref (zg4 "tuple_iterator" "list_iterator" s.heap l1 l2).objs.size))) { s with heap := zg5 "tuple_iterator" "list_iterator" s.heap l1 l2 }) :=
  .of_wp fun prog w A R s h => by
    obtain ⟨hp, g, d, tk, os⟩ := s
    obtain ⟨hl1, hl2, h⟩ := h
    have hsub := sub_zip
    have hL1 : Heap.IsTuple (Shared.heap ⟨hp, g, d, tk, os⟩) l1 xs := hl1
    have hL2 : Heap.IsList (Shared.heap ⟨hp.push { cls := .type "tuple_iterator", data := .fields #[.ref l1, .int 0 0] }, g, d, tk, os⟩) l2 ys := Heap.IsList.push hl2 _
    wp_walk using wpAny_pyIter_tuple hL1, wpAny_pyIter_list hL2
    exact ⟨_, rfl, h⟩
theorem call_zipTL {prog : Program} {w : World} {A : Around} {E : Value → Shared → Prop} {s : Shared} {l1 l2 : Addr} {xs ys : Array Value} {Q : Value → Shared → Prop} (hl1 : s.heap.IsTuple l1 xs) (hl2 : s.heap.IsList l2 ys)
    (h : ∀ h', IsZip h' (s.heap.objs.size + 4) (s.heap.objs.size + 2) (s.heap.objs.size + 3) .none → IsPair h' (s.heap.objs.size + 2) (.ref s.heap.objs.size) (.ref (s.heap.objs.size + 1)) →
      IsPair h' (s.heap.objs.size + 3) .none .none → h'.IsTupleIter s.heap.objs.size l1 0 → h'.IsListIter (s.heap.objs.size + 1) l2 0 →
      (∀ c o, s.heap.get? c = some o → h'.get? c = some o) → Q (.ref (s.heap.objs.size + 4)) { s with heap := h' }) :
    wpAny (model prog w) A (call (.type "zip") [.ref l1, .ref l2]) Q E s := by
  refine callType_new F.called_zip (by decide) (F.typeCall_zip_2 _ _) (F.newCall_zip_2 _ _) (fun obj => F.args_object_init_3 obj _ _) F.entry_zip_new
    (meets_zipTL l1 l2 xs ys) ⟨hl1, hl2, ?_⟩
  obtain ⟨e, a1, a2, a3, a4, a5, a6⟩ := zg_facts "tuple_iterator" "list_iterator" s.heap l1 l2
  show _ ∧ _
  rw [e]
  exact ⟨⟨_, a1, rfl⟩, h _ a1 a2 a3 ⟨_, a4, rfl, rfl⟩ ⟨_, a5, rfl, rfl⟩ a6⟩
def ItzTL (K : PySem.W.Frag) (a b : Addr) : It :=
  ⟨fun i H => ∃ (xs ys : List V) (x y : V), SqT K H a xs ∧ SqL K H b ys ∧ xs[i]? = some x ∧ ys[i]? = some y,
    fun i H v H' => ∃ T x y, v = .ref T ∧ H T = none ∧ H' = upd H T (.tup [x, y]) ∧ (∀ xs, SqT K H a xs → xs[i]? = some x) ∧ ∀ ys, SqL K H b ys → ys[i]? = some y,
    fun i H => ∃ xs ys : List V, SqT K H a xs ∧ SqL K H b ys ∧ (i = xs.length ∨ (i < xs.length ∧ i = ys.length))⟩
theorem turn_zipTL {P : Program} {w : World} {K : PySem.W.Frag} {elts : List Expr} {kk : Nat} {tpos : Pos} {a b z TI TO i1 i2 : Addr} (D : ZipApart z TI TO i1 i2 a b) :
    Turn P w K (.Tuple elts kk tpos) (ItzTL K a b) [z, TI, TO, i1, i2] z (fun i h => IsZip h z TI TO .none ∧ IsPair h TI (.ref i1) (.ref i2) ∧ (∃ x y, IsPair h TO x y) ∧ h.IsTupleIter i1 a i ∧ h.IsListIter i2 b i) where
  mem := by simp
  obj := fun i h st c hc => by
    obtain ⟨hz, hTI, ⟨x, y, hTO⟩, ⟨o1, e1, _, d1⟩, ⟨o2, e2, _, d2⟩⟩ := st
    have e' : c = z ∨ c = TI ∨ c = TO ∨ c = i1 ∨ c = i2 := by simpa using hc
    rcases e' with rfl | rfl | rfl | rfl | rfl
    · exact ⟨_, hz, fun v q => nomatch q⟩
    · exact ⟨_, hTI, fun v q => nomatch q⟩
    · exact ⟨_, hTO, fun v q => nomatch q⟩
    · exact ⟨o1, e1, fun v q => by rw [d1] at q; cases q⟩
    · exact ⟨o2, e2, fun v q => by rw [d2] at q; cases q⟩
  keep := fun i h h' st k => by
    obtain ⟨hz, hTI, ⟨x, y, hTO⟩, h1, h2⟩ := st
    exact ⟨k z (by simp) _ hz, k TI (by simp) _ hTI, ⟨x, y, k TO (by simp) _ hTO⟩, h1.at fun o q => k i1 (by simp) o q, h2.at fun o q => k i2 (by simp) o q⟩
  item := by
    intro X hP hw hK hc i pins s σ H E I hf st hg
    subst hP hw hK
    obtain ⟨hz, hTI, ⟨x0, y0, hTO⟩, h1, h2⟩ := st
    obtain ⟨xs, ys, x, y, hqx, hqy, hx, hy⟩ := hg
    obtain ⟨its, rv, p, _⟩ := I.tuple hqx
    obtain ⟨its2, rv2, p2, _⟩ := I.list hqy
    obtain ⟨u, hu, ru⟩ := rv.get hx
    obtain ⟨u2, hu2, ru2⟩ := rv2.get hy
    have hzl : z < s.heap.objs.size := Heap.lt_size hz
    have hi1 : i < its.toArray.size := by have := (List.getElem?_eq_some_iff.mp hu).1; simpa using this
    have hi2 : i < its2.toArray.size := by have := (List.getElem?_eq_some_iff.mp hu2).1; simpa using this
    refine pyNext_zipG_item (Draws.tuple (A := X.A.in1) (I.ok.hd hc) i1 a D.l1i1 its.toArray) (Draws.list (A := X.A.in1) (I.ok.hd hc) i2 b D.l2i2 its2.toArray) (za_of D) hz hTI hTO ⟨h1, p⟩ ⟨h2, p2.isList⟩ hi1 hi2 fun v v2 h' tk hv hv2 z' TO' h1' h2' hT hsz hk => ?_
    have e1 : v = u := by
      have q : its[i]? = some v := by simpa using hv
      rw [hu] at q; exact (Option.some.inj q).symm
    have e2 : v2 = u2 := by
      have q : its2[i]? = some v2 := by simpa using hv2
      rw [hu2] at q; exact (Option.some.inj q).symm
    subst e1 e2
    refine ⟨_, rfl, wpAny_letOwnedTupleGo_zip (s := { s with heap := h', toks := tk }) z' fun h'' z'' sb => ?_⟩
    have hT2 : h''.get? s.heap.objs.size = some { cls := .type "tuple", data := .seq #[v, v2] } := (sb.2 _ (Nat.ne_of_gt hzl)).trans hT
    have new : ObjOk X.prog X.w (upd H s.heap.objs.size (.tup [x, y])) h'' s.heap.objs.size (.tup [x, y]) :=
      ⟨by show 2 ≤ sizeLine; decide, [v, v2], .cons ru (.cons ru2 .nil), ⟨_, hT2, rfl, _, rfl⟩⟩
    have I1 : Inv X pins σ (upd H s.heap.objs.size (.tup [x, y])) { s with heap := h'', toks := tk } :=
      I.turnedNew (ch := [z, TI, TO, i1, i2]) (fun c o hb q => (sb.2 c (fun q' => hb (by simp [q']))).trans (hk c o (fun q' => hb (by simp [q'])) (fun q' => hb (by simp [q'])) (fun q' => hb (by simp [q'])) (fun q' => hb (by simp [q'])) q)) hf (Nat.le_refl _) new
    refine ⟨.ref s.heap.objs.size, _, I1, rfl, ⟨_, x, y, rfl, I.hok.fresh (Nat.le_refl _), rfl, fun l hl => by rw [I.tuple_inj hl hqx]; exact hx, fun l hl => by rw [I.list_inj hl hqy]; exact hy⟩, ⟨z'', ?_, ⟨v, v2, ?_⟩, ?_, ?_⟩, fun c hcm => ?_⟩
    · exact (sb.2 _ D.TIz).trans (hk _ _ D.TIz D.TITO D.TIi1 D.TIi2 hTI)
    · exact (sb.2 _ D.TOz).trans TO'
    · exact h1'.1.at fun o q => (sb.2 _ D.i1z).trans q
    · exact h2'.1.at fun o q => (sb.2 _ D.i2z).trans q
    · have hlt : c < s.heap.objs.size := by
        have e' : c = z ∨ c = TI ∨ c = TO ∨ c = i1 ∨ c = i2 := by simpa using hcm
        rcases e' with rfl | rfl | rfl | rfl | rfl
        · exact hzl
        · exact Heap.lt_size hTI
        · exact Heap.lt_size hTO
        · obtain ⟨_, e1, _⟩ := h1; exact Heap.lt_size e1
        · obtain ⟨_, e2, _⟩ := h2; exact Heap.lt_size e2
      rw [upd_ne (Nat.ne_of_lt hlt)]
      exact (hf c hcm).1
  done := by
    intro X hP hw hK hc i pins s σ H E I hf st hg
    subst hP hw hK
    obtain ⟨hz, hTI, ⟨x0, y0, hTO⟩, h1, h2⟩ := st
    obtain ⟨xs, ys, hqx, hqy, hend⟩ := hg
    obtain ⟨its, rv, p, _⟩ := I.tuple hqx
    obtain ⟨its2, rv2, p2, _⟩ := I.list hqy
    have l1 := rv.length
    have l2 := rv2.length
    have he : i = its.toArray.size ∨ (i < its.toArray.size ∧ i = its2.toArray.size) := by
      simp only [List.size_toArray]; omega
    exact pyNext_zipG_end (Draws.tuple (A := X.A.in1) (I.ok.hd hc) i1 a D.l1i1 its.toArray) (Draws.list (A := X.A.in1) (I.ok.hd hc) i2 b D.l2i2 its2.toArray) (za_of D) hz hTI hTO ⟨h1, p⟩ ⟨h2, p2.isList⟩ he fun h' tk hk => ⟨rfl, I.turnedL (ch := [z, TI, TO, i1, i2]) (fun c o hb q =>
      hk c o (fun q' => hb (by simp [q'])) (fun q' => hb (by simp [q'])) (fun q' => hb (by simp [q'])) (fun q' => hb (by simp [q'])) q) hf⟩
  self := fun A i s Q E st h => wpAny_pyIter_zip st.1 h
def iZipTL (K : PySem.W.Frag) (ta : TA) : TI := fun σ H R => ta σ H fun vs H1 => ∃ a b xs ys, vs = [.ref a, .ref b] ∧ SqT K H1 a xs ∧ SqL K H1 b ys ∧ R (ItzTL K a b) H1
theorem pi_zipTL {X : Cx} {e e2 : Expr} {ta : TA} {p pos tpos : Pos} {elts : List Expr} {kk : Nat} (hg : Gl X "zip") (hm : X.mg "zip" = none) (ha : PA X [e, e2] ta)
    (hs : starEach [e, e2] X.env = (false, eval e X.env) :: starEach [e2] X.env := by rfl) (hpl : (backTo pos (starEach [e2] X.env)).any (·.1) = false := by rfl) :
    PI X (.Tuple elts kk tpos) (.Call (.Name "zip" p) [e, e2] [] pos) (iZipTL X.K ta) := by
  refine ⟨fun pins s σ H R I h => ?_⟩
  refine Call_ (ld_blt I hg hm PyProof.Rows.boot_zip (PyProof.Rows.callWith_type1 (thn (ha.run pos pins s σ H _ I h) fun us s1 ⟨vs, H1, I1, r1, q1⟩ => ?_) hs hpl))
  obtain ⟨a, b, xs, ys, ex, hqx, hqy, q⟩ := q1
  subst ex
  cases r1 with
  | cons r rr =>
    cases rr with
    | cons r' rr =>
      cases rr
      cases r
      cases r'
      have fresh5 : ∀ c, c ∈ [s1.heap.objs.size + 4, s1.heap.objs.size + 2, s1.heap.objs.size + 3, s1.heap.objs.size, s1.heap.objs.size + 1] → FpOk X pins H1 c := fun c hcm => by
        have hle : s1.heap.objs.size ≤ c := by simp only [List.mem_cons, List.not_mem_nil, or_false] at hcm; omega
        exact I1.fpOk hle (I1.hok.fresh hle)
      obtain ⟨its, rv, p1, _⟩ := I1.tuple hqx
      obtain ⟨its2, rv2, p2, _⟩ := I1.list hqy
      obtain ⟨o1, ho1, _⟩ := id p1
      obtain ⟨o2, ho2, _⟩ := id p2.isList
      refine call_zipTL (show s1.heap.IsTuple a its.toArray from p1) (show s1.heap.IsList b its2.toArray from p2.isList) fun h' hz hTI hTO h1 h2 hk => wpAny_pyIter_zip hz ?_
      have I2 : Inv X pins σ H1 { s1 with heap := h' } := I1.kept (t' := s1.toks) hk
      exact ⟨s1.heap.objs.size + 4, [s1.heap.objs.size + 4, s1.heap.objs.size + 2, s1.heap.objs.size + 3, s1.heap.objs.size, s1.heap.objs.size + 1], _, _, H1, rfl, I2, turn_zipTL (PySem.W.ktu_apart s1.heap.objs.size a b (Heap.lt_size ho1) (Heap.lt_size ho2)), ⟨hz, hTI, ⟨_, _, hTO⟩, h1, h2⟩, fresh5, q⟩
section
variable {T : TC} {a b e : Expr} {env e0 e1 e2 : Env'} {pos p tpos : Pos} {kk : Nat} {elts : List Expr}
theorem ji_zipTL {xs ys : List PyData} (hg : glB T.sc "zip" = true) (hm : T.mg "zip" = none) (h : JA T [a, b] e0 e1 [.tuple xs, .list ys]) (hs : ∀ v : Env, starEach [a, b] v = (false, eval a v) :: starEach [b] v := by intro _; rfl) (hpl : ∀ v : Env, (backTo pos (starEach [b] v)).any (·.1) = false := by intro _; rfl) : JI T (.Tuple elts kk tpos) (.Call (.Name "zip" p) [a, b] [] pos) e0 e1 (zipD xs ys) := fun X hX =>
  (pi_zipTL (gl_of hX hg) (by rw [hX.mg]; exact hm) (h X hX) (hs X.env) (hpl X.env)).wk fun σ H Rr' ⟨R, C, E, k⟩ => ⟨R, C, E, fun vs C1 H1 c1 E1 r1 => by
    cases r1 with
    | cons r1 r2 =>
    cases r2 with
    | cons r2 r3 =>
    cases r3
    cases r1 with
    | tup q1 l1 r1 =>
    cases r2 with
    | lst q2 l2 r2 =>
    refine ⟨_, _, _, _, rfl, E1.cH.t q1, SqL.of (E1.cH _ _ q2), k _ C1 H1 c1 E1 (by rw [zipD_len, ← r1.len]; omega) fun C2 env σ H2 c2 E2 => ⟨⟨_, _, E2.cH.t (c2.t q1), SqL.of (E2.cH _ _ (c2 _ _ q2)), by rw [zipD_len, ← r1.len, ← r2.len]; omega⟩, fun i d hd => ?_⟩⟩
    obtain ⟨x, y, hx, hy, rfl⟩ := zipD_get hd
    obtain ⟨u, hu, ru⟩ := r1.getD hx
    obtain ⟨w, hw, rw⟩ := r2.getD hy
    refine ⟨⟨_, _, u, w, E2.cH.t (c2.t q1), SqL.of (E2.cH _ _ (c2 _ _ q2)), hu, hw⟩, fun z H3 hz => ?_⟩
    obtain ⟨t, u', w', rfl, ht, rfl, h1, h2⟩ := hz
    have e1 := h1 _ (E2.cH.t (c2.t q1))
    have e2 := h2 _ (SqL.of (E2.cH _ _ (c2 _ _ q2)))
    rw [hu] at e1; cases e1
    rw [hw] at e2; cases e2
    exact E2.pair ht (ru.mono c2) (rw.mono c2)⟩
theorem ji_zipTL' {α β : Type} {ea : α → PyData} {eb : β → PyData} {xs : List α} {ys : List β} (hg : glB T.sc "zip" = true) (hm : T.mg "zip" = none) (h : JA T [a, b] e0 e1 [.tuple (xs.map ea), .list (ys.map eb)]) (hs : ∀ v : Env, starEach [a, b] v = (false, eval a v) :: starEach [b] v := by intro _; rfl) (hpl : ∀ v : Env, (backTo pos (starEach [b] v)).any (·.1) = false := by intro _; rfl) : JI T (.Tuple elts kk tpos) (.Call (.Name "zip" p) [a, b] [] pos) e0 e1 ((xs.zip ys).map (eP2 ea eb)) := by
  have := ji_zipTL (elts := elts) (kk := kk) (tpos := tpos) (p := p) hg hm h hs hpl
  have e : zipD (xs.map ea) (ys.map eb) = (xs.zip ys).map (eP2 ea eb) := by
    unfold zipD
    rw [List.zip_map, List.map_map]
    rfl
  rw [e] at this
  exact this
end
end J
namespace J
open PySem L2 PySem.Spec PyProof.Rows
/-! ### facts of permutations and combinations -/
theorem slot_perm_next : Slot "itertools.permutations" "__next__" "itertools.permutations.__next__" :=
  .of (owner := "itertools.permutations") (n := "__next__") (by rw [typeLookup_type, builtinLookup_eq_fast]; kernel_rfl) (by decide +kernel) (by decide +kernel) (by decide +kernel)
    (by first | exact .inl (by decide +kernel) | exact .inr (by decide +kernel)) (by rw [isSubtype_type]; kernel_rfl)
theorem slot_perm_iter : Slot "itertools.permutations" "__iter__" "itertools.permutations.__iter__" :=
  .of (owner := "itertools.permutations") (n := "__iter__") (by rw [typeLookup_type, builtinLookup_eq_fast]; kernel_rfl) (by decide +kernel) (by decide +kernel) (by decide +kernel)
    (by first | exact .inl (by decide +kernel) | exact .inr (by decide +kernel)) (by rw [isSubtype_type]; kernel_rfl)
theorem slot_perm_init : Slot "itertools.permutations" "__init__" "object.__init__" :=
  .of (owner := "object") (n := "__init__") (by rw [typeLookup_type, builtinLookup_eq_fast]; kernel_rfl) (by decide +kernel) (by decide +kernel) (by decide +kernel)
    (by first | exact .inl (by decide +kernel) | exact .inr (by decide +kernel)) (by rw [isSubtype_type]; kernel_rfl)
theorem entry_perm_next : entryFor table "itertools.permutations.__next__" = some Builtin.«itertools.permutations.__next__» := entryFor_of_tree (by kernel_rfl)
theorem entry_perm_new : entryFor table "itertools.permutations.__new__" = some Builtin.«itertools.permutations.__new__» := entryFor_of_tree (by kernel_rfl)
theorem entry_perm_iter : entryFor table "itertools.permutations.__iter__" = some Builtin.«dict_keyiterator.__iter__» :=
  entryFor_alias (id' := "dict_keyiterator.__iter__") (by kernel_rfl) (by first | rfl | decide +kernel | (unfold String.splitOn; simp +decide [String.splitOnAux])) (by decide +kernel) (by kernel_rfl)
theorem mro_perm : mroOf (.type "itertools.permutations") = pure [.type "itertools.permutations", .type "object"] := by rw [mroOf_type]; kernel_rfl
theorem lookup_perm_new : typeLookup (.type "itertools.permutations") "__new__" = pure (some (.builtin "itertools.permutations.__new__")) := by rw [typeLookup_type, builtinLookup_eq_fast]; kernel_rfl
theorem called_perm : TypeCalled "itertools.permutations" "itertools.permutations.__new__" "object.__init__" :=
  ⟨by decide +kernel, by decide +kernel, ⟨_, _, mro_perm⟩, madeBy_type mro_perm lookup_perm_new (by decide +kernel), by decide +kernel, by rw [isSubtype_type]; kernel_rfl, slot_perm_init⟩
theorem typeCall_perm (a : Value) : checkTypeCall "itertools.permutations" ⟨[a], []⟩ = pure () := by kernel_rfl
theorem newCall_perm (a : Value) : checkBuiltinCall "itertools.permutations.__new__" ⟨[.type "itertools.permutations", a], []⟩ = pure () := by kernel_rfl
theorem owner_perm : Manifest.owners.lookup "itertools.permutations" = some Manifest.sig_itertools_permutations := by kernel_rfl
theorem args_perm_next (a : Value) : argsOk "itertools.permutations.__next__" ⟨[a], []⟩ := by unfold argsOk; kernel_rfl
theorem args_perm_iter (a : Value) : argsOk "itertools.permutations.__iter__" ⟨[a], []⟩ := by unfold argsOk; kernel_rfl
theorem nolen_perm : typeLookup (.type "itertools.permutations") "__len__" = pure none := by rw [typeLookup_type, builtinLookup_eq_fast]; kernel_rfl
theorem nohint_perm : typeLookup (.type "itertools.permutations") "__length_hint__" = pure none := by rw [typeLookup_type, builtinLookup_eq_fast]; kernel_rfl
theorem sub_perm : isSubtype (.type "itertools.permutations") (.type "itertools.permutations") = pure true := by rw [isSubtype_type]; kernel_rfl
theorem ty_perm : isType (.type "itertools.permutations") = pure true := by first | rfl | kernel_rfl | (unfold isType; rw [isSubtype_type]; kernel_rfl)
theorem dict_perm : typeHasDict (.type "itertools.permutations") = false := by decide +kernel
end J
namespace J
open PySem L2 PySem.Spec PyProof.Rows
open Builtin.Itertools (itPoolItems itIntField itNumbersFrom itSetNumbersFrom itStop)
/-! ### the next permutation -/
abbrev NP := Nat → Nat → List Nat → List Nat → Option (List Nat × List Nat)
def pOut (self : Value) (items : Array Value) (r : Nat) (ix : List Nat) : Sem Fin :=
  newTuple ((ix.take r).map fun i => items.getD i .none) >>= fun t => field self 3 >>= fun b => setField self 3 t >>= fun _ => letGo [b] [t] >>= fun _ => ret t
def pStep (np : NP) (self : Value) (items : Array Value) (r : Nat) (ks : List Nat) (st : Int) : Sem Fin := match st with
  | 0 => setField self 1 (rawInt 1) >>= fun _ => pOut self items r ks
  | 1 => match np items.size r (ks.take items.size) (ks.drop items.size) with
    | some (ix, cy) => itSetNumbersFrom self 4 (ix ++ cy) >>= fun _ => pOut self items r ix
    | none => setField self 1 (rawInt 2) >>= fun _ => itStop
  | _ => rule "itertools.permutations.ended" >>= fun _ => itStop
/-- one step of the cycles, told anew -/
def npF (n : Nat) : NP := fun _ place ix cy => place.rec (motive := fun _ => List Nat → List Nat → Option (List Nat × List Nat)) (fun _ _ => none)
  (fun i go ix cy => if cy.getD i 0 - 1 = 0 then go (ix.take i ++ ix.drop (i + 1) ++ [ix.getD i 0]) (cy.set i (n - i))
    else some ((ix.set i (ix.getD (n - (cy.getD i 0 - 1)) 0)).set (n - (cy.getD i 0 - 1)) (ix.getD i 0), cy.set i (cy.getD i 0 - 1))) ix cy
theorem perm_form : ∃ np : NP, (∀ n i ix cy, np n i ix cy = npF n n i ix cy) ∧ ∀ args, Builtin.«itertools.permutations.__next__» args = (slotArgs "__next__" 0 args >>= fun x => match x with
    | (self, _) => field self 0 >>= fun pool => itPoolItems pool >>= fun items => itIntField self 2 >>= fun rr => itNumbersFrom self 4 >>= fun ks => itIntField self 1 >>= fun st => pStep np self items rr.toNat ks st) := by
  refine ⟨_, ?_, fun args => rfl⟩
  · intro n i
    induction i with
    | zero => intro ix cy; rfl
    | succ i ih =>
      intro ix cy
      by_cases h : cy.getD i 0 - 1 = 0
      · have e : npF n n (i + 1) ix cy = npF n n i (ix.take i ++ ix.drop (i + 1) ++ [ix.getD i 0]) (cy.set i (n - i)) := by
          show (if cy.getD i 0 - 1 = 0 then _ else _) = _
          rw [if_pos h]; rfl
        rw [e, ← ih]
        show (if (cy.getD i 0 - 1 == 0) = true then _ else _) = _
        rw [if_pos (by rw [h]; rfl)]
      · have e : npF n n (i + 1) ix cy = some ((ix.set i (ix.getD (n - (cy.getD i 0 - 1)) 0)).set (n - (cy.getD i 0 - 1)) (ix.getD i 0), cy.set i (cy.getD i 0 - 1)) := by
          show (if cy.getD i 0 - 1 = 0 then _ else _) = _
          rw [if_neg h]
        rw [e]
        show (if (cy.getD i 0 - 1 == 0) = true then _ else _) = _
        rw [if_neg (by simpa using h)]
/-! ### its object -/
def rwN (ks : List Nat) : List Value := ks.map fun k : Nat => rawInt k
def pObj (T : Addr) (st : Int) (r : Nat) (last : Value) (ks : List Nat) : Obj :=
  { cls := .type "itertools.permutations", data := .fields (.ref T :: rawInt st :: rawInt r :: last :: rwN ks).toArray }
def pickV (us : Array Value) (ix : List Nat) : List Value := ix.map fun i => us.getD i .none
section
variable {prog : Program} {w : World} {A : Around} {E : Value → Shared → Prop} {s : Shared} {p T : Addr} {us : Array Value} {r : Nat} {st : Int} {last : Value} {ks ix : List Nat}
theorem rwN_back (ks : List Nat) : ((rwN ks).map fun v => match v with | .int n _ => n.toNat | _ => 0) = ks := by
  unfold rwN
  rw [List.map_map]
  conv => rhs; rw [← List.map_id ks]
  exact List.map_congr_left fun k _ => by simp [rawInt]
theorem wp_pOut {Q : Value → Shared → Prop} (hp : s.heap.get? p = some (pObj T st r last ks)) (hz : (ix.take r).length ≤ sizeLine)
    (hQ : ∀ h', h'.get? p = some (pObj T st r (.ref s.heap.objs.size) ks) → h'.get? s.heap.objs.size = some { cls := .type "tuple", data := .seq (pickV us (ix.take r)).toArray } → h'.objs.size = s.heap.objs.size + 1 →
      (∀ c o, c ≠ p → s.heap.get? c = some o → h'.get? c = some o) → Q (.ref s.heap.objs.size) { s with heap := h' }) :
    wpAny (model prog w) A (pOut (.ref p) us r ix) (fun fin s' => ∃ v, fin = .done (.ret v) ∧ Q v s') E s := by
  have hlt : p < s.heap.objs.size := Heap.lt_size hp
  unfold pOut
  refine wpAny_bind (wpAny_newTuple ?_ (by rw [List.length_map]; exact hz))
  have hp1 : (s.heap.push { cls := .type "tuple", data := .seq (pickV us (ix.take r)).toArray }).get? p = some (pObj T st r last ks) := Heap.get?_push_of_some _ hp
  refine wpAny_bind (wpAny_field hp1 rfl (x := last) (by simp) ?_)
  refine wpAny_bind (wpAny_setField_rec hp1 (by simp) fun h' hp2 sb => ?_)
  refine wpAny_bind (wpAny_letGo ?_)
  refine wpAny_pure ⟨_, rfl, hQ h' ?_ ?_ ?_ ?_⟩
  · rw [hp2]; unfold pObj; simp
  · exact sb.extBut _ _ (Nat.ne_of_gt hlt) (Heap.get?_push_size _ rfl)
  · rw [sb.1, Heap.size_push]
  · exact fun c o hc e => sb.extBut _ _ hc (Heap.get?_push_of_some _ e)
theorem wp_stop {Q : Fin → Shared → Prop} (hh : A.handled = none) (hE : ∀ h' e, (∀ c o, s.heap.get? c = some o → h'.get? c = some o) → (∃ o, h'.get? e = some o ∧ o.cls = .type "StopIteration") → E (.ref e) { s with heap := h' }) :
    wpAny (model prog w) A (itStop : Sem Fin) Q E s := by
  unfold itStop
  refine wpAny_bind ?_
  simp only [newExc, newTuple]
  refine wpAny_bind (wpAny_newObj_type ?_ (by size_fits))
  refine wpAny_bind (m := firstArgMember _ _) (wpAny_of_eq (a := Value.none) (by first | rfl | (simp only [firstArgMember]; rfl)) ?_)
  refine wpAny_newObj_type ?_ (by size_fits)
  simp only [raiseNew]
  refine wpAny_bind (wpAny_handled ?_)
  first | rw [show A.in1.handled = none from hh] | rw [hh]
  refine wpAny_bind (wpAny_pure (wpAny_throw ?_))
  exact hE _ _ (fun c o e => Heap.get?_push_of_some _ (Heap.get?_push_of_some _ e)) ⟨_, Heap.get?_push_size _ rfl, rfl⟩
theorem wp_head {np : NP} {n : Nat} {Q : Fin → Shared → Prop} (hp : s.heap.get? p = some (pObj T st r last ks)) (hT : ∃ o, s.heap.get? T = some o ∧ o.data = .seq us n)
    (h : wpAny (model prog w) A (pStep np (.ref p) us r ks st) Q E s) : wpAny (model prog w) A (slotArgs "__next__" 0 ⟨[.ref p], []⟩ >>= fun x => match x with
    | (self, _) => field self 0 >>= fun pool => itPoolItems pool >>= fun items => itIntField self 2 >>= fun rr => itNumbersFrom self 4 >>= fun ks => itIntField self 1 >>= fun st => pStep np self items rr.toNat ks st) Q E s := by
  obtain ⟨o, ho, hd⟩ := hT
  show wpAny _ _ (field (.ref p) 0 >>= _) _ _ _
  refine wpAny_bind (wpAny_field hp rfl (x := .ref T) (by simp) ?_)
  unfold itPoolItems
  refine wpAny_bind (wpAny_bind (wpAny_seqItems ho hd ?_))
  refine wpAny_pure ?_
  unfold itIntField
  refine wpAny_bind (wpAny_bind (wpAny_field hp rfl (x := rawInt r) (by simp) ?_))
  refine wpAny_pure ?_
  unfold itNumbersFrom
  refine wpAny_bind (wpAny_bind (wpAny_load hp ?_))
  refine wpAny_pure ?_
  refine wpAny_bind (wpAny_bind (wpAny_field hp rfl (x := rawInt st) (by simp) ?_))
  refine wpAny_pure ?_
  have e : ((((.ref T :: rawInt st :: rawInt r :: last :: rwN ks).toArray : Array Value).toList.drop 4).map fun v => match v with | .int n _ => n.toNat | _ => 0) = ks := by
    rw [List.toList_toArray]
    exact rwN_back ks
  show wpAny _ _ (pStep np (.ref p) us ((r : Int).toNat) ((((.ref T :: rawInt st :: rawInt r :: last :: rwN ks).toArray : Array Value).toList.drop 4).map fun v => match v with | .int n _ => n.toNat | _ => 0) st) _ _ _
  rw [e, Int.toNat_natCast]
  exact h
end
end J
namespace J
open PySem L2 PySem.Spec PyProof.Rows
open Builtin.Itertools (itPoolItems itIntField itNumbersFrom itSetNumbersFrom itStop itClassAndRest itBindNamed itNewRecord)
/-! ### all permutations, by places -/
def npG (n r : Nat) (ix cy : List Nat) : Option (List Nat × List Nat) := npF n n r ix cy
def pm0 (n r : Nat) : List Nat × List Nat := (List.range n, (List.range r).map fun i => n - i)
def pmRun (n r : Nat) : Nat → List Nat × List Nat → List (List Nat)
  | 0, _ => []
  | f + 1, q => q.1.take r :: (match npG n r q.1 q.2 with
    | some q' => pmRun n r f q'
    | none => [])
def pmChk (n r : Nat) : Nat → List Nat × List Nat → Bool
  | 0, _ => false
  | f + 1, q => decide (q.1.length = n) && (decide (q.2.length = r) && ((q.1.take r).all (fun k => decide (k < n)) && match npG n r q.1 q.2 with
    | some q' => pmChk n r f q'
    | none => true))
/-- the permutations of n things, r of them -/
def pmL (n r : Nat) : List (List Nat) := pmRun n r 1000 (pm0 n r)
def pmOk (n r : Nat) : Bool := decide (r ≤ n) && (decide (n ≤ 100) && pmChk n r 1000 (pm0 n r))
def pmS (n r : Nat) (q : List Nat × List Nat) : Nat → Option (List Nat × List Nat)
  | 0 => some q
  | i + 1 => (pmS n r q i).bind fun q => npG n r q.1 q.2
theorem pmS_shift (n r : Nat) (q q' : List Nat × List Nat) (h : npG n r q.1 q.2 = some q') : ∀ i, pmS n r q (i + 1) = pmS n r q' i
  | 0 => h
  | i + 1 => by rw [pmS, pmS_shift n r q q' h i]; rfl
theorem pm_facts (n r : Nat) : ∀ (f : Nat) (q : List Nat × List Nat), pmChk n r f q = true →
    (∀ i, i < (pmRun n r f q).length → ∃ a, pmS n r q i = some a ∧ a.1.length = n ∧ a.2.length = r ∧ (∀ k ∈ a.1.take r, k < n) ∧ (pmRun n r f q)[i]? = some (a.1.take r)) ∧ 0 < (pmRun n r f q).length ∧ (∀ a, pmS n r q ((pmRun n r f q).length - 1) = some a → npG n r a.1 a.2 = none)
  | 0, q, h => by cases h
  | f + 1, q, h => by
    rw [pmChk, Bool.and_eq_true, Bool.and_eq_true, Bool.and_eq_true] at h
    obtain ⟨h1, h2, h3, h4⟩ := h
    rw [List.all_eq_true] at h3
    have h3' : ∀ k ∈ q.1.take r, k < n := fun k hk => of_decide_eq_true (h3 k hk)
    cases hs : npG n r q.1 q.2 with
    | none =>
      rw [pmRun, hs]
      refine ⟨fun i hi => ?_, by simp, fun a ha => ?_⟩
      · have : i = 0 := by simpa using hi
        subst this
        exact ⟨q, rfl, of_decide_eq_true h1, of_decide_eq_true h2, h3', rfl⟩
      · have ha : some q = some a := ha
        cases ha; exact hs
    | some q' =>
      rw [hs] at h4
      obtain ⟨a1, a2, a3⟩ := pm_facts n r f q' h4
      rw [pmRun, hs]
      refine ⟨fun i hi => ?_, by simp, fun a ha => ?_⟩
      · cases i with
        | zero => exact ⟨q, rfl, of_decide_eq_true h1, of_decide_eq_true h2, h3', rfl⟩
        | succ i =>
          obtain ⟨a, b1, b2, b3, b4, b5⟩ := a1 i (by simpa using hi)
          exact ⟨a, by rw [pmS_shift n r q q' hs]; exact b1, b2, b3, b4, b5⟩
      · refine a3 a ?_
        rw [← ha]
        simp only [List.length_cons, Nat.add_sub_cancel]
        have : (pmRun n r f q').length = ((pmRun n r f q').length - 1) + 1 := by omega
        conv => rhs; rw [this]
        rw [pmS_shift n r q q' hs]
/-! ### one turn -/
structure PerAt (h : Heap) (p T : Addr) (us : Array Value) (r : Nat) (i : Nat) : Prop where
  pool : ∃ o m, h.get? T = some o ∧ o.data = .seq us m
  per : ∃ last, (i = 0 ∧ h.get? p = some (pObj T 0 r last ((pm0 us.size r).1 ++ (pm0 us.size r).2))) ∨ (∃ j a, i = j + 1 ∧ pmS us.size r (pm0 us.size r) j = some a ∧ h.get? p = some (pObj T 1 r last (a.1 ++ a.2)))
section
variable {prog : Program} {w : World} {A : Around} {E : Value → Shared → Prop} {s : Shared} {p T : Addr} {us : Array Value} {r i : Nat} {st : Int} {last : Value} {ks ix : List Nat}
theorem PerAt.cls {h : Heap} (P : PerAt h p T us r i) : ∃ o vs, h.get? p = some o ∧ o.cls = .type "itertools.permutations" ∧ o.data = .fields vs := by
  obtain ⟨last, ⟨_, e⟩ | ⟨_, _, _, _, e⟩⟩ := P.per
  · exact ⟨_, _, e, rfl, rfl⟩
  · exact ⟨_, _, e, rfl, rfl⟩
theorem PerAt.keep {h h' : Heap} (P : PerAt h p T us r i) (k : ∀ b ∈ [p, T], ∀ o, h.get? b = some o → h'.get? b = some o) : PerAt h' p T us r i := by
  obtain ⟨⟨o, m, e, d⟩, last, q⟩ := P
  refine ⟨⟨o, m, k T (by simp) _ e, d⟩, last, ?_⟩
  rcases q with ⟨a, e⟩ | ⟨j, a, b, c, e⟩
  · exact .inl ⟨a, k p (by simp) _ e⟩
  · exact .inr ⟨j, a, b, c, k p (by simp) _ e⟩
theorem wp_setNums {new : List Nat} {Q : Unit → Shared → Prop} (hp : s.heap.get? p = some (pObj T st r last ks)) (hz : new.length ≤ 300)
    (hQ : ∀ h', h'.get? p = some (pObj T st r last new) → Heap.SameBut p s.heap h' → Q () { s with heap := h' }) : wpAny (model prog w) A (itSetNumbersFrom (.ref p) 4 new) Q E s := by
  unfold itSetNumbersFrom
  show wpAny _ _ (updateFields p _) _ _ _
  have e : ((.ref T :: rawInt st :: rawInt r :: last :: rwN ks).toArray : Array Value).extract 0 4 ++ (new.map fun (n : Nat) => rawInt n).toArray = (.ref T :: rawInt st :: rawInt r :: last :: rwN new).toArray := by
    simp [rwN]
  refine wpAny_updateFields hp rfl ?_ ?_
  · refine hQ _ ?_ (Heap.SameBut.update ..)
    rw [Heap.get?_update_self _ hp rfl]
    unfold pObj Obj.mapFields
    simp only [e]
  · show (((.ref T :: rawInt st :: rawInt r :: last :: rwN ks).toArray : Array Value).extract 0 4 ++ (new.map fun (n : Nat) => rawInt n).toArray).size ≤ _
    rw [e, List.size_toArray]
    simp only [List.length_cons, rwN, List.length_map]
    exact Nat.le_trans (show _ ≤ 304 by omega) (by decide)
theorem per_item {row : List Nat} {Q : Value → Shared → Prop} (hok : pmOk us.size r = true) (P : PerAt s.heap p T us r i) (hne : T ≠ p) (hi : (pmL us.size r)[i]? = some row)
    (hQ : ∀ h', PerAt h' p T us r (i + 1) → h'.get? s.heap.objs.size = some { cls := .type "tuple", data := .seq (pickV us row).toArray } → h'.objs.size = s.heap.objs.size + 1 →
      (∀ c o, c ≠ p → s.heap.get? c = some o → h'.get? c = some o) → Q (.ref s.heap.objs.size) { s with heap := h' }) :
    wpAny (model prog w) A (Builtin.«itertools.permutations.__next__» ⟨[.ref p], []⟩) (fun fin s' => ∃ v, fin = .done (.ret v) ∧ Q v s') E s := by
  obtain ⟨np, hnp, form⟩ := perm_form
  rw [form]
  unfold pmOk at hok
  rw [Bool.and_eq_true, Bool.and_eq_true] at hok
  obtain ⟨o1, o2, o3⟩ := hok
  have o1 := of_decide_eq_true o1
  have o2 := of_decide_eq_true o2
  obtain ⟨f1, _, _⟩ := pm_facts us.size r 1000 _ o3
  have hlt : i < (pmL us.size r).length := (List.getElem?_eq_some_iff.mp hi).1
  obtain ⟨a, a1, a2, a3, a4, a5⟩ := f1 i hlt
  have hrow : row = a.1.take r := by
    have a5 : (pmL us.size r)[i]? = some (a.1.take r) := a5
    rw [hi] at a5; exact Option.some.inj a5
  obtain ⟨⟨o, m, ho, hd⟩, last, q⟩ := P
  have fin : ∀ (h1 : Heap) (last : Value), h1.get? p = some (pObj T 1 r last (a.1 ++ a.2)) → Heap.SameBut p s.heap h1 → ∀ ix : List Nat, ix.take r = a.1.take r →
      wpAny (model prog w) A (pOut (.ref p) us r ix) (fun fin s' => ∃ v, fin = .done (.ret v) ∧ Q v s') E { s with heap := h1 } := fun h1 last hp sb ix hix => by
    refine wp_pOut (s := { s with heap := h1 }) hp ?_ fun h2 g1 g2 g3 g4 => ?_
    · rw [List.length_take]
      exact Nat.le_trans (Nat.min_le_left _ _) (Nat.le_trans (Nat.le_trans o1 o2) (by decide))
    · rw [hix, ← hrow] at g2
      have e : h1.objs.size = s.heap.objs.size := sb.1
      show Q (.ref h1.objs.size) _
      have g2 : h2.get? h1.objs.size = _ := g2
      have g3 : h2.objs.size = h1.objs.size + 1 := g3
      rw [e] at g2 g3 ⊢
      refine hQ h2 ⟨⟨o, m, g4 _ _ hne (sb.extBut _ _ hne ho), hd⟩, _, .inr ⟨i, a, rfl, a1, g1⟩⟩ g2 g3 fun c o hc q => g4 _ _ hc (sb.extBut _ _ hc q)
  rcases q with ⟨rfl, hp⟩ | ⟨j, b, rfl, hb, hp⟩
  · refine wp_head hp ⟨o, ho, hd⟩ ?_
    have ea : a = pm0 us.size r := by
      have a1 : some (pm0 us.size r) = some a := a1
      exact (Option.some.inj a1).symm
    unfold pStep
    refine wpAny_bind (wpAny_setField_rec hp (by simp) fun h1 hp1 sb => ?_)
    have hp1' : h1.get? p = some (pObj T 1 r last (a.1 ++ a.2)) := by
      rw [hp1, ea]; unfold pObj; simp
    refine fin h1 last hp1' sb _ ?_
    rw [ea, List.take_append_of_le_length (by unfold pm0; simp; exact o1)]
  · refine wp_head hp ⟨o, ho, hd⟩ ?_
    have hj : pmS us.size r (pm0 us.size r) (j + 1) = npG us.size r b.1 b.2 := by rw [pmS, hb]; rfl
    obtain ⟨b', b1, b2, b3, _, _⟩ := f1 j (Nat.lt_of_succ_lt hlt)
    rw [hb] at b1
    cases b1
    have e1 : (b.1 ++ b.2).take us.size = b.1 := by rw [List.take_append_of_le_length (by omega), List.take_of_length_le (by omega)]
    have e2 : (b.1 ++ b.2).drop us.size = b.2 := by
      have := List.drop_left (l₁ := b.1) (l₂ := b.2)
      rw [b2] at this; exact this
    have e3 : np us.size r b.1 b.2 = some (a.1, a.2) := by rw [hnp]; exact (hj.symm.trans a1)
    unfold pStep
    show wpAny _ _ (match np us.size r ((b.1 ++ b.2).take us.size) ((b.1 ++ b.2).drop us.size) with
      | some (ix, cy) => itSetNumbersFrom (.ref p) 4 (ix ++ cy) >>= fun _ => pOut (.ref p) us r ix
      | none => setField (.ref p) 1 (rawInt 2) >>= fun _ => itStop) _ _ _
    rw [e1, e2, e3]
    show wpAny _ _ (itSetNumbersFrom (.ref p) 4 (a.1 ++ a.2) >>= fun _ => pOut (.ref p) us r a.1) _ _ _
    refine wpAny_bind (wp_setNums hp (by rw [List.length_append]; omega) fun h1 hp1 sb => ?_)
    exact fin h1 last hp1 sb _ rfl
theorem per_end {Q : Fin → Shared → Prop} (hh : A.handled = none) (hok : pmOk us.size r = true) (P : PerAt s.heap p T us r i) (hi : i = (pmL us.size r).length)
    (hE : ∀ h' e, (∀ c o, c ≠ p → s.heap.get? c = some o → h'.get? c = some o) → (∃ o, h'.get? e = some o ∧ o.cls = .type "StopIteration") → E (.ref e) { s with heap := h' }) :
    wpAny (model prog w) A (Builtin.«itertools.permutations.__next__» ⟨[.ref p], []⟩) Q E s := by
  obtain ⟨np, hnp, form⟩ := perm_form
  rw [form]
  unfold pmOk at hok
  rw [Bool.and_eq_true, Bool.and_eq_true] at hok
  obtain ⟨o1, o2, o3⟩ := hok
  obtain ⟨f1, f2, f3⟩ := pm_facts us.size r 1000 _ o3
  obtain ⟨⟨o, m, ho, hd⟩, last, q⟩ := P
  have f2 : 0 < (pmL us.size r).length := f2
  rcases q with ⟨rfl, hp⟩ | ⟨j, b, rfl, hb, hp⟩
  · omega
  · refine wp_head hp ⟨o, ho, hd⟩ ?_
    have f3 := f3 b (by
      show pmS us.size r (pm0 us.size r) ((pmL us.size r).length - 1) = some b
      rw [← hi, Nat.add_sub_cancel]; exact hb)
    have hlt : j < (pmL us.size r).length := by omega
    obtain ⟨b', b1, b2, b3, _, _⟩ := f1 j hlt
    rw [hb] at b1
    cases b1
    have e1 : (b.1 ++ b.2).take us.size = b.1 := by rw [List.take_append_of_le_length (by omega), List.take_of_length_le (by omega)]
    have e2 : (b.1 ++ b.2).drop us.size = b.2 := by
      have := List.drop_left (l₁ := b.1) (l₂ := b.2)
      rw [b2] at this; exact this
    have e3 : np us.size r b.1 b.2 = none := by rw [hnp]; exact f3
    unfold pStep
    show wpAny _ _ (match np us.size r ((b.1 ++ b.2).take us.size) ((b.1 ++ b.2).drop us.size) with
      | some (ix, cy) => itSetNumbersFrom (.ref p) 4 (ix ++ cy) >>= fun _ => pOut (.ref p) us r ix
      | none => setField (.ref p) 1 (rawInt 2) >>= fun _ => itStop) _ _ _
    rw [e1, e2, e3]
    show wpAny _ _ (setField (.ref p) 1 (rawInt 2) >>= fun _ => itStop) _ _ _
    refine wpAny_bind (wpAny_setField_rec hp (by simp) fun h1 hp1 sb => ?_)
    exact wp_stop (s := { s with heap := h1 }) hh fun h2 e k he => hE h2 e (fun c o hc q => k _ _ (sb.extBut _ _ hc q)) he
end
end J
namespace J
open PySem L2 PySem.Spec PyProof.Rows
open Builtin.Itertools (itPoolItems itIntField itNumbersFrom itSetNumbersFrom itStop itClassAndRest itBindNamed itNewRecord)
/-! ### permutations at the layer of things -/
def pickW (vs : List V) (ix : List Nat) : List V := ix.map fun i => vs.getD i .non
theorem vals_getD : ∀ {vs : List V} {us : List Value}, Vals vs us → ∀ i, i < vs.length → RelV (vs.getD i .non) (us.getD i .none)
  | _, _, .nil, i, h => by simp at h
  | _, _, .cons r t, 0, _ => by simpa using r
  | _, _, .cons r t, i + 1, h => by
    have := vals_getD t i (by simpa using h)
    simpa using this
theorem vals_pick {vs : List V} {us : Array Value} (r : Vals vs us.toList) : ∀ {ix : List Nat}, (∀ k ∈ ix, k < us.size) → Vals (pickW vs ix) (pickV us ix)
  | [], _ => .nil
  | k :: ix, h => by
    have hl : vs.length = us.size := by rw [r.length, Array.length_toList]
    refine .cons ?_ (vals_pick r fun j hj => h j (by simp [hj]))
    have := vals_getD r k (by rw [hl]; exact h k (by simp))
    have e : us.getD k .none = us.toList.getD k .none := by
      simp [Array.getD_eq_getD_getElem?, List.getD_eq_getElem?_getD]
    show RelV (vs.getD k .non) (us.getD k .none)
    rw [e]; exact this
section
variable {prog : Program} {w : World} {A : Around} {E : Value → Shared → Prop} {s : Shared} {p T : Addr} {us : Array Value} {r i : Nat} {row : List Nat}
theorem pyNext_per_item {Q : Option Value → Shared → Prop} (hok : pmOk us.size r = true) (P : PerAt s.heap p T us r i) (hne : T ≠ p) (hi : (pmL us.size r)[i]? = some row)
    (hQ : ∀ h', PerAt h' p T us r (i + 1) → h'.get? s.heap.objs.size = some { cls := .type "tuple", data := .seq (pickV us row).toArray } → h'.objs.size = s.heap.objs.size + 1 →
      (∀ c o, c ≠ p → s.heap.get? c = some o → h'.get? c = some o) → Q (some (.ref s.heap.objs.size)) { s with heap := h' }) : wpAny (model prog w) A (pyNext (.ref p)) Q E s := by
  obtain ⟨o, vs, ho, hc, hd⟩ := P.cls
  have hT : s.TypeIs (.ref p) "itertools.permutations" := ⟨o, ho, hc⟩
  unfold pyNext
  exact wpAny_bind (wpAny_attempt (wpAny_callSpecial?_slot (name := Str.ofString "__next__") hT slot_perm_next
    (wpAny_call_entry slot_perm_next hT entry_perm_next
      (per_item hok P hne hi fun h' a1 a2 a3 a4 => wpAny_pure (hQ h' a1 a2 a3 a4)) (args_perm_next _))))
theorem pyNext_per_end {Q : Option Value → Shared → Prop} (hh : A.handled = none) (hok : pmOk us.size r = true) (P : PerAt s.heap p T us r i) (hi : i = (pmL us.size r).length)
    (hQ : ∀ h', (∀ c o, c ≠ p → s.heap.get? c = some o → h'.get? c = some o) → Q none { s with heap := h' }) : wpAny (model prog w) A (pyNext (.ref p)) Q E s := by
  obtain ⟨o, vs, ho, hc, hd⟩ := P.cls
  have hT : s.TypeIs (.ref p) "itertools.permutations" := ⟨o, ho, hc⟩
  unfold pyNext
  refine wpAny_bind (wpAny_attempt (wpAny_callSpecial?_slot (name := Str.ofString "__next__") hT slot_perm_next
    (wpAny_call_entry slot_perm_next hT entry_perm_next (per_end hh hok P hi fun h' e hk he => ?_) (args_perm_next _))))
  obtain ⟨o, ho, hc⟩ := he
  refine wpAny_bind (wpAny_isInstance (T := "StopIteration") (b := true) ⟨o, ho, hc⟩ isSubtype_stop ?_)
  exact wpAny_pure (hQ _ hk)
theorem pyIter_per {Q : Value → Shared → Prop} (P : PerAt s.heap p T us r i) (h : Q (.ref p) s) : wpAny (model prog w) A (pyIter (.ref p)) Q E s := by
  obtain ⟨o, vs, ho, hc, hd⟩ := P.cls
  have hT : s.TypeIs (.ref p) "itertools.permutations" := ⟨o, ho, hc⟩
  refine wpAny_pyIter_slot hT slot_perm_iter (wpAny_call_entry slot_perm_iter hT entry_perm_iter ?_ (args_perm_iter _))
  show wpAny _ _ (ret (.ref p)) _ _ s
  exact wpAny_pure ⟨_, rfl, "itertools.permutations", _, hT, slot_perm_next.lookup, h⟩
end
section
variable {X : Cx} {pins : List (Addr × Obj)} {σ : L2.St} {H : Hp} {s : Shared} {p T : Addr} {us : Array Value} {vs : List V} {r i : Nat} {row : List Nat} {A : Around} {E : Value → Shared → Prop}
theorem pm_rows {n r i : Nat} {row : List Nat} (hok : pmOk n r = true) (hi : (pmL n r)[i]? = some row) : row.length = r ∧ (∀ k ∈ row, k < n) ∧ r ≤ n ∧ n ≤ 100 := by
  unfold pmOk at hok
  rw [Bool.and_eq_true, Bool.and_eq_true] at hok
  obtain ⟨o1, o2, o3⟩ := hok
  have o1 := of_decide_eq_true o1
  have o2 := of_decide_eq_true o2
  obtain ⟨f1, _, _⟩ := pm_facts n r 1000 _ o3
  obtain ⟨a, a1, a2, a3, a4, a5⟩ := f1 i (List.getElem?_eq_some_iff.mp hi).1
  have a5 : (pmL n r)[i]? = some (a.1.take r) := a5
  rw [hi] at a5
  have e := Option.some.inj a5
  rw [e]
  exact ⟨by rw [List.length_take]; omega, a4, o1, o2⟩
theorem per_turn {Q : Option Value → Shared → Prop} (I : Inv X pins σ H s) (hf : ∀ b ∈ [p, T], FpOk X pins H b) (hne : T ≠ p) (P : PerAt s.heap p T us r i) (hok : pmOk us.size r = true) (rv : Vals vs us.toList) (hi : (pmL us.size r)[i]? = some row)
    (hQ : ∀ h', Inv X pins σ (upd H s.heap.objs.size (.tup (pickW vs row))) { s with heap := h' } → PerAt h' p T us r (i + 1) → h'.objs.size = s.heap.objs.size + 1 → (∀ c o, c ≠ p → s.heap.get? c = some o → h'.get? c = some o) → Q (some (.ref s.heap.objs.size)) { s with heap := h' }) :
    wpAny (model X.prog X.w) A (pyNext (.ref p)) Q E s := by
  obtain ⟨r1, r2, r3, r4⟩ := pm_rows hok hi
  refine pyNext_per_item hok P hne hi fun h' P' hT hsz hk => ?_
  have new : ObjOk X.prog X.w (upd H s.heap.objs.size (.tup (pickW vs row))) h' s.heap.objs.size (.tup (pickW vs row)) := by
    refine ⟨?_, pickV us row, vals_pick rv r2, ⟨_, hT, rfl, _, rfl⟩⟩
    unfold pickW
    rw [List.length_map, r1]
    exact Nat.le_trans (Nat.le_trans r3 r4) (by decide)
  exact hQ h' (I.turnedNew (t' := s.toks) (ch := [p, T]) (fun b o hb q => hk b o (fun q' => hb (by simp [q'])) q) hf (Nat.le_refl _) new) P' hsz hk
/-- rows of things, in new tuples -/
def ItR (rows : List (List V)) : It :=
  ⟨fun i _ => i < rows.length, fun i H v H' => ∃ t xs, v = .ref t ∧ H t = none ∧ H' = upd H t (.tup xs) ∧ rows[i]? = some xs, fun i _ => i = rows.length⟩
theorem turn_per {tg : Expr} {P : Program} {w : World} {K : PySem.W.Frag} (hne : T ≠ p) (hok : pmOk us.size r = true) (rv : Vals vs us.toList) :
    Turn P w K tg (ItR ((pmL us.size r).map (pickW vs))) [p, T] p (fun i h => PerAt h p T us r i ∧ ∃ o m, h.get? T = some o ∧ o.data = .seq us m) where
  mem := by simp
  obj := fun i h st c hc => by
    obtain ⟨P, o, m, ho, hd⟩ := st
    obtain ⟨o2, vs2, ho2, hc2, hd2⟩ := P.cls
    have e' : c = p ∨ c = T := by simpa using hc
    rcases e' with rfl | rfl
    · exact ⟨o2, ho2, fun v q => by rw [hd2] at q; cases q⟩
    · exact ⟨o, ho, fun v q => by rw [hd] at q; cases q⟩
  keep := fun i h h' st k => by
    obtain ⟨P, o, m, ho, hd⟩ := st
    exact ⟨P.keep k, o, m, k T (by simp) _ ho, hd⟩
  item := by
    intro X hP hw hK hc i pins s σ H E I hf st hg
    subst hP hw hK
    obtain ⟨P, o, m, ho, hd⟩ := st
    have hg : i < ((pmL us.size r).map (pickW vs)).length := hg
    rw [List.length_map] at hg
    have hi := List.getElem?_eq_getElem hg
    obtain ⟨o2, vs2, ho2, _, _⟩ := P.cls
    refine per_turn I hf hne P hok rv hi fun h' I' P' hsz hk => ?_
    obtain ⟨o3, vs3, ho3, hc3, hd3⟩ := P'.cls
    refine ⟨_, rfl, go_of (s := { s with heap := h' }) (n := "itertools.permutations") ho3 hc3 hd3 (by decide) ⟨.ref s.heap.objs.size, _, I', rfl, ⟨_, _, rfl, I.hok.fresh (Nat.le_refl _), rfl, by rw [List.getElem?_map, hi]; rfl⟩, ⟨P', o, m, hk _ _ hne ho, hd⟩, fun b hb => ?_⟩⟩
    have hlt : b < s.heap.objs.size := by
      have e' : b = p ∨ b = T := by simpa using hb
      rcases e' with rfl | rfl
      · exact Heap.lt_size ho2
      · exact Heap.lt_size ho
    rw [upd_ne (Nat.ne_of_lt hlt)]
    exact (hf b hb).1
  done := by
    intro X hP hw hK hc i pins s σ H E I hf st hg
    subst hP hw hK
    have hg : i = ((pmL us.size r).map (pickW vs)).length := hg
    rw [List.length_map] at hg
    exact pyNext_per_end (I.ok.hd hc) hok st.1 hg fun h' hk => ⟨rfl, I.turnedL (t' := s.toks) (ch := [p, T]) (fun c o hb q => hk c o (fun q' => hb (by simp [q'])) q) hf⟩
  self := fun A i s Q E st h => pyIter_per st.1 h
end
/-! ### it is made -/
section
variable {prog : Program} {w : World} {A : Around} {E : Value → Shared → Prop} {s : Shared}
theorem perm_class (src : Value) : itClassAndRest "permutations" ⟨[.type "itertools.permutations", src], []⟩ = pure (.type "itertools.permutations", [src]) := by
  unfold itClassAndRest
  show (isType (.type "itertools.permutations") >>= fun b => _) = _
  rw [ty_perm]
  show (isSubtype (.type "itertools.permutations") (.type ("itertools." ++ "permutations")) >>= fun b => _) = _
  rw [show ("itertools." ++ "permutations" : String) = "itertools.permutations" by decide, sub_perm]
  rfl
theorem perm_bind (src : Value) : itBindNamed "permutations" ["iterable", "r"] 1 2 [src] [] = pure [some src, none] := by first | rfl | kernel_rfl
theorem rwN_make (n : Nat) : ([] : List Value) ++ ((List.range n).map (fun (i : Nat) => rawInt i) ++ (List.range n).map fun (i : Nat) => rawInt ((n : Int) - i)) = rwN ((pm0 n n).1 ++ (pm0 n n).2) := by
  unfold rwN pm0
  rw [List.map_append, List.map_map, List.nil_append]
  congr 1
  refine List.map_congr_left fun k hk => ?_
  have := List.mem_range.mp hk
  simp only [Function.comp_apply]
  congr 1
  omega
theorem wp_perm_new {src : Value} {R : Value → Shared → Prop} {C : List V → Prop}
    (hcol : ∀ (Q : List Value → Shared → Prop), (∀ (vs : List V) (us : List Value) (h' : Heap) (tk : Nat), C vs → Vals vs us → (∀ b o, s.heap.get? b = some o → h'.get? b = some o) → Q us { s with heap := h', toks := tk }) → wpAny (model prog w) A (collect src) Q E s)
    (hC : ∀ vs, C vs → vs.length ≤ 100)
    (hR : ∀ (vs : List V) (us : Array Value) (h' : Heap) (tk : Nat), C vs → Vals vs us.toList → (∀ b o, s.heap.get? b = some o → h'.get? b = some o) → ∀ (h'' : Heap) (p T : Addr), PerAt h'' p T us us.size 0 → h'.objs.size ≤ p → h'.objs.size ≤ T → T ≠ p → (∀ b o, h'.get? b = some o → h''.get? b = some o) → (∃ o, h''.get? p = some o ∧ o.cls = .type "itertools.permutations") → R (.ref p) { s with heap := h'', toks := tk }) :
    wpAny (model prog w) A (Builtin.«itertools.permutations.__new__» ⟨[.type "itertools.permutations", src], []⟩) (fun fin s' => ∃ v, fin = .done (.ret v) ∧ R v s') E s := by
  unfold Builtin.«itertools.permutations.__new__»
  refine wpAny_bind (wpAny_of_eq (perm_class src) ?_)
  refine wpAny_bind (wpAny_of_eq (perm_bind src) ?_)
  refine wpAny_bind (hcol _ fun vs us h' tk hc rv hk => ?_)
  have hn : us.length ≤ 100 := by rw [← rv.length]; exact hC vs hc
  show wpAny _ _ (pure (us.length : Int) >>= _) _ _ _
  refine wpAny_bind (wpAny_pure ?_)
  dsimp only
  rw [if_neg (by omega), if_neg (by unfold Builtin.Itertools.itTooMany; simp; omega)]
  refine wpAny_bind (wpAny_newTuple ?_ (Nat.le_trans hn (by decide)))
  refine wpAny_bind ?_
  unfold itNewRecord
  rw [dict_perm]
  simp only [Bool.not_false, if_true]
  refine wpAny_newObj_type ?_ ?_
  · refine wpAny_pure ⟨_, rfl, ?_⟩
    have hz : (h'.push { cls := .type "tuple", data := .seq us.toArray }).objs.size = h'.objs.size + 1 := Heap.size_push ..
    refine hR vs us.toArray h' tk hc (by rw [List.toList_toArray]; exact rv) hk _ _ h'.objs.size ?_ ?_ (Nat.le_refl _) ?_ (fun b o e => Heap.get?_push_of_some _ (Heap.get?_push_of_some _ e)) ⟨_, Heap.get?_push_size _ rfl, rfl⟩
    · refine ⟨⟨_, _, Heap.get?_push_of_some _ (Heap.get?_push_size _ rfl), rfl⟩, .none, .inl ⟨rfl, ?_⟩⟩
      rw [Heap.get?_push_size _ rfl]
      unfold pObj
      rw [List.size_toArray, ← rwN_make]
      simp
    · exact Nat.le_trans (Nat.le_succ _) (Nat.le_of_eq hz.symm)
    · intro e
      have : h'.objs.size = h'.objs.size + 1 := e.trans hz
      omega
  · show (_ : Array Value).size ≤ _
    simp
    exact Nat.le_trans (show _ ≤ 204 by omega) (by decide)
end
end J
namespace J
open PySem L2 PySem.Spec PyProof.Rows
/-! ### what may be asked for its items at once -/
def ColOk (u : Value) (s : Shared) (vs : List V) : Prop := ∀ (prog : Program) (w : World) (A : Around) (E : Value → Shared → Prop) (Q : List Value → Shared → Prop), A.handled = none →
  (∀ (us : List Value) (h' : Heap) (tk : Nat), Vals vs us → (∀ b o, s.heap.get? b = some o → h'.get? b = some o) → Q us { s with heap := h', toks := tk }) → wpAny (model prog w) A (collect u) Q E s
def TSrc := L2.St → Hp → (List V → Hp → Prop) → Prop
def PSrc (X : Cx) (e : Expr) (ts : TSrc) : Prop := ∀ (pins : List (Addr × Obj)) (s : Shared) (σ : L2.St) (H : Hp) (Q : List V → Hp → Prop), Inv X pins σ H s → ts σ H Q →
  wpAny (model X.prog X.w) X.A (eval e X.env) (fun u s1 => ∃ H1 vs, Inv X pins σ H1 s1 ∧ vs.length ≤ 100 ∧ ColOk u s1 vs ∧ Q vs H1) X.xe s
section
variable {X : Cx} {e : Expr} {te : TE}
theorem src_list (h : PE X e te) : PSrc X e (fun σ H Q => te σ H fun x H1 => ∃ a xs, x = .ref a ∧ SqL X.K H1 a xs ∧ xs.length ≤ 100 ∧ Q xs H1) := fun pins s σ H Q I hq =>
  thn (h.run pins s σ H _ I hq) fun u s1 ⟨x, H1, I1, rx, a, xs, ex, hs, hl, q⟩ => by
    subst ex
    cases rx
    obtain ⟨its, rv, ⟨o, n, ho, hc, _, hd⟩, hz⟩ := I1.list hs
    refine ⟨H1, xs, I1, hl, fun prog w A E Q' hh hQ => ?_, q⟩
    refine wpAny_collect_seq a (.inl rfl) ho hc hd (fun h' hk => ?_) (by rw [List.size_toArray, ← rv.length]; exact hz)
    rw [List.toList_toArray]
    exact hQ its h' s1.toks rv hk
theorem src_tup (h : PE X e te) : PSrc X e (fun σ H Q => te σ H fun x H1 => ∃ a xs, x = .ref a ∧ SqT X.K H1 a xs ∧ xs.length ≤ 100 ∧ Q xs H1) := fun pins s σ H Q I hq =>
  thn (h.run pins s σ H _ I hq) fun u s1 ⟨x, H1, I1, rx, a, xs, ex, hs, hl, q⟩ => by
    subst ex
    cases rx
    obtain ⟨its, rv, ⟨o, ho, hc, n, hd⟩, hz⟩ := I1.tuple hs
    refine ⟨H1, xs, I1, hl, fun prog w A E Q' hh hQ => ?_, q⟩
    refine wpAny_collect_seq a (.inr rfl) ho hc hd (fun h' hk => ?_) (by rw [List.size_toArray, ← rv.length]; exact hz)
    rw [List.toList_toArray]
    exact hQ its h' s1.toks rv hk
theorem src_rg {t : L2.St → Hp → (Int → Int → Hp → Prop) → Prop} (h : PRg X e t) : PSrc X e (fun σ H Q => t σ H fun a b H1 => (-(2 ^ 62) ≤ a ∧ a < 2 ^ 62) ∧ (-(2 ^ 62) ≤ b ∧ b < 2 ^ 62) ∧ (b - a).toNat ≤ 100 ∧ Q (rgV a b) H1) := fun pins s σ H Q I hq =>
  thn (h pins s σ H _ I hq) fun u s1 ⟨r, a, b, t, u', v, H1, ex, hr, I1, ⟨b1, b2⟩, ⟨b3, b4⟩, hl, q⟩ => by
    subst ex
    refine ⟨H1, rgV a b, I1, by rw [rgV_length]; exact hl, fun prog w A E Q' hh hQ => ?_, q⟩
    refine collect_range (n := (b - a).toNat) hh hr (small_one b1 b2 b3 b4) (rangeSize_nat a b) (Nat.le_trans hl (by decide)) fun h' tk acc hk hi => ?_
    exact hQ acc.toList h' tk (vals_rg hi) hk
end
theorem meets_perm_new (src : Value) :
    Meets (Builtin.«itertools.permutations.__new__» ⟨[.type "itertools.permutations", src], []⟩) (fun A R s => A.handled = none ∧ ∃ vs, ColOk src s vs ∧ vs.length ≤ 100 ∧ ∀ (us : Array Value) (h' : Heap) (tk : Nat), Vals vs us.toList → (∀ b o, s.heap.get? b = some o → h'.get? b = some o) →
      ∀ (h'' : Heap) (p T : Addr), PerAt h'' p T us us.size 0 → h'.objs.size ≤ p → h'.objs.size ≤ T → T ≠ p → (∀ b o, h'.get? b = some o → h''.get? b = some o) → (∃ o, h''.get? p = some o ∧ o.cls = .type "itertools.permutations") → R (.ok (.ret (.ref p))) { s with heap := h'', toks := tk }) :=
  .of_wp fun prog w A R s ⟨hh, vs, hcol, hl, h⟩ => wp_perm_new (R := fun v s' => R (.ok (.ret v)) s') (C := fun vs' => vs' = vs) (fun Q hQ => hcol prog w A.in1 _ Q hh fun us h' tk rv hk => hQ vs us h' tk rfl rv hk) (fun vs' e => e ▸ hl) fun vs' us h' tk e rv hk h'' p T P a1 a2 a3 a4 a5 => h us h' tk (e ▸ rv) hk h'' p T P a1 a2 a3 a4 a5
section
variable {X : Cx} {pins : List (Addr × Obj)} {σ : L2.St} {H : Hp} {s : Shared} {e : Expr} {ts : TSrc} {nm : Str} {p0 pos : Pos}
/-- permutations(e) is made -/
theorem mk_perm (hc : X.calm = true) (he : PSrc X e ts) (hg : Gl X nm) (hm : X.mg nm = some (.type "itertools.permutations")) (hdb : (nm == ("__debug__" : Str)) = false) (na : starEach [e] X.env = (false, eval e X.env) :: starEach [] X.env) {R : List V → Hp → Prop} (I : Inv X pins σ H s)
    (h : ts σ H fun vs H1 => pmOk vs.length vs.length = true ∧ R vs H1) :
    wpAny (model X.prog X.w) X.A (eval (.Call (.Name nm p0) [e] [] pos) X.env) (fun v s1 => ∃ p T us vs H1, v = .ref p ∧ Inv X pins σ H1 s1 ∧ PerAt s1.heap p T us us.size 0 ∧ T ≠ p ∧ (∀ b ∈ [p, T], FpOk X pins H1 b) ∧ Vals vs us.toList ∧ pmOk us.size us.size = true ∧ R vs H1) X.xe s := by
  refine Call_ (ld_glob I hg hm ?_ hdb)
  refine PyProof.Rows.callWith_type1 (PyProof.Rows.args_cons (thn (he pins s σ H _ I h) fun u s1 ⟨H1, vs, I1, hl, hcol, hok, q⟩ => PyProof.Rows.args_nil ?_) na) na
  refine callType_new called_perm (by decide) (typeCall_perm _) (newCall_perm _) (fun obj => F.args_object_init_2 obj _) entry_perm_new (meets_perm_new u) ?_
  refine ⟨I1.ok.hd hc, vs, hcol, hl, fun us h' tk rv hk h'' p T P a1 a2 a3 a4 a5 => ?_⟩
  have hsz : us.size = vs.length := by rw [rv.length, Array.length_toList]
  refine ⟨a5, p, T, us, vs, H1, rfl, ?_, P, a3, ?_, rv, by rw [hsz]; exact hok, q⟩
  · exact I1.kept fun b o e => a4 b o (hk b o e)
  · have I2 : Inv X pins σ H1 { s1 with heap := h', toks := tk } := I1.kept hk
    intro b hb
    have hle : h'.objs.size ≤ b := by
      have e' : b = p ∨ b = T := by simpa using hb
      rcases e' with rfl | rfl
      · exact a1
      · exact a2
    exact I2.fpOk hle (I2.hok.fresh hle)
theorem pi_perm {tg : Expr} (hc : X.calm = true) (he : PSrc X e ts) (hg : Gl X nm) (hm : X.mg nm = some (.type "itertools.permutations")) (hdb : (nm == ("__debug__" : Str)) = false) (na : starEach [e] X.env = (false, eval e X.env) :: starEach [] X.env) :
    PI X tg (.Call (.Name nm p0) [e] [] pos) (fun σ H R => ts σ H fun vs H1 => pmOk vs.length vs.length = true ∧ R (ItR ((pmL vs.length vs.length).map (pickW vs))) H1) := by
  refine ⟨fun pins s σ H R I h => ?_⟩
  refine thn (mk_perm hc he hg hm hdb na I h) fun v s1 ⟨p, T, us, vs, H1, ev, I1, P, hne, hf, rv, hok, q⟩ => ?_
  subst ev
  have hsz : us.size = vs.length := by rw [rv.length, Array.length_toList]
  refine pyIter_per P ⟨p, [p, T], _, _, H1, rfl, I1, turn_per hne hok rv, ⟨P, P.pool⟩, hf, ?_⟩
  rw [hsz]; exact q
end
end J
namespace J
open PySem L2 PySem.Spec PyProof.Rows
/-! ### iterators that give rows of known things, each a new tuple -/
structure RowIt (X : Cx) (cls : String) (p : Addr) (fp : List Addr) (rows : List (List V)) (St : Nat → Heap → Prop) : Prop where
  mem : p ∈ fp
  live : ∀ i h, St i h → ∀ b ∈ fp, ∃ o, h.get? b = some o
  keep : ∀ i h h', St i h → (∀ b ∈ fp, ∀ o, h.get? b = some o → h'.get? b = some o) → St i h'
  typ : ∀ i h, St i h → ∃ o vs, h.get? p = some o ∧ o.cls = .type cls ∧ o.data = .fields vs
  iter : ∀ (A : Around) (E : Value → Shared → Prop) (s : Shared) (i : Nat) (Q : Value → Shared → Prop), St i s.heap → Q (.ref p) s → wpAny (model X.prog X.w) A (pyIter (.ref p)) Q E s
  step : ∀ (A : Around) (E : Value → Shared → Prop) (pins : List (Addr × Obj)) (σ : L2.St) (H : Hp) (s : Shared) (i : Nat) (row : List V) (Q : Option Value → Shared → Prop), Inv X pins σ H s → (∀ b ∈ fp, FpOk X pins H b) → St i s.heap → rows[i]? = some row →
    (∀ h', Inv X pins σ (upd H s.heap.objs.size (.tup row)) { s with heap := h' } → St (i + 1) h' → h'.objs.size = s.heap.objs.size + 1 → (∀ c o, c ≠ p → s.heap.get? c = some o → h'.get? c = some o) → Q (some (.ref s.heap.objs.size)) { s with heap := h' }) →
    wpAny (model X.prog X.w) A (pyNext (.ref p)) Q E s
  done : ∀ (A : Around) (E : Value → Shared → Prop) (s : Shared) (i : Nat) (Q : Option Value → Shared → Prop), A.handled = none → St i s.heap → i = rows.length →
    (∀ h', (∀ c o, c ≠ p → s.heap.get? c = some o → h'.get? c = some o) → Q none { s with heap := h' }) → wpAny (model X.prog X.w) A (pyNext (.ref p)) Q E s
theorem rowIt_perm {X : Cx} {p T : Addr} {us : Array Value} {vs : List V} {r : Nat} (hne : T ≠ p) (hok : pmOk us.size r = true) (rv : Vals vs us.toList) :
    RowIt X "itertools.permutations" p [p, T] ((pmL us.size r).map (pickW vs)) (fun i h => PerAt h p T us r i ∧ ∃ o m, h.get? T = some o ∧ o.data = .seq us m) where
  mem := by simp
  live := fun i h st b hb => by
    obtain ⟨P, o, m, ho, hd⟩ := st
    obtain ⟨o2, vs2, ho2, hc2, hd2⟩ := P.cls
    have e' : b = p ∨ b = T := by simpa using hb
    rcases e' with rfl | rfl
    · exact ⟨_, ho2⟩
    · exact ⟨_, ho⟩
  keep := fun i h h' st k => by
    obtain ⟨P, o, m, ho, hd⟩ := st
    exact ⟨P.keep k, o, m, k T (by simp) _ ho, hd⟩
  typ := fun i h st => st.1.cls
  iter := fun A E s i Q st h => pyIter_per st.1 h
  step := fun A E pins σ H s i row Q I hf st hi hQ => by
    obtain ⟨P, o, m, ho, hd⟩ := st
    rw [List.getElem?_map] at hi
    obtain ⟨ix, hix, rfl⟩ := Option.map_eq_some_iff.mp hi
    exact per_turn I hf hne P hok rv hix fun h' I' P' hsz hk => hQ h' I' ⟨P', o, m, hk _ _ hne ho, hd⟩ hsz hk
  done := fun A E s i Q hh st hi hQ => pyNext_per_end hh hok st.1 (by rw [hi, List.length_map]) hQ
section
variable {X : Cx} {cls : String} {p : Addr} {fp : List Addr} {rows : List (List V)} {St : Nat → Heap → Prop}
theorem turn_rowIt {tg : Expr} (Rw : RowIt X cls p fp rows St) (hn : ["enumerate", "zip", "dict_itemiterator", "dict_reverseitemiterator", "odict_iterator", "itertools.zip_longest", "itertools.pairwise"].contains cls = false)
    (hobj : ∀ i h, St i h → ∀ b ∈ fp, ∃ o, h.get? b = some o ∧ ∀ v, o.data ≠ .cell v) (hX : ∀ X' : Cx, X'.prog = X.prog → X'.w = X.w → X'.K = X.K → RowIt X' cls p fp rows St) : Turn X.prog X.w X.K tg (ItR rows) fp p St where
  mem := Rw.mem
  obj := hobj
  keep := Rw.keep
  item := by
    intro X' hP hw hK hc i pins s σ H E I hf st hg
    have hg : i < rows.length := hg
    have hi := List.getElem?_eq_getElem hg
    rw [← hP, ← hw]
    refine (hX X' hP hw hK).step X'.A E pins σ H s i _ _ I hf st hi fun h' I' st' hsz hk => ?_
    obtain ⟨o3, vs3, ho3, hc3, hd3⟩ := Rw.typ _ _ st'
    refine ⟨_, rfl, go_of (s := { s with heap := h' }) (n := cls) ho3 hc3 hd3 hn ⟨.ref s.heap.objs.size, _, I', rfl, ⟨_, _, rfl, I.hok.fresh (Nat.le_refl _), rfl, hi⟩, st', fun b hb => ?_⟩⟩
    obtain ⟨o, ho⟩ := Rw.live _ _ st b hb
    rw [upd_ne (Nat.ne_of_lt (Heap.lt_size ho))]
    exact (hf b hb).1
  done := by
    intro X' hP hw hK hc i pins s σ H E I hf st hg
    have hg : i = rows.length := hg
    rw [← hP, ← hw]
    exact (hX X' hP hw hK).done X'.A E s i _ (I.ok.hd hc) st hg fun h' hk => ⟨rfl, I.turnedL (t' := s.toks) (ch := fp) (fun c o hb q => hk c o (fun q' => hb (q' ▸ Rw.mem)) q) hf⟩
  self := fun A i s Q E st h => Rw.iter A E s i Q st h
/-! ### list(such an iterator) -/
theorem Paired.snoc {α β : Type} {R : α → β → Prop} : ∀ {xs : List α} {ys : List β} {x : α} {y : β}, Paired R xs ys → R x y → Paired R (xs ++ [x]) (ys ++ [y])
  | _, _, _, _, .nil, h => .cons h .nil
  | _, _, _, _, .cons a t, h => .cons a (Paired.snoc t h)
theorem Paired.imp' {α β : Type} {R R' : α → β → Prop} : ∀ {xs : List α} {ys : List β}, (∀ x ∈ xs, ∀ y, R x y → R' x y) → Paired R xs ys → Paired R' xs ys
  | _, _, _, .nil => .nil
  | _, _, f, .cons a t => .cons (f _ (by simp) _ a) (Paired.imp' (fun x hx y h => f x (by simp [hx]) y h) t)
theorem vals_refs (ts : List Addr) : Vals (ts.map V.ref) (ts.map Value.ref) := by
  induction ts with
  | nil => exact .nil
  | cons t ts ih => exact .cons rfl ih
theorem row_loop {S : Addr} {A : Around} {R : Result → Shared → Prop} {pins : List (Addr × Obj)} {σ : L2.St} {H0 : Hp} {res : Value} (Rw : RowIt X cls p fp rows St) (hh : A.in1.handled = none) (hS : S ∉ fp) (hz : rows.length ≤ 2000)
    (hR : ∀ s' H' ts, Inv X pins σ H' s' → (∀ b o, b ≠ S → H0 b = some o → H' b = some o) → H' S = some (.lst (ts.map V.ref)) → Paired (fun t row => H' t = some (.tup row)) ts rows → (∀ t ∈ ts, H0 t = none ∧ t ≠ S) → R (.ok (.ret res)) s') :
    ∀ (k i : Nat) (s : Shared) (H : Hp) (acc : Array Value) (c : Nat) (ts : List Addr), rows.length - i = k → i ≤ rows.length → Inv X pins σ H s → (∀ b ∈ fp, FpOk X pins H b) → St i s.heap → s.heap.get? S = some { cls := .type "list", dict := none, data := .seq acc c, slots := #[] } →
      acc.toList = ts.map Value.ref → H S = some (.lst (ts.map V.ref)) → ts.length = i → Paired (fun t row => H t = some (.tup row)) ts (rows.take i) → (∀ t ∈ ts, H0 t = none ∧ t ≠ S) → (∀ b o, b ≠ S → H0 b = some o → H b = some o) →
      codeAny (model X.prog X.w) A (.builtin "list.extend.loop" ⟨[.ref S, .ref p, res], []⟩) R s := by
  intro k
  induction k with
  | zero =>
    intro i s H acc c ts hk hi I hf st hl hacc hHS hts hp hnew hold
    have hin : i = rows.length := by omega
    refine codeAny_builtin F.entry_extend_loop ?_
    rw [Around.under_plainId F.plain_extend_loop _]
    show wpAny _ A.in1 (pyNext (.ref p) >>= _) _ _ s
    refine wpAny_bind (Rw.done A.in1 _ s i _ hh st hin fun h' hk' => ?_)
    have I' : Inv X pins σ H { s with heap := h' } := I.turnedL (t' := s.toks) (ch := fp) (fun c o hb q => hk' c o (fun q' => hb (q' ▸ Rw.mem)) q) hf
    refine wpAny_pure (hR _ H ts I' hold hHS ?_ hnew)
    rw [hin, List.take_length] at hp
    exact hp
  | succ k ih =>
    intro i s H acc c ts hk hi I hf st hl hacc hHS hts hp hnew hold
    have hlt : i < rows.length := by omega
    have hir := List.getElem?_eq_getElem hlt
    refine codeAny_builtin F.entry_extend_loop ?_
    rw [Around.under_plainId F.plain_extend_loop _]
    show wpAny _ A.in1 (pyNext (.ref p) >>= _) _ _ s
    refine wpAny_bind (Rw.step A.in1 _ pins σ H s i _ _ I hf st hir fun h' I' st' hsz hk' => ?_)
    have hpS : S ≠ p := fun e => hS (e ▸ Rw.mem)
    have hl' : h'.get? S = some { cls := .type "list", dict := none, data := .seq acc c, slots := #[] } := hk' _ _ hpS hl
    have hSlt : S < s.heap.objs.size := Heap.lt_size hl
    show wpAny _ A.in1 (updateSeq S (·.push (.ref s.heap.objs.size)) >>= _) _ _ _
    refine wpAny_bind ?_
    have hsz1 : (acc.push (.ref s.heap.objs.size)).size = i + 1 := by
      rw [Array.size_push, ← Array.length_toList, hacc, List.length_map, hts]
    have hlist : acc.push (.ref s.heap.objs.size) = ((ts ++ [s.heap.objs.size]).map Value.ref).toArray := by
      apply Array.toList_inj.mp
      rw [Array.toList_push, hacc, List.map_append]; rfl
    have hn0 : H s.heap.objs.size = none := I.hok.fresh (Nat.le_refl _)
    have hSe : (upd H s.heap.objs.size (.tup rows[i])) S = some (.lst (ts.map V.ref)) := by rw [upd_ne (Nat.ne_of_lt hSlt)]; exact hHS
    obtain ⟨c2, upS⟩ : ∃ c2, (h'.update S (Obj.mapSeq (·.push (Value.ref s.heap.objs.size)))).get? S = some { cls := .type "list", dict := none, data := .seq (acc.push (.ref s.heap.objs.size)) c2, slots := #[] } := ⟨_, Heap.get?_update_self (Obj.mapSeq (·.push (Value.ref s.heap.objs.size))) hl' rfl⟩
    have I2 : Inv X pins σ (upd (upd H s.heap.objs.size (.tup rows[i])) S (.lst ((ts ++ [s.heap.objs.size]).map V.ref))) { s with heap := h'.update S (Obj.mapSeq (·.push (Value.ref s.heap.objs.size))) } := by
      refine I'.write (x := S) (e := S) (t' := s.toks) (by rw [hSe]; trivial) (.inl rfl) (fun b u hb q => (Heap.get?_update_other _ _ (Ne.symm hb)).trans q) ⟨_, upS⟩ ?_
      refine ⟨?_, (ts ++ [s.heap.objs.size]).map Value.ref, c2, vals_refs _, ?_⟩
      · rw [List.length_map, List.length_append, List.length_singleton, hts]
        exact Nat.le_trans (show _ ≤ 2000 by omega) (by decide)
      · rw [upS, ← hlist]
    refine wpAny_updateSeq hl' rfl (wpAny_pure ⟨plainId_quiet F.plain_extend_loop _, ih (i + 1) _ _ _ _ (ts ++ [s.heap.objs.size]) (by omega) hlt I2 ?_ ?_ upS ?_ upd_same ?_ ?_ ?_ ?_⟩) (by rw [Array.size_push] at hsz1; exact Nat.le_trans (show _ ≤ 2000 by omega) (by decide))
    · intro b hb
      have f := hf b hb
      refine ⟨?_, f.2⟩
      obtain ⟨o, ho⟩ := Rw.live _ _ st b hb
      rw [upd_ne (fun e => hS (by rw [← e]; exact hb)), upd_ne (Nat.ne_of_lt (Heap.lt_size ho))]
      exact f.1
    · exact Rw.keep _ _ _ st' fun b hb o e => (Heap.get?_update_other _ _ (fun e' : S = b => hS (by rw [e']; exact hb))).trans e
    · rw [hlist]
    · rw [List.length_append, List.length_singleton, hts]
    · rw [List.take_add_one, hir]
      refine Paired.snoc (Paired.imp' (fun t ht row e => ?_) hp) ?_
      · have : t ≠ s.heap.objs.size := fun q => by rw [q, hn0] at e; cases e
        rw [upd_ne (hnew t ht).2, upd_ne this]; exact e
      · rw [upd_ne (Nat.ne_of_gt hSlt), upd_same]
    · intro t ht
      rcases List.mem_append.mp ht with ht | ht
      · exact hnew t ht
      · rw [List.mem_singleton.mp ht]
        refine ⟨?_, Nat.ne_of_gt hSlt⟩
        cases q : H0 s.heap.objs.size with
        | none => rfl
        | some o => rw [hold _ o (Nat.ne_of_gt hSlt) q] at hn0; cases hn0
    · intro b o hb e
      have h1 := hold b o hb e
      have : b ≠ s.heap.objs.size := fun q => by rw [q, hn0] at h1; cases h1
      rw [upd_ne hb, upd_ne this]; exact h1
end
end J
namespace J
open PySem L2 PySem.Spec PyProof.Rows
section
variable {X : Cx} {cls : String} {p : Addr} {fp : List Addr} {rows : List (List V)} {St : Nat → Heap → Prop} {pins : List (Addr × Obj)} {σ : L2.St} {H : Hp} {s : Shared} {A : Around} {E : Value → Shared → Prop}
/-- the list of its rows -/
def ListOk (H : Hp) (rows : List (List V)) (Q : V → Hp → Prop) : Prop := ∀ (H' : Hp) (l : Addr) (ts : List Addr), (∀ b o, H b = some o → H' b = some o) → H l = none → (∀ t ∈ ts, H t = none) → l ∉ ts → H' l = some (.lst (ts.map V.ref)) → Paired (fun t row => H' t = some (.tup row)) ts rows → Q (.ref l) H'
theorem call_list_row {Q : V → Hp → Prop} (Rw : RowIt X cls p fp rows St) (hh : A.handled = none) (h1 : (Value.type cls == Value.type "list") = false) (h2 : (Value.type cls == Value.type "tuple") = false) (hl : typeLookup (.type cls) "__len__" = pure none) (hn : typeLookup (.type cls) "__length_hint__" = pure none)
    (I : Inv X pins σ H s) (hf : ∀ b ∈ fp, FpOk X pins H b) (st : St 0 s.heap) (hz : rows.length ≤ 2000) (hQ : ListOk H rows Q) : wpAny (model X.prog X.w) A (call (.type "list") [.ref p]) (fun v s' => ∃ x H', Inv X pins σ H' s' ∧ RelV x v ∧ Q x H') E s := by
  have hSf : s.heap.objs.size ∉ fp := fun hm => by
    obtain ⟨o, ho⟩ := Rw.live _ _ st _ hm
    exact Nat.lt_irrefl _ (Heap.lt_size ho)
  have hSp : s.heap.objs.size ≠ p := fun e => hSf (e ▸ Rw.mem)
  refine callType_codes (Q₁ := fun obj s₁ => obj = .ref s.heap.objs.size ∧ s₁ = { s with heap := s.heap.push { cls := .type "list", data := .seq #[] } }) F.called_list (F.typeCall_list_1 _) F.entry_list_init
    (code_list_new _ ⟨rfl, rfl⟩) fun obj s₁ h₁ => ?_
  obtain ⟨rfl, rfl⟩ := h₁
  have hS : (s.heap.push { cls := .type "list", data := .seq #[] }).get? s.heap.objs.size = some { cls := .type "list", data := .seq #[] } := Heap.get?_push_size _ rfl
  refine ⟨⟨_, hS, rfl⟩, F.args_list_init_2 _ _, ?_⟩
  show wpAny _ A.in1.in1 (do let old ← Builtin.List.listItems (.ref s.heap.objs.size); Builtin.List.listUpdate (.ref s.heap.objs.size) (fun _ => #[]); letGo old.toList.reverse; Builtin.List.listExtendWith (.ref s.heap.objs.size) (.ref p) .none) _ _ _
  refine wpAny_bind ?_
  unfold Builtin.List.listItems
  refine wpAny_bind (wpAny_seqItems hS rfl (wpAny_pure ?_))
  show wpAny _ A.in1.in1 (updateSeq s.heap.objs.size (fun _ => #[]) >>= fun _ => letGo (#[] : Array Value).toList.reverse >>= fun _ => Builtin.List.listExtendWith (.ref s.heap.objs.size) (.ref p) .none) _ _ _
  refine wpAny_bind (wpAny_updateSeq hS rfl ?_)
  have hS2 := Heap.get?_update_self (Obj.mapSeq (fun _ => (#[] : Array Value))) hS rfl
  refine wpAny_bind (wpAny_letGo ?_)
  have keep2 : ∀ b o, s.heap.get? b = some o → ((s.heap.push { cls := .type "list", data := .seq #[] }).update s.heap.objs.size (Obj.mapSeq (fun _ => (#[] : Array Value)))).get? b = some o := fun b o e =>
    (Heap.get?_update_other _ _ (Nat.ne_of_gt (Heap.lt_size e))).trans (Heap.get?_push_of_some _ e)
  have st2 := Rw.keep _ _ _ st fun b hb o e => keep2 b o e
  obtain ⟨o2, vs2, ho2, hc2, hd2⟩ := Rw.typ _ _ st2
  unfold Builtin.List.listExtendWith
  refine wpAny_bind (wpAny_typeOf (T := cls) ⟨o2, ho2, hc2⟩ ?_)
  have h0 : Builtin.List.listSameRef (.ref s.heap.objs.size) (.ref p) = false := by simp [Builtin.List.listSameRef, hSp]
  simp only [h0, h1, h2, Bool.or_false, Bool.false_eq_true, if_false]
  refine wpAny_bind (Rw.iter _ _ _ 0 _ st2 ?_)
  refine wpAny_bind (wpAny_holding ?_)
  unfold Builtin.List.listLengthHint
  refine wpAny_bind (wpAny_specialOf (T := cls) ⟨o2, ho2, hc2⟩ hl ?_)
  show wpAny _ A.in1.in1 (specialOf (Value.ref p) (Str.ofString "__length_hint__") >>= _) _ _ _
  refine wpAny_bind (wpAny_specialOf (T := cls) ⟨o2, ho2, hc2⟩ hn ?_)
  refine wpAny_pure ?_
  show wpAny _ A.in1.in1 (rule "list.extend.makes-room" >>= fun _ => Builtin.List.listTouch (.ref s.heap.objs.size) >>= fun _ =>
    again (.builtin "list.extend.loop" ⟨[.ref s.heap.objs.size, .ref p, .none], []⟩)) _ _ _
  refine wpAny_bind (wpAny_rule ?_)
  refine wpAny_bind ?_
  show wpAny _ A.in1.in1 (updateSeq s.heap.objs.size (·.push .none) >>= fun _ => updateSeq s.heap.objs.size (·.pop)) _ _ _
  refine wpAny_bind (wpAny_updateSeq hS2 rfl ?_)
  have hS3 := Heap.get?_update_self (Obj.mapSeq (·.push Value.none)) hS2 rfl
  refine wpAny_updateSeq (hz := by seq_fits) hS3 rfl ?_
  obtain ⟨c4, hS4⟩ : ∃ c4, ((((s.heap.push { cls := .type "list", data := .seq #[] }).update s.heap.objs.size (Obj.mapSeq (fun _ => (#[] : Array Value)))).update s.heap.objs.size (Obj.mapSeq (·.push Value.none))).update s.heap.objs.size (Obj.mapSeq (·.pop))).get? s.heap.objs.size = some { cls := .type "list", dict := none, data := .seq #[] c4, slots := #[] } :=
    ⟨_, Heap.get?_update_self (Obj.mapSeq (·.pop)) hS3 rfl⟩
  have keep4 : ∀ b o, s.heap.get? b = some o → ((((s.heap.push { cls := .type "list", data := .seq #[] }).update s.heap.objs.size (Obj.mapSeq (fun _ => (#[] : Array Value)))).update s.heap.objs.size (Obj.mapSeq (·.push Value.none))).update s.heap.objs.size (Obj.mapSeq (·.pop))).get? b = some o := fun b o e =>
    (Heap.get?_update_other _ _ (Nat.ne_of_gt (Heap.lt_size e))).trans ((Heap.get?_update_other _ _ (Nat.ne_of_gt (Heap.lt_size e))).trans (keep2 b o e))
  have I4 : Inv X pins σ (upd H s.heap.objs.size (.lst [])) { s with heap := (((s.heap.push { cls := .type "list", data := .seq #[] }).update s.heap.objs.size (Obj.mapSeq (fun _ => (#[] : Array Value)))).update s.heap.objs.size (Obj.mapSeq (·.push Value.none))).update s.heap.objs.size (Obj.mapSeq (·.pop)) } :=
    I.laid (t' := s.toks) keep4 (Nat.le_refl _) (show ObjOk X.prog X.w _ _ _ (.lst []) from ⟨Nat.zero_le _, [], c4, .nil, hS4⟩)
  have hn0 : H s.heap.objs.size = none := I.hok.fresh (Nat.le_refl _)
  refine wpAny_pure ⟨plainId_quiet F.plain_extend_loop _, ?_⟩
  refine row_loop (A := A.in1) (H0 := H) (pins := pins) (σ := σ) Rw hh hSf hz (fun s' H' ts I' hold hl' hp hnew => ?_) rows.length 0 _ (upd H s.heap.objs.size (.lst [])) #[] c4 [] (by omega) (Nat.zero_le _) I4 ?_ (Rw.keep _ _ _ st fun b hb o e => keep4 b o e) hS4 rfl upd_same rfl .nil (fun t ht => by cases ht) (fun b o hb e => by rw [upd_ne hb]; exact e)
  · refine ⟨rfl, .ref _, H', I', rfl, hQ H' _ ts (fun b o e => hold b o (fun z => by rw [z, hn0] at e; cases e) e) hn0 (fun t ht => (hnew t ht).1) (fun hm => (hnew _ hm).2 rfl) hl' hp⟩
  · intro b hb
    have f := hf b hb
    refine ⟨?_, f.2⟩
    rw [upd_ne (fun e => hSf (by rw [← e]; exact hb))]
    exact f.1
end
section
variable {X : Cx} {e : Expr} {ts : TSrc} {nm : Str} {p0 pos p1 pos1 : Pos}
theorem pe_listPerm (hc : X.calm = true) (he : PSrc X e ts) (hg : Gl X nm) (hm : X.mg nm = some (.type "itertools.permutations")) (hdb : (nm == ("__debug__" : Str)) = false) (na : starEach [e] X.env = (false, eval e X.env) :: starEach [] X.env) (hgl : Gl X "list") (hml : X.mg "list" = none)
    (na2 : starEach [.Call (.Name nm p0) [e] [] pos] X.env = (false, eval (.Call (.Name nm p0) [e] [] pos) X.env) :: starEach [] X.env) :
    PE X (.Call (.Name "list" p1) [.Call (.Name nm p0) [e] [] pos] [] pos1) (fun σ H Q => ts σ H fun vs H1 => pmOk vs.length vs.length = true ∧ (pmL vs.length vs.length).length ≤ 2000 ∧ ListOk H1 ((pmL vs.length vs.length).map (pickW vs)) Q) := by
  refine ⟨fun pins s σ H Q I h => ?_⟩
  refine Call_ (ld_blt I hgl hml boot_list (PyProof.Rows.callWith_type1 (PyProof.Rows.args_cons (thn (mk_perm hc he hg hm hdb na I h) fun v s1 ⟨p, T, us, vs, H1, ev, I1, P, hne, hf, rv, hok, hz, q⟩ => PyProof.Rows.args_nil ?_) na2) na2))
  subst ev
  have hsz : us.size = vs.length := by rw [rv.length, Array.length_toList]
  have Rw := rowIt_perm (X := X) hne hok rv
  refine call_list_row Rw (I1.ok.hd hc) (by decide) (by decide) nolen_perm nohint_perm I1 hf ⟨P, P.pool⟩ (by rw [List.length_map, hsz]; exact hz) ?_
  rw [hsz]
  exact q
end
end J
namespace J
open PySem L2 PySem.Spec PyProof.Rows
section
variable {T : TC} {a b e : Expr} {e0 e1 : Env'} {pos p0 p p1 p2 pos1 : Pos} {K : PySem.W.Frag} {R C C' H : Hp} {σ : L2.St} {nm : Str} {α : Type} {enc : α → PyData}
/-- known things that may be asked for at once -/
def tQJ (K : PySem.W.Frag) (env env' : Env') (xs : List PyData) : TSrc := fun σ H Q => ∃ R C, EnvC K R C env σ H ∧ ∀ vs C' H', Ex C C' → EnvC K R C' env' σ H' → Rps K C' vs xs → Q vs H'
def JSrc (T : TC) (e : Expr) (env env' : Env') (xs : List PyData) : Prop := ∀ X, CT X T → PSrc X e (tQJ X.K env env' xs)
theorem jsrc_list {xs : List PyData} (h : JE T e e0 e1 (.b (.list xs))) (hl : xs.length ≤ 100) : JSrc T e e0 e1 xs := fun X hX pins s σ H Q I ⟨R, C, E, k⟩ =>
  src_list (h X hX) pins s σ H Q I ⟨R, C, E, fun v C1 H1 c1 E1 r1 => by
    obtain ⟨q, vs, rfl, h1, l1, r1⟩ := rb_lst E1 r1
    exact ⟨q, vs, rfl, SqL.of h1, by rw [r1.len]; exact hl, k vs C1 H1 c1 E1 r1⟩⟩
theorem jsrc_tup {xs : List PyData} (h : JE T e e0 e1 (.d (.tuple xs))) (hl : xs.length ≤ 100) : JSrc T e e0 e1 xs := fun X hX pins s σ H Q I ⟨R, C, E, k⟩ =>
  src_tup (h X hX) pins s σ H Q I ⟨R, C, E, fun v C1 H1 c1 E1 r1 => by
    cases r1 with
    | tup q l r =>
    exact ⟨_, _, rfl, E1.cH.t q, by rw [r.len]; exact hl, k _ C1 H1 c1 E1 r⟩⟩
theorem jsrc_rg1 {n : Int} (hg : glB T.sc "range" = true) (hm : T.mg "range" = none) (h : JE T e e0 e1 (.d (.int n))) (hn : -100 ≤ n ∧ n ≤ 100) (hs : ∀ v : Env, starEach [e] v = [(false, eval e v)] := by intro _; rfl) : JSrc T (.Call (.Name "range" p) [e] [] pos) e0 e1 ((rgI 0 n).map .int) := fun X hX pins s σ H Q I ⟨R, C, E, k⟩ =>
  src_rg (prg_1 (gl_of hX hg) (by rw [hX.mg]; exact hm) (h X hX) (hs X.env)) pins s σ H Q I ⟨R, C, E, fun v C1 H1 c1 E1 r1 => by
    cases r1
    obtain ⟨h1, h2⟩ := hn
    exact ⟨n, rfl, ⟨by omega, by omega⟩, ⟨by omega, by omega⟩, by omega, k _ C1 H1 c1 E1 (rgV_rgI 0 n)⟩⟩
theorem EnvC.tupN {env : Env'} {t : Addr} {vs : List V} {ds : List PyData} (E : EnvC K R C env σ H) (ht : H t = none) (l : vs.length ≤ LN) (r : Rps K C vs ds) :
    ∃ C2, Ex C C2 ∧ EnvC K R C2 env σ (upd H t (.tup vs)) ∧ (∀ D, (upd H t (.tup vs)) D = none → H D = none) ∧ (∀ D o, H D = some o → (upd H t (.tup vs)) D = some o) ∧ (∀ D o, H D = some o → C D = none → C2 D = none) ∧ Rp K C2 (.ref t) (.tuple ds) := by
  obtain ⟨c, E', r⟩ := E.freshT (ds := ds) ht l r
  refine ⟨_, c, E', fun D h => ?_, fun D o h => ?_, fun D o h hc => ?_, r⟩
  · by_cases q : D = t
    · subst q; rw [upd_same] at h; cases h
    · rw [upd_ne q] at h; exact h
  · rw [upd_ne (ne_of_none h ht)]; exact h
  · rw [upd_ne (ne_of_none h ht)]; exact hc
/-- all orders of these things -/
def perms [Inhabited α] (xs : List α) : List (List α) := (pmL xs.length xs.length).map fun ix => ix.map fun k => xs.getD k default
def permB (n : Nat) : Bool := pmOk n n && decide ((pmL n n).length ≤ 2000)
theorem rps_getD [Inhabited α] : ∀ {vs : List V} {xs : List α} {k : Nat}, Rps K C vs (xs.map enc) → k < xs.length → Rp K C (vs.getD k .non) (enc (xs.getD k default))
  | _, [], _, _, h => by simp at h
  | v :: vs, x :: xs, 0, r, _ => by cases r with | cons a b => simpa using a
  | v :: vs, x :: xs, k + 1, r, h => by
    cases r with
    | cons a b =>
      have := rps_getD b (show k < xs.length by simpa using h)
      simpa using this
theorem rps_pick [Inhabited α] {vs : List V} {xs : List α} (r : Rps K C vs (xs.map enc)) : ∀ {ix : List Nat}, (∀ k ∈ ix, k < xs.length) → Rps K C (pickW vs ix) ((ix.map fun k => xs.getD k default).map enc)
  | [], _ => .nil
  | k :: ix, h => .cons (rps_getD r (h k (by simp))) (rps_pick r fun j hj => h j (by simp [hj]))
theorem rows_rps [Inhabited α] {vs : List V} {xs : List α} (r : Rps K C vs (xs.map enc)) (c : Ex C C') : ∀ {ts : List Addr} {rs : List (List Nat)}, (∀ ix ∈ rs, ix.length ≤ LN ∧ ∀ k ∈ ix, k < xs.length) → Paired (fun t row => C' t = some (.tup row)) ts (rs.map (pickW vs)) → Rps K C' (ts.map V.ref) ((rs.map fun ix => ix.map fun k => xs.getD k default).map (eT enc))
  | [], [], _, .nil => .nil
  | [], _ :: _, _, h => by cases h
  | _ :: _, [], _, h => by cases h
  | t :: ts, ix :: rs, hb, .cons h0 ht => by
    obtain ⟨b1, b2⟩ := hb ix (by simp)
    refine .cons (.tup (.inl (.inl h0)) ?_ ((rps_pick r b2).mono c)) (rows_rps r c (fun jx hj => hb jx (by simp [hj])) ht)
    unfold pickW; rw [List.length_map]; exact b1
/-- many new tuples and the list of them -/
theorem listOk_o {rows : List (List V)} {Q : V → Hp → Prop} {d : PyData} (E : EnvC K R C e1 σ H) (hl : rows.length ≤ LN)
    (hd : ∀ (C' : Hp) (ts : List Addr), Ex C C' → Paired (fun t row => C' t = some (.tup row)) ts rows → ∃ ds, d = .list ds ∧ Rps K C' (ts.map V.ref) ds)
    (k : ∀ v C' H', Ex C C' → EnvC K R C' e1 σ H' → (∃ p, v = .ref p ∧ C' p = none ∧ R p = none ∧ NotOwn e1 σ p ∧ Ow K C' (H' p) d) → Q v H') : ListOk H rows Q := fun H' p ts k1 k2 k3 k4 k5 k6 => by
  have key : ∀ t ∈ ts, ∃ vs, H' t = some (.tup vs) := fun t ht => by
    obtain ⟨j, y, e1, e2, e3⟩ := LiI.paired_ix k6 ht
    exact ⟨_, e3⟩
  let O : Addr → HO := fun t => match H' t with
    | some (.tup vs) => .tup vs
    | _ => .tup []
  have hO : ∀ t ∈ ts, H' t = some (O t) := fun t ht => by
    obtain ⟨vs, e⟩ := key t ht
    show H' t = some (match H' t with | some (.tup vs) => .tup vs | _ => .tup [])
    rw [e]
  have hlk : ∀ t, lkO (O t) := fun t => by
    show lkO (match H' t with | some (.tup vs) => .tup vs | _ => .tup [])
    split <;> trivial
  obtain ⟨C', c', E', q1, q2⟩ := E.many ts H' O k1 k3 hO hlk
  have cp : C' p = none := by
    cases q : C' p with
    | none => rfl
    | some o =>
      rcases q2 p o q with z | z
      · rw [E.cN k2] at z; cases z
      · exact absurd z k4
  have pp : Paired (fun t row => C' t = some (.tup row)) ts rows := Paired.imp' (fun t ht row h => by rw [q1 t ht, ← hO t ht]; exact h) k6
  obtain ⟨ds, rfl, hr⟩ := hd C' ts c' pp
  refine k _ C' _ c' E' ⟨p, rfl, cp, E.rN k2, E.notOwn k2, ts.map V.ref, k5, ?_, hr⟩
  rw [List.length_map, Paired.length k6]; exact hl
theorem permB_rows {n : Nat} (h : permB n = true) : pmOk n n = true ∧ (pmL n n).length ≤ 2000 ∧ ∀ ix ∈ pmL n n, ix.length ≤ LN ∧ ∀ k ∈ ix, k < n := by
  unfold permB at h
  rw [Bool.and_eq_true] at h
  refine ⟨h.1, of_decide_eq_true h.2, fun ix hix => ?_⟩
  obtain ⟨i, hi⟩ := List.mem_iff_getElem?.mp hix
  obtain ⟨r1, r2, r3, r4⟩ := pm_rows h.1 hi
  exact ⟨by rw [r1]; show n ≤ 16777216; omega, r2⟩
theorem je_listPerm [Inhabited α] {xs : List α} (h : JSrc T e e0 e1 (xs.map enc)) (hok : permB xs.length = true) (hgl : glB T.sc "list" = true) (hml : T.mg "list" = none) (hg : glB T.sc nm = true) (hm : T.mg nm = some (.type "itertools.permutations")) (hdb : (nm == ("__debug__" : Str)) = false := by decide)
    (na : ∀ v : Env, starEach [e] v = (false, eval e v) :: starEach [] v := by intro _; rfl) (na2 : ∀ v : Env, starEach [.Call (.Name nm p0) [e] [] pos] v = (false, eval (.Call (.Name nm p0) [e] [] pos) v) :: starEach [] v := by intro _; rfl) :
    JE T (.Call (.Name "list" p1) [.Call (.Name nm p0) [e] [] pos] [] pos1) e0 e1 (.o (.list ((perms xs).map (eT enc)))) := fun X hX =>
  (pe_listPerm hX.calm (h X hX) (gl_of hX hg) (by rw [hX.mg]; exact hm) hdb (na X.env) (gl_of hX hgl) (by rw [hX.mg]; exact hml) (na2 X.env)).wk fun σ H Q ⟨R, C, E, k⟩ => by
    refine ⟨R, C, E, fun vs C1 H1 c1 E1 r1 => ?_⟩
    obtain ⟨o1, o2, o3⟩ := permB_rows hok
    have hl : vs.length = xs.length := by rw [r1.len, List.length_map]
    rw [hl]
    refine ⟨o1, o2, ?_⟩
    refine listOk_o E1 (by rw [List.length_map]; exact Nat.le_trans o2 (by decide)) (fun C' ts c' pp => ⟨_, rfl, rows_rps r1 c' o3 pp⟩) fun v C' H' c' E' hv => k v C' H' (c1.trans c') E' hv
theorem ji_perm [Inhabited α] {tg : Expr} {xs : List α} (h : JSrc T e e0 e1 (xs.map enc)) (hok : permB xs.length = true) (hg : glB T.sc nm = true) (hm : T.mg nm = some (.type "itertools.permutations")) (hdb : (nm == ("__debug__" : Str)) = false := by decide)
    (na : ∀ v : Env, starEach [e] v = (false, eval e v) :: starEach [] v := by intro _; rfl) :
    JI T tg (.Call (.Name nm p0) [e] [] pos) e0 e1 ((perms xs).map (eT enc)) := fun X hX =>
  (pi_perm hX.calm (h X hX) (gl_of hX hg) (by rw [hX.mg]; exact hm) hdb (na X.env)).wk fun σ H Rr' ⟨R, C, E, k⟩ => ⟨R, C, E, fun vs C1 H1 c1 E1 r1 => by
    obtain ⟨o1, o2, o3⟩ := permB_rows hok
    have hl : vs.length = xs.length := by rw [r1.len, List.length_map]
    rw [hl]
    refine ⟨o1, ?_⟩
    have hlen : ((perms xs).map (eT enc)).length = (pmL xs.length xs.length).length := by unfold perms; simp
    refine k _ C1 H1 c1 E1 (by rw [hlen]; exact Nat.le_trans o2 (by decide)) fun C2 env σ H2 c2 E2 => ⟨by rw [hlen]; show _ = ((pmL xs.length xs.length).map _).length; rw [List.length_map], fun i d hd => ?_⟩
    unfold perms at hd
    rw [List.map_map, List.getElem?_map] at hd
    obtain ⟨ix, hix, rfl⟩ := Option.map_eq_some_iff.mp hd
    refine ⟨by show i < ((pmL xs.length xs.length).map _).length; rw [List.length_map]; exact (List.getElem?_eq_some_iff.mp hix).1, fun x H3 hy => ?_⟩
    obtain ⟨t, row, rfl, ht, rfl, hrow⟩ := hy
    rw [List.getElem?_map, hix] at hrow
    cases hrow
    obtain ⟨b1, b2⟩ := o3 ix (List.mem_of_getElem? hix)
    exact E2.tupN ht (by unfold pickW; rw [List.length_map]; exact b1) ((rps_pick r1 b2).mono c2)⟩
end
end J
namespace J
open PySem L2 PySem.Spec PyProof.Rows
section
variable {T : TC} {e : Expr} {e0 e1 : Env'} {pos p0 p p1 p2 pos1 : Pos} {nm : Str} {α : Type} {enc : α → PyData}
theorem permB_le {n : Nat} (h : permB n = true) : n ≤ 100 := by
  unfold permB pmOk at h
  simp only [Bool.and_eq_true] at h
  exact of_decide_eq_true h.1.2.1
theorem jsrc_listP {xs : List α} (h : JE T e e0 e1 (.b (.list (xs.map enc)))) (hl : permB xs.length = true) : JSrc T e e0 e1 (xs.map enc) := jsrc_list h (by rw [List.length_map]; exact permB_le hl)
theorem jsrc_tupP {xs : List α} (h : JE T e e0 e1 (.d (.tuple (xs.map enc)))) (hl : permB xs.length = true) : JSrc T e e0 e1 (xs.map enc) := jsrc_tup h (by rw [List.length_map]; exact permB_le hl)
theorem jsrc_rgP {n : Int} (hg : glB T.sc "range" = true) (hm : T.mg "range" = none) (h : JE T e e0 e1 (.d (.int n))) (hn : rg1 n) (hl : permB (rgI 0 n).length = true) (hs : ∀ v : Env, starEach [e] v = [(false, eval e v)] := by intro _; rfl) : JSrc T (.Call (.Name "range" p) [e] [] pos) e0 e1 ((rgI 0 n).map .int) := fun X hX pins s σ H Q I ⟨R, C, E, k⟩ =>
  src_rg (prg_1 (gl_of hX hg) (by rw [hX.mg]; exact hm) (h X hX) (hs X.env)) pins s σ H Q I ⟨R, C, E, fun v C1 H1 c1 E1 r1 => by
    cases r1
    obtain ⟨h1, h2⟩ := hn
    have hl := permB_le hl
    rw [rgI_len] at hl
    exact ⟨n, rfl, ⟨by omega, by omega⟩, ⟨by omega, by omega⟩, by omega, k _ C1 H1 c1 E1 (rgV_rgI 0 n)⟩⟩
end
end J
namespace J
open PySem L2 PySem.Spec PyProof.Rows
section
variable {T : TC} {a b e : Expr} {e0 e1 e2 : Env'} {pos : Pos} {α : Type} {enc : α → PyData}
/-- the thing at a place of the first part of a tuple, all of one kind -/
theorem je_ixPre [Inhabited α] {as : List α} {rest : List PyData} {i : Int} (h : JE2 T a b e0 e2 (.tuple (as.map enc ++ rest)) (.int i)) (hr : 0 ≤ i ∧ i < as.length) (hs : PlainIx b := by intro _ _; rfl) : JE T (.Subscript a b pos) e0 e2 (.d (enc (gI as i))) := by
  refine je_ixT h ?_ hs
  obtain ⟨k, rfl⟩ : ∃ k : Nat, i = (k : Int) := ⟨i.toNat, by omega⟩
  have hk : k < as.length := by omega
  unfold atI ixN
  rw [if_pos (by omega), if_pos (by rw [List.length_append, List.length_map]; omega)]
  show (as.map enc ++ rest)[((k : Int)).toNat]? = _
  rw [Int.toNat_natCast, List.getElem?_append_left (by simpa using hk), List.getElem?_map, gI_nat, List.getElem?_eq_getElem hk]
  simp [List.getD, hk]
/-- a tuple of known length as one of places -/
theorem je_fix3 [Inhabited α] {xs : List α} (h : JE T e e0 e1 (.d (.tuple (xs.map enc)))) (hl : xs.length = 3) : JE T e e0 e1 (.d (eP3 enc enc enc (gI xs 0, gI xs 1, gI xs 2))) := by
  match xs, hl with
  | [x, y, z], _ => exact h
end
end J
namespace J
open PySem L2 PySem.Spec PyProof.Rows
open Builtin.Itertools (itPoolItems itIntField itNumbersFrom itSetNumbersFrom itStop itClassAndRest itBindNamed itNewRecord itSsizeArg itTooMany)
/-! ### combinations: facts -/
theorem slot_comb_next : Slot "itertools.combinations" "__next__" "itertools.combinations.__next__" :=
  .of (owner := "itertools.combinations") (n := "__next__") (by rw [typeLookup_type, builtinLookup_eq_fast]; kernel_rfl) (by decide +kernel) (by decide +kernel) (by decide +kernel)
    (by first | exact .inl (by decide +kernel) | exact .inr (by decide +kernel)) (by rw [isSubtype_type]; kernel_rfl)
theorem slot_comb_iter : Slot "itertools.combinations" "__iter__" "itertools.combinations.__iter__" :=
  .of (owner := "itertools.combinations") (n := "__iter__") (by rw [typeLookup_type, builtinLookup_eq_fast]; kernel_rfl) (by decide +kernel) (by decide +kernel) (by decide +kernel)
    (by first | exact .inl (by decide +kernel) | exact .inr (by decide +kernel)) (by rw [isSubtype_type]; kernel_rfl)
theorem slot_comb_init : Slot "itertools.combinations" "__init__" "object.__init__" :=
  .of (owner := "object") (n := "__init__") (by rw [typeLookup_type, builtinLookup_eq_fast]; kernel_rfl) (by decide +kernel) (by decide +kernel) (by decide +kernel)
    (by first | exact .inl (by decide +kernel) | exact .inr (by decide +kernel)) (by rw [isSubtype_type]; kernel_rfl)
theorem entry_comb_next : entryFor table "itertools.combinations.__next__" = some Builtin.«itertools.combinations.__next__» := entryFor_of_tree (by kernel_rfl)
theorem entry_comb_new : entryFor table "itertools.combinations.__new__" = some Builtin.«itertools.combinations.__new__» := entryFor_of_tree (by kernel_rfl)
theorem entry_comb_iter : entryFor table "itertools.combinations.__iter__" = some Builtin.«dict_keyiterator.__iter__» :=
  entryFor_alias (id' := "dict_keyiterator.__iter__") (by kernel_rfl) (by first | rfl | decide +kernel | (unfold String.splitOn; simp +decide [String.splitOnAux])) (by decide +kernel) (by kernel_rfl)
theorem mro_comb : mroOf (.type "itertools.combinations") = pure [.type "itertools.combinations", .type "object"] := by rw [mroOf_type]; kernel_rfl
theorem lookup_comb_new : typeLookup (.type "itertools.combinations") "__new__" = pure (some (.builtin "itertools.combinations.__new__")) := by rw [typeLookup_type, builtinLookup_eq_fast]; kernel_rfl
theorem called_comb : TypeCalled "itertools.combinations" "itertools.combinations.__new__" "object.__init__" :=
  ⟨by decide +kernel, by decide +kernel, ⟨_, _, mro_comb⟩, madeBy_type mro_comb lookup_comb_new (by decide +kernel), by decide +kernel, by rw [isSubtype_type]; kernel_rfl, slot_comb_init⟩
theorem typeCall_comb (a b : Value) : checkTypeCall "itertools.combinations" ⟨[a, b], []⟩ = pure () := by kernel_rfl
theorem newCall_comb (a b : Value) : checkBuiltinCall "itertools.combinations.__new__" ⟨[.type "itertools.combinations", a, b], []⟩ = pure () := by kernel_rfl
theorem args_comb_next (a : Value) : argsOk "itertools.combinations.__next__" ⟨[a], []⟩ := by unfold argsOk; kernel_rfl
theorem args_comb_iter (a : Value) : argsOk "itertools.combinations.__iter__" ⟨[a], []⟩ := by unfold argsOk; kernel_rfl
theorem nolen_comb : typeLookup (.type "itertools.combinations") "__len__" = pure none := by rw [typeLookup_type, builtinLookup_eq_fast]; kernel_rfl
theorem nohint_comb : typeLookup (.type "itertools.combinations") "__length_hint__" = pure none := by rw [typeLookup_type, builtinLookup_eq_fast]; kernel_rfl
theorem sub_comb : isSubtype (.type "itertools.combinations") (.type "itertools.combinations") = pure true := by rw [isSubtype_type]; kernel_rfl
theorem ty_comb : isType (.type "itertools.combinations") = pure true := by first | rfl | kernel_rfl | (unfold isType; rw [isSubtype_type]; kernel_rfl)
theorem dict_comb : typeHasDict (.type "itertools.combinations") = false := by decide +kernel
/-! ### the next combination -/
abbrev NC := Nat → List Nat → Option (List Nat)
def cOut (self pool : Value) (ix : List Nat) : Sem Fin :=
  (itPoolItems pool >>= fun items => newTuple (ix.map fun i => items.getD i .none)) >>= fun t => field self 2 >>= fun b => setField self 2 t >>= fun _ => letGo [b] [t] >>= fun _ => ret t
def cStep (nc : NC) (self pool : Value) (ks : List Nat) (st : Int) : Sem Fin := match st with
  | 0 => setField self 1 (rawInt 1) >>= fun _ => cOut self pool ks
  | 1 => itPoolItems pool >>= fun items => match nc items.size ks with
    | some nx => itSetNumbersFrom self 3 nx >>= fun _ => cOut self pool nx
    | none => setField self 1 (rawInt 2) >>= fun _ => itStop
  | _ => rule "itertools.combinations.ended" >>= fun _ => itStop
def ncF (n : Nat) (ix : List Nat) : Option (List Nat) :=
  ((List.range ix.length).reverse.find? fun i => decide (¬ ix.getD i 0 = i + n - ix.length)).map fun i => ix.take i ++ (List.range (ix.length - i)).map fun j => ix.getD i 0 + 1 + j
theorem comb_form : ∃ nc : NC, (∀ n ix, nc n ix = ncF n ix) ∧ ∀ args, Builtin.«itertools.combinations.__next__» args = (slotArgs "__next__" 0 args >>= fun x => match x with
    | (self, _) => field self 0 >>= fun pool => itNumbersFrom self 3 >>= fun ks => itIntField self 1 >>= fun st => cStep nc self pool ks st) := by
  refine ⟨_, ?_, fun args => rfl⟩
  intro n ix
  unfold ncF
  have e : (fun i => decide (¬ ix.getD i 0 = i + n - ix.length)) = fun i => ix.getD i 0 != i + n - ix.length := by
    funext i
    rw [Bool.eq_iff_iff]
    simp
  rw [e]
  show (match (List.range ix.length).reverse.find? (fun i => ix.getD i 0 != i + n - ix.length) with | none => none | some i => _) = _
  cases (List.range ix.length).reverse.find? (fun i => ix.getD i 0 != i + n - ix.length) with
  | none => rfl
  | some i => rfl
/-! ### its object -/
def cObj (T : Addr) (st : Int) (last : Value) (ks : List Nat) : Obj :=
  { cls := .type "itertools.combinations", data := .fields (.ref T :: rawInt st :: last :: rwN ks).toArray }
section
variable {prog : Program} {w : World} {A : Around} {E : Value → Shared → Prop} {s : Shared} {p T : Addr} {us : Array Value} {st : Int} {last : Value} {ks ix : List Nat}
theorem wp_cOut {m : Nat} {Q : Value → Shared → Prop} (hp : s.heap.get? p = some (cObj T st last ks)) (hT : ∃ o, s.heap.get? T = some o ∧ o.data = .seq us m) (hz : ix.length ≤ sizeLine)
    (hQ : ∀ h', h'.get? p = some (cObj T st (.ref s.heap.objs.size) ks) → h'.get? s.heap.objs.size = some { cls := .type "tuple", data := .seq (pickV us ix).toArray } → h'.objs.size = s.heap.objs.size + 1 →
      (∀ c o, c ≠ p → s.heap.get? c = some o → h'.get? c = some o) → Q (.ref s.heap.objs.size) { s with heap := h' }) :
    wpAny (model prog w) A (cOut (.ref p) (.ref T) ix) (fun fin s' => ∃ v, fin = .done (.ret v) ∧ Q v s') E s := by
  have hlt : p < s.heap.objs.size := Heap.lt_size hp
  obtain ⟨o, ho, hd⟩ := hT
  unfold cOut itPoolItems
  refine wpAny_bind (wpAny_bind (wpAny_bind (wpAny_seqItems ho hd ?_)))
  refine wpAny_pure ?_
  refine wpAny_newTuple ?_ (by rw [List.length_map]; exact hz)
  have hp1 : (s.heap.push { cls := .type "tuple", data := .seq (pickV us ix).toArray }).get? p = some (cObj T st last ks) := Heap.get?_push_of_some _ hp
  refine wpAny_bind (wpAny_field hp1 rfl (x := last) (by simp) ?_)
  refine wpAny_bind (wpAny_setField_rec hp1 (by simp) fun h' hp2 sb => ?_)
  refine wpAny_bind (wpAny_letGo ?_)
  refine wpAny_pure ⟨_, rfl, hQ h' ?_ ?_ ?_ ?_⟩
  · rw [hp2]; unfold cObj; simp
  · exact sb.extBut _ _ (Nat.ne_of_gt hlt) (Heap.get?_push_size _ rfl)
  · rw [sb.1, Heap.size_push]
  · exact fun c o hc e => sb.extBut _ _ hc (Heap.get?_push_of_some _ e)
theorem wp_cHead {nc : NC} {Q : Fin → Shared → Prop} (hp : s.heap.get? p = some (cObj T st last ks))
    (h : wpAny (model prog w) A (cStep nc (.ref p) (.ref T) ks st) Q E s) : wpAny (model prog w) A (slotArgs "__next__" 0 ⟨[.ref p], []⟩ >>= fun x => match x with
    | (self, _) => field self 0 >>= fun pool => itNumbersFrom self 3 >>= fun ks => itIntField self 1 >>= fun st => cStep nc self pool ks st) Q E s := by
  show wpAny _ _ (field (.ref p) 0 >>= _) _ _ _
  refine wpAny_bind (wpAny_field hp rfl (x := .ref T) (by simp) ?_)
  unfold itNumbersFrom
  refine wpAny_bind (wpAny_bind (wpAny_load hp ?_))
  refine wpAny_pure ?_
  unfold itIntField
  refine wpAny_bind (wpAny_bind (wpAny_field hp rfl (x := rawInt st) (by simp) ?_))
  refine wpAny_pure ?_
  have e : ((((.ref T :: rawInt st :: last :: rwN ks).toArray : Array Value).toList.drop 3).map fun v => match v with | .int n _ => n.toNat | _ => 0) = ks := by
    rw [List.toList_toArray]
    exact rwN_back ks
  show wpAny _ _ (cStep nc (.ref p) (.ref T) ((((.ref T :: rawInt st :: last :: rwN ks).toArray : Array Value).toList.drop 3).map fun v => match v with | .int n _ => n.toNat | _ => 0) st) _ _ _
  rw [e]
  exact h
theorem wp_cSet {new : List Nat} {Q : Unit → Shared → Prop} (hp : s.heap.get? p = some (cObj T st last ks)) (hz : new.length ≤ 300)
    (hQ : ∀ h', h'.get? p = some (cObj T st last new) → Heap.SameBut p s.heap h' → Q () { s with heap := h' }) : wpAny (model prog w) A (itSetNumbersFrom (.ref p) 3 new) Q E s := by
  unfold itSetNumbersFrom
  show wpAny _ _ (updateFields p _) _ _ _
  have e : ((.ref T :: rawInt st :: last :: rwN ks).toArray : Array Value).extract 0 3 ++ (new.map fun (n : Nat) => rawInt n).toArray = (.ref T :: rawInt st :: last :: rwN new).toArray := by
    simp [rwN]
  refine wpAny_updateFields hp rfl ?_ ?_
  · refine hQ _ ?_ (Heap.SameBut.update ..)
    rw [Heap.get?_update_self _ hp rfl]
    unfold cObj Obj.mapFields
    simp only [e]
  · show (((.ref T :: rawInt st :: last :: rwN ks).toArray : Array Value).extract 0 3 ++ (new.map fun (n : Nat) => rawInt n).toArray).size ≤ _
    rw [e, List.size_toArray]
    simp only [List.length_cons, rwN, List.length_map]
    exact Nat.le_trans (show _ ≤ 303 by omega) (by decide)
end
/-! ### all combinations, by places -/
def cmRun (n : Nat) : Nat → List Nat → List (List Nat)
  | 0, _ => []
  | f + 1, q => q :: (match ncF n q with
    | some q' => cmRun n f q'
    | none => [])
def cmChk (n : Nat) : Nat → List Nat → Bool
  | 0, _ => false
  | f + 1, q => q.all (fun k => decide (k < n)) && (decide (q.length ≤ 100) && match ncF n q with
    | some q' => cmChk n f q'
    | none => true)
def cmL (n r : Nat) : List (List Nat) := if n < r then [] else cmRun n 1000 (List.range r)
def cmOk (n r : Nat) : Bool := decide (r ≤ 100) && (decide (n ≤ 100) && (decide (n < r) || cmChk n 1000 (List.range r)))
def cmS (n : Nat) (q : List Nat) : Nat → Option (List Nat)
  | 0 => some q
  | i + 1 => (cmS n q i).bind fun q => ncF n q
theorem cmS_shift (n : Nat) (q q' : List Nat) (h : ncF n q = some q') : ∀ i, cmS n q (i + 1) = cmS n q' i
  | 0 => h
  | i + 1 => by rw [cmS, cmS_shift n q q' h i]; rfl
theorem cm_facts (n : Nat) : ∀ (f : Nat) (q : List Nat), cmChk n f q = true →
    (∀ i, i < (cmRun n f q).length → ∃ a, cmS n q i = some a ∧ a.length ≤ 100 ∧ (∀ k ∈ a, k < n) ∧ (cmRun n f q)[i]? = some a) ∧ 0 < (cmRun n f q).length ∧ (∀ a, cmS n q ((cmRun n f q).length - 1) = some a → ncF n a = none) ∧ (cmRun n f q).length ≤ f
  | 0, q, h => by cases h
  | f + 1, q, h => by
    rw [cmChk, Bool.and_eq_true, Bool.and_eq_true] at h
    obtain ⟨h3, h1, h4⟩ := h
    have h1 := of_decide_eq_true h1
    rw [List.all_eq_true] at h3
    have h3' : ∀ k ∈ q, k < n := fun k hk => of_decide_eq_true (h3 k hk)
    cases hs : ncF n q with
    | none =>
      rw [cmRun, hs]
      refine ⟨fun i hi => ?_, by simp, fun a ha => ?_, by simp⟩
      · have : i = 0 := by simpa using hi
        subst this
        exact ⟨q, rfl, h1, h3', rfl⟩
      · have ha : some q = some a := ha
        cases ha; exact hs
    | some q' =>
      rw [hs] at h4
      obtain ⟨a1, a2, a3, a4⟩ := cm_facts n f q' h4
      rw [cmRun, hs]
      refine ⟨fun i hi => ?_, by simp, fun a ha => ?_, by simp; omega⟩
      · cases i with
        | zero => exact ⟨q, rfl, h1, h3', rfl⟩
        | succ i =>
          obtain ⟨a, b1, b2, b3, b4⟩ := a1 i (by simpa using hi)
          exact ⟨a, by rw [cmS_shift n q q' hs]; exact b1, b2, b3, b4⟩
      · refine a3 a ?_
        rw [← ha]
        simp only [List.length_cons, Nat.add_sub_cancel]
        have : (cmRun n f q').length = ((cmRun n f q').length - 1) + 1 := by omega
        conv => rhs; rw [this]
        rw [cmS_shift n q q' hs]
theorem cm_len {n r : Nat} (h : cmOk n r = true) : (cmL n r).length ≤ 1000 := by
  unfold cmL
  split
  · simp
  · rename_i hr
    unfold cmOk at h
    simp only [Bool.and_eq_true, Bool.or_eq_true, decide_eq_true_eq] at h
    rcases h.2.2 with h | h
    · exact absurd h hr
    · exact (cm_facts n 1000 _ h).2.2.2
theorem cm_rows {n r i : Nat} {row : List Nat} (hok : cmOk n r = true) (hi : (cmL n r)[i]? = some row) : row.length ≤ 100 ∧ (∀ k ∈ row, k < n) ∧ ¬ n < r ∧ cmS n (List.range r) i = some row := by
  unfold cmOk at hok
  simp only [Bool.and_eq_true, Bool.or_eq_true, decide_eq_true_eq] at hok
  unfold cmL at hi
  split at hi
  · simp at hi
  · rename_i hr
    rcases hok.2.2 with h | h
    · exact absurd h hr
    · obtain ⟨f1, _, _⟩ := cm_facts n 1000 _ h
      obtain ⟨a, a1, a2, a3, a4⟩ := f1 i (List.getElem?_eq_some_iff.mp hi).1
      rw [hi] at a4
      cases a4
      exact ⟨a2, a3, hr, a1⟩
theorem cm_end {n r j : Nat} {b : List Nat} (hok : cmOk n r = true) (hr : ¬ n < r) (hj : j + 1 = (cmL n r).length) (hb : cmS n (List.range r) j = some b) : ncF n b = none := by
  unfold cmOk at hok
  simp only [Bool.and_eq_true, Bool.or_eq_true, decide_eq_true_eq] at hok
  unfold cmL at hj
  rw [if_neg hr] at hj
  rcases hok.2.2 with h | h
  · exact absurd h hr
  · obtain ⟨_, _, f3, _⟩ := cm_facts n 1000 _ h
    refine f3 b ?_
    rw [← hj, Nat.add_sub_cancel]; exact hb
theorem cm_pos {n r : Nat} (hok : cmOk n r = true) (hr : ¬ n < r) : 0 < (cmL n r).length := by
  unfold cmOk at hok
  simp only [Bool.and_eq_true, Bool.or_eq_true, decide_eq_true_eq] at hok
  unfold cmL
  rw [if_neg hr]
  rcases hok.2.2 with h | h
  · exact absurd h hr
  · exact (cm_facts n 1000 _ h).2.1
/-! ### one turn -/
structure ComAt (h : Heap) (p T : Addr) (us : Array Value) (r : Nat) (i : Nat) : Prop where
  pool : ∃ o m, h.get? T = some o ∧ o.data = .seq us m
  com : ∃ last, (us.size < r ∧ h.get? p = some (cObj T 2 last (List.range r))) ∨ (¬ us.size < r ∧ i = 0 ∧ h.get? p = some (cObj T 0 last (List.range r))) ∨ (¬ us.size < r ∧ ∃ j a, i = j + 1 ∧ cmS us.size (List.range r) j = some a ∧ h.get? p = some (cObj T 1 last a))
section
variable {prog : Program} {w : World} {A : Around} {E : Value → Shared → Prop} {s : Shared} {p T : Addr} {us : Array Value} {r i : Nat} {row : List Nat}
theorem ComAt.cls {h : Heap} (P : ComAt h p T us r i) : ∃ o vs, h.get? p = some o ∧ o.cls = .type "itertools.combinations" ∧ o.data = .fields vs := by
  obtain ⟨last, ⟨_, e⟩ | ⟨_, _, e⟩ | ⟨_, _, _, _, _, e⟩⟩ := P.com
  · exact ⟨_, _, e, rfl, rfl⟩
  · exact ⟨_, _, e, rfl, rfl⟩
  · exact ⟨_, _, e, rfl, rfl⟩
theorem ComAt.keep {h h' : Heap} (P : ComAt h p T us r i) (k : ∀ b ∈ [p, T], ∀ o, h.get? b = some o → h'.get? b = some o) : ComAt h' p T us r i := by
  obtain ⟨⟨o, m, e, d⟩, last, q⟩ := P
  refine ⟨⟨o, m, k T (by simp) _ e, d⟩, last, ?_⟩
  rcases q with ⟨a, e⟩ | ⟨a, b, e⟩ | ⟨a, j, q, b, c, e⟩
  · exact .inl ⟨a, k p (by simp) _ e⟩
  · exact .inr (.inl ⟨a, b, k p (by simp) _ e⟩)
  · exact .inr (.inr ⟨a, j, q, b, c, k p (by simp) _ e⟩)
theorem com_item {Q : Value → Shared → Prop} (hok : cmOk us.size r = true) (P : ComAt s.heap p T us r i) (hne : T ≠ p) (hi : (cmL us.size r)[i]? = some row)
    (hQ : ∀ h', ComAt h' p T us r (i + 1) → h'.get? s.heap.objs.size = some { cls := .type "tuple", data := .seq (pickV us row).toArray } → h'.objs.size = s.heap.objs.size + 1 →
      (∀ c o, c ≠ p → s.heap.get? c = some o → h'.get? c = some o) → Q (.ref s.heap.objs.size) { s with heap := h' }) :
    wpAny (model prog w) A (Builtin.«itertools.combinations.__next__» ⟨[.ref p], []⟩) (fun fin s' => ∃ v, fin = .done (.ret v) ∧ Q v s') E s := by
  obtain ⟨nc, hnc, form⟩ := comb_form
  rw [form]
  obtain ⟨r1, r2, r3, r4⟩ := cm_rows hok hi
  obtain ⟨⟨o, m, ho, hd⟩, last, q⟩ := P
  have fin : ∀ (h1 : Heap) (last : Value), h1.get? p = some (cObj T 1 last row) → Heap.SameBut p s.heap h1 →
      wpAny (model prog w) A (cOut (.ref p) (.ref T) row) (fun fin s' => ∃ v, fin = .done (.ret v) ∧ Q v s') E { s with heap := h1 } := fun h1 last hp sb => by
    refine wp_cOut (s := { s with heap := h1 }) hp ⟨o, sb.extBut _ _ hne ho, hd⟩ (Nat.le_trans r1 (by decide)) fun h2 g1 g2 g3 g4 => ?_
    have e : h1.objs.size = s.heap.objs.size := sb.1
    show Q (.ref h1.objs.size) _
    have g2 : h2.get? h1.objs.size = _ := g2
    have g3 : h2.objs.size = h1.objs.size + 1 := g3
    rw [e] at g2 g3 ⊢
    refine hQ h2 ⟨⟨o, m, g4 _ _ hne (sb.extBut _ _ hne ho), hd⟩, _, .inr (.inr ⟨r3, i, row, rfl, r4, g1⟩)⟩ g2 g3 fun c o hc q => g4 _ _ hc (sb.extBut _ _ hc q)
  rcases q with ⟨a, _⟩ | ⟨_, rfl, hp⟩ | ⟨_, j, b, rfl, hb, hp⟩
  · exact absurd a r3
  · refine wp_cHead hp ?_
    have ea : row = List.range r := by
      have r4 : some (List.range r) = some row := r4
      exact (Option.some.inj r4).symm
    unfold cStep
    refine wpAny_bind (wpAny_setField_rec hp (by simp) fun h1 hp1 sb => ?_)
    have hp1' : h1.get? p = some (cObj T 1 last row) := by
      rw [hp1, ea]; unfold cObj; simp
    rw [← ea]
    exact fin h1 last hp1' sb
  · refine wp_cHead hp ?_
    have hj : cmS us.size (List.range r) (j + 1) = ncF us.size b := by rw [cmS, hb]; rfl
    have e3 : nc us.size b = some row := by rw [hnc, ← hj, r4]
    unfold cStep
    show wpAny _ _ (itPoolItems (.ref T) >>= fun items => match nc items.size b with
      | some nx => itSetNumbersFrom (.ref p) 3 nx >>= fun _ => cOut (.ref p) (.ref T) nx
      | none => setField (.ref p) 1 (rawInt 2) >>= fun _ => itStop) _ _ _
    unfold itPoolItems
    refine wpAny_bind (wpAny_bind (wpAny_seqItems ho hd ?_))
    refine wpAny_pure ?_
    rw [e3]
    show wpAny _ _ (itSetNumbersFrom (.ref p) 3 row >>= fun _ => cOut (.ref p) (.ref T) row) _ _ _
    refine wpAny_bind (wp_cSet hp (by omega) fun h1 hp1 sb => ?_)
    exact fin h1 last hp1 sb
theorem com_end {Q : Fin → Shared → Prop} (hh : A.handled = none) (hok : cmOk us.size r = true) (P : ComAt s.heap p T us r i) (hi : i = (cmL us.size r).length)
    (hE : ∀ h' e, (∀ c o, c ≠ p → s.heap.get? c = some o → h'.get? c = some o) → (∃ o, h'.get? e = some o ∧ o.cls = .type "StopIteration") → E (.ref e) { s with heap := h' }) :
    wpAny (model prog w) A (Builtin.«itertools.combinations.__next__» ⟨[.ref p], []⟩) Q E s := by
  obtain ⟨nc, hnc, form⟩ := comb_form
  rw [form]
  obtain ⟨⟨o, m, ho, hd⟩, last, q⟩ := P
  rcases q with ⟨a, hp⟩ | ⟨a, rfl, hp⟩ | ⟨a, j, b, rfl, hb, hp⟩
  · refine wp_cHead hp ?_
    unfold cStep
    show wpAny _ _ (rule "itertools.combinations.ended" >>= fun _ => itStop) _ _ _
    refine wpAny_bind (wpAny_rule ?_)
    exact wp_stop hh fun h2 e k he => hE h2 e (fun c o _ q => k _ _ q) he
  · have := cm_pos hok a
    omega
  · refine wp_cHead hp ?_
    have e3 : nc us.size b = none := by rw [hnc]; exact cm_end hok a hi hb
    unfold cStep
    show wpAny _ _ (itPoolItems (.ref T) >>= fun items => match nc items.size b with
      | some nx => itSetNumbersFrom (.ref p) 3 nx >>= fun _ => cOut (.ref p) (.ref T) nx
      | none => setField (.ref p) 1 (rawInt 2) >>= fun _ => itStop) _ _ _
    unfold itPoolItems
    refine wpAny_bind (wpAny_bind (wpAny_seqItems ho hd ?_))
    refine wpAny_pure ?_
    rw [e3]
    show wpAny _ _ (setField (.ref p) 1 (rawInt 2) >>= fun _ => itStop) _ _ _
    refine wpAny_bind (wpAny_setField_rec hp (by simp) fun h1 hp1 sb => ?_)
    exact wp_stop (s := { s with heap := h1 }) hh fun h2 e k he => hE h2 e (fun c o hc q => k _ _ (sb.extBut _ _ hc q)) he
theorem pyNext_com_item {Q : Option Value → Shared → Prop} (hok : cmOk us.size r = true) (P : ComAt s.heap p T us r i) (hne : T ≠ p) (hi : (cmL us.size r)[i]? = some row)
    (hQ : ∀ h', ComAt h' p T us r (i + 1) → h'.get? s.heap.objs.size = some { cls := .type "tuple", data := .seq (pickV us row).toArray } → h'.objs.size = s.heap.objs.size + 1 →
      (∀ c o, c ≠ p → s.heap.get? c = some o → h'.get? c = some o) → Q (some (.ref s.heap.objs.size)) { s with heap := h' }) : wpAny (model prog w) A (pyNext (.ref p)) Q E s := by
  obtain ⟨o, vs, ho, hc, hd⟩ := P.cls
  have hT : s.TypeIs (.ref p) "itertools.combinations" := ⟨o, ho, hc⟩
  unfold pyNext
  exact wpAny_bind (wpAny_attempt (wpAny_callSpecial?_slot (name := Str.ofString "__next__") hT slot_comb_next
    (wpAny_call_entry slot_comb_next hT entry_comb_next
      (com_item hok P hne hi fun h' a1 a2 a3 a4 => wpAny_pure (hQ h' a1 a2 a3 a4)) (args_comb_next _))))
theorem pyNext_com_end {Q : Option Value → Shared → Prop} (hh : A.handled = none) (hok : cmOk us.size r = true) (P : ComAt s.heap p T us r i) (hi : i = (cmL us.size r).length)
    (hQ : ∀ h', (∀ c o, c ≠ p → s.heap.get? c = some o → h'.get? c = some o) → Q none { s with heap := h' }) : wpAny (model prog w) A (pyNext (.ref p)) Q E s := by
  obtain ⟨o, vs, ho, hc, hd⟩ := P.cls
  have hT : s.TypeIs (.ref p) "itertools.combinations" := ⟨o, ho, hc⟩
  unfold pyNext
  refine wpAny_bind (wpAny_attempt (wpAny_callSpecial?_slot (name := Str.ofString "__next__") hT slot_comb_next
    (wpAny_call_entry slot_comb_next hT entry_comb_next (com_end hh hok P hi fun h' e hk he => ?_) (args_comb_next _))))
  obtain ⟨o, ho, hc⟩ := he
  refine wpAny_bind (wpAny_isInstance (T := "StopIteration") (b := true) ⟨o, ho, hc⟩ isSubtype_stop ?_)
  exact wpAny_pure (hQ _ hk)
theorem pyIter_com {Q : Value → Shared → Prop} (P : ComAt s.heap p T us r i) (h : Q (.ref p) s) : wpAny (model prog w) A (pyIter (.ref p)) Q E s := by
  obtain ⟨o, vs, ho, hc, hd⟩ := P.cls
  have hT : s.TypeIs (.ref p) "itertools.combinations" := ⟨o, ho, hc⟩
  refine wpAny_pyIter_slot hT slot_comb_iter (wpAny_call_entry slot_comb_iter hT entry_comb_iter ?_ (args_comb_iter _))
  show wpAny _ _ (ret (.ref p)) _ _ s
  exact wpAny_pure ⟨_, rfl, "itertools.combinations", _, hT, slot_comb_next.lookup, h⟩
end
theorem rowIt_comb {X : Cx} {p T : Addr} {us : Array Value} {vs : List V} {r : Nat} (hne : T ≠ p) (hok : cmOk us.size r = true) (rv : Vals vs us.toList) :
    RowIt X "itertools.combinations" p [p, T] ((cmL us.size r).map (pickW vs)) (fun i h => ComAt h p T us r i ∧ ∃ o m, h.get? T = some o ∧ o.data = .seq us m) where
  mem := by simp
  live := fun i h st b hb => by
    obtain ⟨P, o, m, ho, hd⟩ := st
    obtain ⟨o2, vs2, ho2, hc2, hd2⟩ := P.cls
    have e' : b = p ∨ b = T := by simpa using hb
    rcases e' with rfl | rfl
    · exact ⟨_, ho2⟩
    · exact ⟨_, ho⟩
  keep := fun i h h' st k => by
    obtain ⟨P, o, m, ho, hd⟩ := st
    exact ⟨P.keep k, o, m, k T (by simp) _ ho, hd⟩
  typ := fun i h st => st.1.cls
  iter := fun A E s i Q st h => pyIter_com st.1 h
  step := fun A E pins σ H s i row Q I hf st hi hQ => by
    obtain ⟨P, o, m, ho, hd⟩ := st
    rw [List.getElem?_map] at hi
    obtain ⟨ix, hix, rfl⟩ := Option.map_eq_some_iff.mp hi
    obtain ⟨r1, r2, r3, r4⟩ := cm_rows hok hix
    refine pyNext_com_item hok P hne hix fun h' P' hT hsz hk => ?_
    have new : ObjOk X.prog X.w (upd H s.heap.objs.size (.tup (pickW vs ix))) h' s.heap.objs.size (.tup (pickW vs ix)) := by
      refine ⟨?_, pickV us ix, vals_pick rv r2, ⟨_, hT, rfl, _, rfl⟩⟩
      unfold pickW
      rw [List.length_map]
      exact Nat.le_trans r1 (by decide)
    exact hQ h' (I.turnedNew (t' := s.toks) (ch := [p, T]) (fun b o hb q => hk b o (fun q' => hb (by simp [q'])) q) hf (Nat.le_refl _) new) ⟨P', o, m, hk _ _ hne ho, hd⟩ hsz hk
  done := fun A E s i Q hh st hi hQ => pyNext_com_end hh hok st.1 (by rw [hi, List.length_map]) hQ
end J
namespace J
open PySem L2 PySem.Spec PyProof.Rows
open Builtin.Itertools (itPoolItems itIntField itNumbersFrom itSetNumbersFrom itStop itClassAndRest itBindNamed itNewRecord itSsizeArg itTooMany)
/-! ### combinations are made -/
section
variable {prog : Program} {w : World} {A : Around} {E : Value → Shared → Prop} {s : Shared}
theorem comb_class (src rv : Value) : itClassAndRest "combinations" ⟨[.type "itertools.combinations", src, rv], []⟩ = pure (.type "itertools.combinations", [src, rv]) := by
  unfold itClassAndRest
  show (isType (.type "itertools.combinations") >>= fun b => _) = _
  rw [ty_comb]
  show (isSubtype (.type "itertools.combinations") (.type ("itertools." ++ "combinations")) >>= fun b => _) = _
  rw [show ("itertools." ++ "combinations" : String) = "itertools.combinations" by decide, sub_comb]
  rfl
theorem comb_bind (src rv : Value) : itBindNamed "combinations" ["iterable", "r"] 2 2 [src, rv] [] = pure [some src, some rv] := by first | rfl | kernel_rfl
theorem comb_index (r : Int) (t : Tok) : asIndex (.int r t) = pure r := by first | rfl | kernel_rfl
theorem rwC_make (n : Nat) : ((List.range n).map fun (i : Nat) => rawInt i) = rwN (List.range n) := rfl
theorem wp_comb_new {src : Value} {r : Nat} {t : Tok} {R : Value → Shared → Prop} {C : List V → Prop} (hr : r ≤ 100)
    (hcol : ∀ (Q : List Value → Shared → Prop), (∀ (vs : List V) (us : List Value) (h' : Heap) (tk : Nat), C vs → Vals vs us → (∀ b o, s.heap.get? b = some o → h'.get? b = some o) → Q us { s with heap := h', toks := tk }) → wpAny (model prog w) A (collect src) Q E s)
    (hC : ∀ vs, C vs → vs.length ≤ 100)
    (hR : ∀ (vs : List V) (us : Array Value) (h' : Heap) (tk : Nat), C vs → Vals vs us.toList → (∀ b o, s.heap.get? b = some o → h'.get? b = some o) → ∀ (h'' : Heap) (p T : Addr), ComAt h'' p T us r 0 → h'.objs.size ≤ p → h'.objs.size ≤ T → T ≠ p → (∀ b o, h'.get? b = some o → h''.get? b = some o) → (∃ o, h''.get? p = some o ∧ o.cls = .type "itertools.combinations") → R (.ref p) { s with heap := h'', toks := tk }) :
    wpAny (model prog w) A (Builtin.«itertools.combinations.__new__» ⟨[.type "itertools.combinations", src, .int r t], []⟩) (fun fin s' => ∃ v, fin = .done (.ret v) ∧ R v s') E s := by
  show wpAny _ _ ((itClassAndRest "combinations" ⟨[.type "itertools.combinations", src, .int r t], []⟩ >>= _) >>= _) _ _ _
  refine wpAny_bind (wpAny_bind (wpAny_of_eq (comb_class src _) ?_))
  refine wpAny_bind (wpAny_of_eq (comb_bind src _) ?_)
  show wpAny _ _ (itSsizeArg (.int r t) >>= _) _ _ _
  refine wpAny_bind ?_
  unfold itSsizeArg
  refine wpAny_bind (wpAny_of_eq (comb_index _ _) ?_)
  have hb : (decide ((r : Int) < -(2 ^ 63 : Int)) || decide ((r : Int) ≥ 2 ^ 63)) = false := by
    rw [Bool.or_eq_false_iff, decide_eq_false_iff_not, decide_eq_false_iff_not]; omega
  dsimp only
  rw [if_neg (by rw [hb]; decide)]
  refine wpAny_pure ?_
  refine wpAny_bind (hcol _ fun vs us h' tk hc rv hk => ?_)
  have hn : us.length ≤ 100 := by rw [← rv.length]; exact hC vs hc
  rw [if_neg (by omega), if_neg (by unfold Builtin.Itertools.itTooMany; simp; omega)]
  refine wpAny_bind (wpAny_newTuple ?_ (Nat.le_trans hn (by decide)))
  refine wpAny_pure ?_
  dsimp only
  refine wpAny_bind ?_
  unfold itNewRecord
  rw [dict_comb]
  simp only [Bool.not_false, if_true]
  refine wpAny_newObj_type ?_ ?_
  · refine wpAny_pure ⟨_, rfl, ?_⟩
    have hz : (h'.push { cls := .type "tuple", data := .seq us.toArray }).objs.size = h'.objs.size + 1 := Heap.size_push ..
    refine hR vs us.toArray h' tk hc (by rw [List.toList_toArray]; exact rv) hk _ _ h'.objs.size ?_ ?_ (Nat.le_refl _) ?_ (fun b o e => Heap.get?_push_of_some _ (Heap.get?_push_of_some _ e)) ⟨_, Heap.get?_push_size _ rfl, rfl⟩
    · refine ⟨⟨_, _, Heap.get?_push_of_some _ (Heap.get?_push_size _ rfl), rfl⟩, .none, ?_⟩
      rw [Heap.get?_push_size _ rfl]
      by_cases q : us.toArray.size < r
      · refine .inl ⟨q, ?_⟩
        rw [List.size_toArray] at q
        unfold cObj
        rw [← rwC_make]
        simp [q]
      · refine .inr (.inl ⟨q, rfl, ?_⟩)
        rw [List.size_toArray] at q
        unfold cObj
        rw [← rwC_make]
        simp [q]
    · exact Nat.le_trans (Nat.le_succ _) (Nat.le_of_eq hz.symm)
    · intro e
      have : h'.objs.size = h'.objs.size + 1 := e.trans hz
      omega
  · show (_ : Array Value).size ≤ _
    simp
    exact Nat.le_trans (show _ ≤ 203 by omega) (by decide)
end
theorem meets_comb_new (src : Value) (r : Nat) (t : Tok) (hr : r ≤ 100) :
    Meets (Builtin.«itertools.combinations.__new__» ⟨[.type "itertools.combinations", src, .int r t], []⟩) (fun A R s => A.handled = none ∧ ∃ vs, ColOk src s vs ∧ vs.length ≤ 100 ∧ ∀ (us : Array Value) (h' : Heap) (tk : Nat), Vals vs us.toList → (∀ b o, s.heap.get? b = some o → h'.get? b = some o) →
      ∀ (h'' : Heap) (p T : Addr), ComAt h'' p T us r 0 → h'.objs.size ≤ p → h'.objs.size ≤ T → T ≠ p → (∀ b o, h'.get? b = some o → h''.get? b = some o) → (∃ o, h''.get? p = some o ∧ o.cls = .type "itertools.combinations") → R (.ok (.ret (.ref p))) { s with heap := h'', toks := tk }) :=
  .of_wp fun prog w A R s ⟨hh, vs, hcol, hl, h⟩ => wp_comb_new (R := fun v s' => R (.ok (.ret v)) s') (C := fun vs' => vs' = vs) hr (fun Q hQ => hcol prog w A.in1 _ Q hh fun us h' tk rv hk => hQ vs us h' tk rfl rv hk) (fun vs' e => e ▸ hl) fun vs' us h' tk e rv hk h'' p T P a1 a2 a3 a4 a5 => h us h' tk (e ▸ rv) hk h'' p T P a1 a2 a3 a4 a5
/-- a source and a number -/
def TSrc2 := L2.St → Hp → (List V → Nat → Hp → Prop) → Prop
def PSrc2 (X : Cx) (es : List Expr) (ts : TSrc2) : Prop := ∀ (pos : Pos) (pins : List (Addr × Obj)) (s : Shared) (σ : L2.St) (H : Hp) (Q : List V → Nat → Hp → Prop), Inv X pins σ H s → ts σ H Q →
  wpAny (model X.prog X.w) X.A (spliced (backTo pos (starEach es X.env))) (fun as s1 => ∃ u k t H1 vs, as = [u, .int (k : Nat) t] ∧ Inv X pins σ H1 s1 ∧ vs.length ≤ 100 ∧ k ≤ 100 ∧ ColOk u s1 vs ∧ Q vs k H1) X.xe s
section
variable {X : Cx} {es : List Expr} {ta : TA}
theorem src2_list (h : PA X es ta) : PSrc2 X es (fun σ H Q => ta σ H fun as H1 => ∃ a xs k, as = [.ref a, .int (k : Nat)] ∧ SqL X.K H1 a xs ∧ xs.length ≤ 100 ∧ k ≤ 100 ∧ Q xs k H1) := fun pos pins s σ H Q I hq =>
  thn (h.run pos pins s σ H _ I hq) fun us s1 ⟨as, H1, I1, rx, a, xs, k, ex, hs, hl, hk, q⟩ => by
    subst ex
    cases rx with
    | cons r1 r2 => cases r2 with
      | cons r2 r3 =>
        cases r3
        cases r1
        obtain ⟨t, rfl⟩ := r2
        obtain ⟨its, rv, ⟨o, n, ho, hc, _, hd⟩, hz⟩ := I1.list hs
        refine ⟨_, k, t, H1, xs, rfl, I1, hl, hk, fun prog w A E Q' hh hQ => ?_, q⟩
        refine wpAny_collect_seq a (.inl rfl) ho hc hd (fun h' hk => ?_) (by rw [List.size_toArray, ← rv.length]; exact hz)
        rw [List.toList_toArray]
        exact hQ its h' s1.toks rv hk
theorem src2_tup (h : PA X es ta) : PSrc2 X es (fun σ H Q => ta σ H fun as H1 => ∃ a xs k, as = [.ref a, .int (k : Nat)] ∧ SqT X.K H1 a xs ∧ xs.length ≤ 100 ∧ k ≤ 100 ∧ Q xs k H1) := fun pos pins s σ H Q I hq =>
  thn (h.run pos pins s σ H _ I hq) fun us s1 ⟨as, H1, I1, rx, a, xs, k, ex, hs, hl, hk, q⟩ => by
    subst ex
    cases rx with
    | cons r1 r2 => cases r2 with
      | cons r2 r3 =>
        cases r3
        cases r1
        obtain ⟨t, rfl⟩ := r2
        obtain ⟨its, rv, ⟨o, ho, hc, n, hd⟩, hz⟩ := I1.tuple hs
        refine ⟨_, k, t, H1, xs, rfl, I1, hl, hk, fun prog w A E Q' hh hQ => ?_, q⟩
        refine wpAny_collect_seq a (.inr rfl) ho hc hd (fun h' hk => ?_) (by rw [List.size_toArray, ← rv.length]; exact hz)
        rw [List.toList_toArray]
        exact hQ its h' s1.toks rv hk
theorem src2_rng (h : PA X es ta) : PSrc2 X es (fun σ H Q => ta σ H fun as H1 => ∃ a lo hi k, as = [.ref a, .int (k : Nat)] ∧ H1 a = some (.rng lo hi) ∧ (-(2 ^ 62) ≤ lo ∧ lo < 2 ^ 62) ∧ (-(2 ^ 62) ≤ hi ∧ hi < 2 ^ 62) ∧ (hi - lo).toNat ≤ 100 ∧ k ≤ 100 ∧ Q (rgV lo hi) k H1) := fun pos pins s σ H Q I hq =>
  thn (h.run pos pins s σ H _ I hq) fun us s1 ⟨as, H1, I1, rx, a, lo, hi, k, ex, hs, ⟨b1, b2⟩, ⟨b3, b4⟩, hl, hk, q⟩ => by
    subst ex
    cases rx with
    | cons r1 r2 => cases r2 with
      | cons r2 r3 =>
        cases r3
        cases r1
        obtain ⟨t, rfl⟩ := r2
        obtain ⟨t', u', v', hr⟩ := I1.hok a _ hs
        refine ⟨_, k, t, H1, rgV lo hi, rfl, I1, by rw [rgV_length]; exact hl, hk, fun prog w A E Q' hh hQ => ?_, q⟩
        refine collect_range (n := (hi - lo).toNat) (a := lo) (b := hi) (c := 1) (t := t') (u := u') (v := v') hh hr (small_one b1 b2 b3 b4) (rangeSize_nat lo hi) (Nat.le_trans hl (by decide)) fun h' tk acc hk hi => ?_
        exact hQ acc.toList h' tk (vals_rg hi) hk
theorem cr_range1 : CallR X (.type "range") (fun vs H Q => ∃ j, vs = [V.int j] ∧ ∀ p, H p = none → Q (.ref p) (upd H p (.rng 0 j))) := by
  intro pins s σ H vs us Q I r h
  obtain ⟨j, rfl, q⟩ := h
  obtain ⟨u1, rfl, ri⟩ := vals1 r
  obtain ⟨t, rfl⟩ := ri
  refine call_range_1 ⟨.ref s.heap.objs.size, upd H s.heap.objs.size (.rng 0 j), I.laid (t' := s.toks + 1 + 1) (fun b o e => Heap.get?_push_of_some _ e) (Nat.le_refl _) ?_, rfl, q _ (I.hok.fresh (Nat.le_refl _))⟩
  exact ⟨_, _, _, Heap.get?_push_size _ rfl⟩
end
section
variable {X : Cx} {pins : List (Addr × Obj)} {σ : L2.St} {H : Hp} {s : Shared} {a b : Expr} {ts : TSrc2} {nm : Str} {p0 pos p1 pos1 : Pos}
theorem mk_comb (hc : X.calm = true) (he : PSrc2 X [a, b] ts) (hg : Gl X nm) (hm : X.mg nm = some (.type "itertools.combinations")) (hdb : (nm == ("__debug__" : Str)) = false) (na : starEach [a, b] X.env = (false, eval a X.env) :: starEach [b] X.env) (hpl : (backTo pos (starEach [b] X.env)).any (·.1) = false) {R : List V → Nat → Hp → Prop} (I : Inv X pins σ H s)
    (h : ts σ H fun vs k H1 => cmOk vs.length k = true ∧ R vs k H1) :
    wpAny (model X.prog X.w) X.A (eval (.Call (.Name nm p0) [a, b] [] pos) X.env) (fun v s1 => ∃ p T us vs k H1, v = .ref p ∧ Inv X pins σ H1 s1 ∧ ComAt s1.heap p T us k 0 ∧ T ≠ p ∧ (∀ b ∈ [p, T], FpOk X pins H1 b) ∧ Vals vs us.toList ∧ cmOk us.size k = true ∧ R vs k H1) X.xe s := by
  refine Call_ (ld_glob I hg hm ?_ hdb)
  refine PyProof.Rows.callWith_type1 (thn (he pos pins s σ H _ I h) fun as s1 ⟨u, k, t, H1, vs, ea, I1, hl, hk100, hcol, hok, q⟩ => ?_) na hpl
  subst ea
  refine callType_new called_comb (by decide) (typeCall_comb _ _) (newCall_comb _ _) (fun obj => F.args_object_init_3 obj _ _) entry_comb_new (meets_comb_new u k t hk100) ?_
  refine ⟨I1.ok.hd hc, vs, hcol, hl, fun us h' tk rv hk h'' p T P a1 a2 a3 a4 a5 => ?_⟩
  have hsz : us.size = vs.length := by rw [rv.length, Array.length_toList]
  refine ⟨a5, p, T, us, vs, k, H1, rfl, ?_, P, a3, ?_, rv, by rw [hsz]; exact hok, q⟩
  · exact I1.kept fun b o e => a4 b o (hk b o e)
  · have I2 : Inv X pins σ H1 { s1 with heap := h', toks := tk } := I1.kept hk
    intro b hb
    have hle : h'.objs.size ≤ b := by
      have e' : b = p ∨ b = T := by simpa using hb
      rcases e' with rfl | rfl
      · exact a1
      · exact a2
    exact I2.fpOk hle (I2.hok.fresh hle)
theorem turn_comb {tg : Expr} {p T : Addr} {us : Array Value} {vs : List V} {k : Nat} (hne : T ≠ p) (hok : cmOk us.size k = true) (rv : Vals vs us.toList) :
    Turn X.prog X.w X.K tg (ItR ((cmL us.size k).map (pickW vs))) [p, T] p (fun i h => ComAt h p T us k i ∧ ∃ o m, h.get? T = some o ∧ o.data = .seq us m) :=
  turn_rowIt (X := X) (rowIt_comb hne hok rv) (by decide) (fun i h st c hc => by
    obtain ⟨P, o, m, ho, hd⟩ := st
    obtain ⟨o2, vs2, ho2, hc2, hd2⟩ := P.cls
    have e' : c = p ∨ c = T := by simpa using hc
    rcases e' with rfl | rfl
    · exact ⟨o2, ho2, fun v q => by rw [hd2] at q; cases q⟩
    · exact ⟨o, ho, fun v q => by rw [hd] at q; cases q⟩) fun X' _ _ _ => rowIt_comb hne hok rv
theorem pi_comb {tg : Expr} (hc : X.calm = true) (he : PSrc2 X [a, b] ts) (hg : Gl X nm) (hm : X.mg nm = some (.type "itertools.combinations")) (hdb : (nm == ("__debug__" : Str)) = false) (na : starEach [a, b] X.env = (false, eval a X.env) :: starEach [b] X.env) (hpl : (backTo pos (starEach [b] X.env)).any (·.1) = false) :
    PI X tg (.Call (.Name nm p0) [a, b] [] pos) (fun σ H R => ts σ H fun vs k H1 => cmOk vs.length k = true ∧ R (ItR ((cmL vs.length k).map (pickW vs))) H1) := by
  refine ⟨fun pins s σ H R I h => ?_⟩
  refine thn (mk_comb hc he hg hm hdb na hpl I h) fun v s1 ⟨p, T, us, vs, k, H1, ev, I1, P, hne, hf, rv, hok, q⟩ => ?_
  subst ev
  have hsz : us.size = vs.length := by rw [rv.length, Array.length_toList]
  refine pyIter_com P ⟨p, [p, T], _, _, H1, rfl, I1, turn_comb hne hok rv, ⟨P, P.pool⟩, hf, ?_⟩
  rw [hsz]; exact q
theorem pe_listComb (hc : X.calm = true) (he : PSrc2 X [a, b] ts) (hg : Gl X nm) (hm : X.mg nm = some (.type "itertools.combinations")) (hdb : (nm == ("__debug__" : Str)) = false) (na : starEach [a, b] X.env = (false, eval a X.env) :: starEach [b] X.env) (hpl : (backTo pos (starEach [b] X.env)).any (·.1) = false) (hgl : Gl X "list") (hml : X.mg "list" = none)
    (na2 : starEach [.Call (.Name nm p0) [a, b] [] pos] X.env = (false, eval (.Call (.Name nm p0) [a, b] [] pos) X.env) :: starEach [] X.env) :
    PE X (.Call (.Name "list" p1) [.Call (.Name nm p0) [a, b] [] pos] [] pos1) (fun σ H Q => ts σ H fun vs k H1 => cmOk vs.length k = true ∧ ListOk H1 ((cmL vs.length k).map (pickW vs)) Q) := by
  refine ⟨fun pins s σ H Q I h => ?_⟩
  refine Call_ (ld_blt I hgl hml boot_list (PyProof.Rows.callWith_type1 (PyProof.Rows.args_cons (thn (mk_comb hc he hg hm hdb na hpl I h) fun v s1 ⟨p, T, us, vs, k, H1, ev, I1, P, hne, hf, rv, hok, q⟩ => PyProof.Rows.args_nil ?_) na2) na2))
  subst ev
  have hsz : us.size = vs.length := by rw [rv.length, Array.length_toList]
  refine call_list_row (rowIt_comb (X := X) hne hok rv) (I1.ok.hd hc) (by decide) (by decide) nolen_comb nohint_comb I1 hf ⟨P, P.pool⟩ (by rw [List.length_map]; exact Nat.le_trans (cm_len hok) (by decide)) ?_
  rw [hsz]
  exact q
end
end J
namespace J
open PySem L2 PySem.Spec PyProof.Rows
section
variable {T : TC} {a b e : Expr} {e0 e1 e2 : Env'} {pos p0 p p1 p2 pos1 : Pos} {K : PySem.W.Frag} {R C C' H : Hp} {σ : L2.St} {nm : Str} {α : Type} {enc : α → PyData}
/-- known things and a number -/
def tQ2J (K : PySem.W.Frag) (env env' : Env') (xs : List PyData) (k : Nat) : TSrc2 := fun σ H Q => ∃ R C, EnvC K R C env σ H ∧ ∀ vs C' H', Ex C C' → EnvC K R C' env' σ H' → Rps K C' vs xs → Q vs k H'
def JSrc2 (T : TC) (a b : Expr) (env env' : Env') (xs : List PyData) (k : Nat) : Prop := ∀ X, CT X T → PSrc2 X [a, b] (tQ2J X.K env env' xs k)
theorem _root_.J.PSrc2.wk {X : Cx} {es : List Expr} {t t' : TSrc2} (h : PSrc2 X es t) (hh : ∀ σ H Q, t' σ H Q → t σ H Q) : PSrc2 X es t' := fun pos pins s σ H Q I q => h pos pins s σ H Q I (hh σ H Q q)
/-- so many of these things -/
def combs [Inhabited α] (xs : List α) (k : Int) : List (List α) := (cmL xs.length k.toNat).map fun ix => ix.map fun k => xs.getD k default
def combB (n : Nat) (k : Int) : Bool := decide (0 ≤ k) && cmOk n k.toNat
theorem combB_get {n : Nat} {k : Int} (h : combB n k = true) : 0 ≤ k ∧ k.toNat ≤ 100 ∧ n ≤ 100 ∧ cmOk n k.toNat = true := by
  unfold combB at h
  rw [Bool.and_eq_true] at h
  have h2 := h.2
  unfold cmOk at h2
  simp only [Bool.and_eq_true] at h2
  exact ⟨of_decide_eq_true h.1, of_decide_eq_true h2.1, of_decide_eq_true h2.2.1, h.2⟩
theorem je2_pa {X : Cx} (hX : CT X T) {x y : PyData} (h : JE2 T a b e0 e2 x y) (na : ∀ v : Env, starEach [a, b] v = (false, eval a v) :: starEach [b] v := by intro _; rfl) (nb : ∀ v : Env, starEach [b] v = (false, eval b v) :: starEach [] v := by intro _; rfl) :
    PA X [a, b] (fun σ H Q => ∃ R C, EnvC X.K R C e0 σ H ∧ ∀ u v C' H', Ex C C' → EnvC X.K R C' e2 σ H' → Rr X.K R C' H' e2 σ u (.b x) → Rr X.K R C' H' e2 σ v (.b y) → Q [u, v] H') := by
  rcases h with ⟨e1, ha, hb⟩ | ⟨ha, hb⟩
  · exact (pa_cons (ha X hX) (pa_cons (hb X hX) pa_nil (nb X.env)) (na X.env)).wk fun σ H Q ⟨R, C, E, k⟩ => ⟨R, C, E, fun u C1 H1 c1 E1 r1 => ⟨R, C1, E1, fun v C2 H2 c2 E2 r2 => k u v C2 H2 (c1.trans c2) E2 (.inl (r1.mono c2)) r2⟩⟩
  · exact (pa_cons (ha X hX) (pa_cons (hb X hX) pa_nil (nb X.env)) (na X.env)).wk fun σ H Q ⟨R, C, E, k⟩ => ⟨R, C, E, fun u C1 H1 c1 E1 r1 => ⟨R, C1, E1, fun v C2 H2 c2 E2 r2 => k u v C2 H2 (c1.trans c2) E2 (r1.imp (·.mono c2) id) r2⟩⟩
theorem jsrc2_list {xs : List α} {k : Int} (h : JE2 T a b e0 e2 (.list (xs.map enc)) (.int k)) (hok : combB xs.length k = true) (na : ∀ v : Env, starEach [a, b] v = (false, eval a v) :: starEach [b] v := by intro _; rfl) (nb : ∀ v : Env, starEach [b] v = (false, eval b v) :: starEach [] v := by intro _; rfl) : JSrc2 T a b e0 e2 (xs.map enc) k.toNat := fun X hX =>
  (src2_list (je2_pa hX h na nb)).wk fun σ H Q ⟨R, C, E, q⟩ => ⟨R, C, E, fun u v C1 H1 c1 E1 r1 r2 => by
    obtain ⟨h0, h1, h2, _⟩ := combB_get hok
    obtain ⟨p, vs, rfl, g1, l1, rr⟩ := rb_lst E1 r1
    have ev := rb_int E1 r2
    subst ev
    refine ⟨p, vs, k.toNat, by rw [Int.toNat_of_nonneg h0], SqL.of g1, by rw [rr.len, List.length_map]; exact h2, h1, q vs C1 H1 c1 E1 rr⟩⟩
theorem jsrc2_tup {xs : List α} {k : Int} (h : JE2 T a b e0 e2 (.tuple (xs.map enc)) (.int k)) (hok : combB xs.length k = true) (na : ∀ v : Env, starEach [a, b] v = (false, eval a v) :: starEach [b] v := by intro _; rfl) (nb : ∀ v : Env, starEach [b] v = (false, eval b v) :: starEach [] v := by intro _; rfl) : JSrc2 T a b e0 e2 (xs.map enc) k.toNat := fun X hX =>
  (src2_tup (je2_pa hX h na nb)).wk fun σ H Q ⟨R, C, E, q⟩ => ⟨R, C, E, fun u v C1 H1 c1 E1 r1 r2 => by
    obtain ⟨h0, h1, h2, _⟩ := combB_get hok
    obtain ⟨p, vs, rfl, g1, _, l1, rr⟩ := rb_tup E1 r1
    have ev := rb_int E1 r2
    subst ev
    refine ⟨p, vs, k.toNat, by rw [Int.toNat_of_nonneg h0], g1, by rw [rr.len, List.length_map]; exact h2, h1, q vs C1 H1 c1 E1 rr⟩⟩
theorem jsrc2_rg {n k : Int} (hg : glB T.sc "range" = true) (hm : T.mg "range" = none) (h : JE T e e0 e1 (.d (.int n))) (hb : JE T b e1 e2 (.d (.int k))) (hn : rg1 n) (hok : combB (rgI 0 n).length k = true)
    (hp : Plain e [] pos := by exact ⟨fun _ => rfl, fun _ => rfl⟩) (na : ∀ v : Env, starEach [.Call (.Name "range" p) [e] [] pos, b] v = (false, eval (.Call (.Name "range" p) [e] [] pos) v) :: starEach [b] v := by intro _; rfl) (nb : ∀ v : Env, starEach [b] v = (false, eval b v) :: starEach [] v := by intro _; rfl) : JSrc2 T (.Call (.Name "range" p) [e] [] pos) b e0 e2 ((rgI 0 n).map .int) k.toNat := fun X hX => by
  have pr : PE X (.Call (.Name "range" p) [e] [] pos) (fun σ H Q => ∃ R C, EnvC X.K R C e0 σ H ∧ ∀ q C1 H1, Ex C C1 → R q = none → EnvC X.K (upd R q (.rng 0 n)) C1 e1 σ H1 → Q (.ref q) H1) :=
    (pe_callTy cr_range1 (gl_of hX hg) (by rw [hX.mg]; exact hm) (by decide +kernel) (pa_cons (h X hX) pa_nil (hp.he X.env)) (by decide) (by decide) (hp.he X.env) (hp.hp X.env)).wk fun σ H Q ⟨R, C, E, q⟩ => ⟨R, C, E, fun v C1 H1 c1 E1 r1 => by
      cases r1
      exact ⟨n, rfl, fun z hz => q z C1 _ c1 (E1.rN hz) (E1.lifted hz)⟩⟩
  exact (src2_rng (pa_cons pr (pa_cons (hb X hX) pa_nil (nb X.env)) (na X.env))).wk fun σ H Q ⟨R, C, E, q⟩ => ⟨R, C, E, fun z C1 H1 c1 rz E1 => ⟨_, C1, E1, fun v C2 H2 c2 E2 r2 => by
    cases r2
    obtain ⟨h0, h1, h2, _⟩ := combB_get hok
    obtain ⟨E3, hz, cz, nz⟩ := E2.unlift rz
    obtain ⟨n1, n2⟩ := hn
    rw [rgI_len] at h2
    refine ⟨z, 0, n, k.toNat, by rw [Int.toNat_of_nonneg h0], hz, ⟨by omega, by omega⟩, ⟨by omega, by omega⟩, by omega, h1, q _ C2 H2 (c1.trans c2) E3 (rgV_rgI 0 n)⟩⟩⟩
theorem combB_rows {n : Nat} {k : Int} (h : combB n k = true) : cmOk n k.toNat = true ∧ (cmL n k.toNat).length ≤ 1000 ∧ ∀ ix ∈ cmL n k.toNat, ix.length ≤ LN ∧ ∀ j ∈ ix, j < n := by
  obtain ⟨h0, h1, h2, h3⟩ := combB_get h
  refine ⟨h3, cm_len h3, fun ix hix => ?_⟩
  obtain ⟨i, hi⟩ := List.mem_iff_getElem?.mp hix
  obtain ⟨r1, r2⟩ := cm_rows h3 hi
  exact ⟨Nat.le_trans r1 (by decide), r2.1⟩
theorem je_listComb [Inhabited α] {xs : List α} {k : Int} (h : JSrc2 T a b e0 e1 (xs.map enc) k.toNat) (hok : combB xs.length k = true) (hgl : glB T.sc "list" = true) (hml : T.mg "list" = none) (hg : glB T.sc nm = true) (hm : T.mg nm = some (.type "itertools.combinations")) (hdb : (nm == ("__debug__" : Str)) = false := by decide)
    (na : ∀ v : Env, starEach [a, b] v = (false, eval a v) :: starEach [b] v := by intro _; rfl) (hpl : ∀ v : Env, (backTo pos (starEach [b] v)).any (·.1) = false := by intro _; rfl) (na2 : ∀ v : Env, starEach [.Call (.Name nm p0) [a, b] [] pos] v = (false, eval (.Call (.Name nm p0) [a, b] [] pos) v) :: starEach [] v := by intro _; rfl) :
    JE T (.Call (.Name "list" p1) [.Call (.Name nm p0) [a, b] [] pos] [] pos1) e0 e1 (.o (.list ((combs xs k).map (eT enc)))) := fun X hX =>
  (pe_listComb hX.calm (h X hX) (gl_of hX hg) (by rw [hX.mg]; exact hm) hdb (na X.env) (hpl X.env) (gl_of hX hgl) (by rw [hX.mg]; exact hml) (na2 X.env)).wk fun σ H Q ⟨R, C, E, q⟩ => by
    refine ⟨R, C, E, fun vs C1 H1 c1 E1 r1 => ?_⟩
    obtain ⟨o1, o2, o3⟩ := combB_rows hok
    have hl : vs.length = xs.length := by rw [r1.len, List.length_map]
    rw [hl]
    refine ⟨o1, ?_⟩
    refine listOk_o E1 (by rw [List.length_map]; exact Nat.le_trans o2 (by decide)) (fun C' ts c' pp => ⟨_, rfl, rows_rps r1 c' o3 pp⟩) fun v C' H' c' E' hv => q v C' H' (c1.trans c') E' hv
theorem ji_comb [Inhabited α] {tg : Expr} {xs : List α} {k : Int} (h : JSrc2 T a b e0 e1 (xs.map enc) k.toNat) (hok : combB xs.length k = true) (hg : glB T.sc nm = true) (hm : T.mg nm = some (.type "itertools.combinations")) (hdb : (nm == ("__debug__" : Str)) = false := by decide)
    (na : ∀ v : Env, starEach [a, b] v = (false, eval a v) :: starEach [b] v := by intro _; rfl) (hpl : ∀ v : Env, (backTo pos (starEach [b] v)).any (·.1) = false := by intro _; rfl) :
    JI T tg (.Call (.Name nm p0) [a, b] [] pos) e0 e1 ((combs xs k).map (eT enc)) := fun X hX =>
  (pi_comb hX.calm (h X hX) (gl_of hX hg) (by rw [hX.mg]; exact hm) hdb (na X.env) (hpl X.env)).wk fun σ H Rr' ⟨R, C, E, q⟩ => ⟨R, C, E, fun vs C1 H1 c1 E1 r1 => by
    obtain ⟨o1, o2, o3⟩ := combB_rows hok
    have hl : vs.length = xs.length := by rw [r1.len, List.length_map]
    rw [hl]
    refine ⟨o1, ?_⟩
    have hlen : ((combs xs k).map (eT enc)).length = (cmL xs.length k.toNat).length := by unfold combs; simp
    refine q _ C1 H1 c1 E1 (by rw [hlen]; exact Nat.le_trans o2 (by decide)) fun C2 env σ H2 c2 E2 => ⟨by rw [hlen]; show _ = ((cmL xs.length k.toNat).map _).length; rw [List.length_map], fun i d hd => ?_⟩
    unfold combs at hd
    rw [List.map_map, List.getElem?_map] at hd
    obtain ⟨ix, hix, rfl⟩ := Option.map_eq_some_iff.mp hd
    refine ⟨by show i < ((cmL xs.length k.toNat).map _).length; rw [List.length_map]; exact (List.getElem?_eq_some_iff.mp hix).1, fun x H3 hy => ?_⟩
    obtain ⟨t, row, rfl, ht, rfl, hrow⟩ := hy
    rw [List.getElem?_map, hix] at hrow
    cases hrow
    obtain ⟨b1, b2⟩ := o3 ix (List.mem_of_getElem? hix)
    exact E2.tupN ht (by unfold pickW; rw [List.length_map]; exact b1) ((rps_pick r1 b2).mono c2)⟩
end
end J
namespace J
open PySem L2 PySem.Spec PyProof.Rows PySem.W
/-! ### sorted(set(a tuple of ints)) -/
section
variable {X : Cx}
def tSrtSetT (K : PySem.W.Frag) (ta : TE) : TE := fun σ H Q => ta σ H fun x H1 => ∃ (l : Addr) (ns : List Int), x = V.ref l ∧ SqT K H1 l (ns.map V.int) ∧ ns.length < 64 ∧ ∀ (ys : List Int) (p : Addr), ys.Pairwise (· < ·) → (∀ k, k ∈ ys ↔ k ∈ ns) → H1 p = none → Q (.ref p) (upd H1 p (.lst (ys.map V.int)))
theorem pe_srtSetT {a : Expr} {ta : TE} {p p2 q pos : Pos} (hc : X.calm = true) (hg : Gl X "sorted") (hm : X.mg "sorted" = none) (hg2 : Gl X "set") (hm2 : X.mg "set" = none) (ha : PE X a ta)
    (na : starEach [a] X.env = (false, eval a X.env) :: starEach [] X.env) : PE X (.Call (.Name "sorted" p) [.Call (.Name "set" p2) [a] [] q] [] pos) (tSrtSetT X.K ta) := by
  refine ⟨fun pins s σ H Q I h => ?_⟩
  refine Call_ (ld_blt I hg hm (show bootBuiltins "sorted" = some (.builtin "sorted") by decide +kernel) ?_)
  refine PyProof.Rows.callWith_builtin1 (PyProof.Rows.args_cons ?_ rfl) rfl rfl
  refine Call_ (ld_blt I hg2 hm2 PyProof.Rows.boot_set ?_)
  refine PyProof.Rows.callWith_type1 (PyProof.Rows.args_cons (thn (ha.run pins s σ H _ I h) fun v s1 ⟨x, H1, I1, r1, q1⟩ => PyProof.Rows.args_nil ?_) na) na rfl
  obtain ⟨l, ns, rfl, hq, h1, q1⟩ := q1
  cases r1
  obtain ⟨its, r, pl, hz⟩ := I1.tuple hq
  refine call_set_tupI ns (I1.ok.hd hc) pl (by simpa using r.ints) (by unfold scanBound; omega) fun h' tk c hS hcn hk => ?_
  refine PyProof.Rows.args_nil ?_
  have I2 : Inv X pins σ H1 { s1 with heap := h', toks := tk } := I1.kept fun b o e => hk b o e
  refine sorted_set (s := { s1 with heap := h', toks := tk }) hS (I2.ok.hd hc) (by omega) fun s' p out cc ys k1 g1 o1 hp hl hy hs hmem hlen => ?_
  have hy' : Vals (ys.map V.int) out.toList := vals_of_ints hy
  have e : s'.heap.get? p = some { cls := .type "list", data := .seq out.toList.toArray cc } := by rw [hl]
  have nw : ObjOk X.prog X.w (upd H1 p (.lst (ys.map V.int))) s'.heap p (.lst (ys.map V.int)) := ⟨by rw [List.length_map, sizeLine_eq]; omega, out.toList, cc, hy', e⟩
  exact ⟨.ref p, upd H1 p (.lst (ys.map V.int)), I2.call' (ch := []) o1 (Un.laid k1 hp (I2.hok.fresh hp)) (I2.hok.laid k1 hp nw) (by rw [g1]; exact I2.bare) (fun _ z => nomatch z), rfl, q1 ys p hs (fun k => by rw [hmem k, decide_eq_true_eq]) (I2.hok.fresh hp)⟩
end
section
variable {T : TC} {a : Expr} {e0 e1 : Env'} {pos p p1 p2 : Pos}
theorem dd_len (ns : List Int) : (dd ns).length ≤ ns.length := by
  induction ns with
  | nil => exact Nat.le_refl _
  | cons x xs ih =>
    unfold dd
    split
    · exact Nat.le_succ_of_le ih
    · rw [List.length_cons, List.length_cons]; omega
theorem je_srtSetT {ns : List Int} (hg : glB T.sc "sorted" = true) (hm : T.mg "sorted" = none) (hg2 : glB T.sc "set" = true) (hm2 : T.mg "set" = none) (ha : JE T a e0 e1 (.b (.tuple (ns.map .int)))) (hn : ns.length < 64)
    (na : ∀ v : Env, starEach [a] v = (false, eval a v) :: starEach [] v := by intro _; rfl) : JE T (.Call (.Name "sorted" p) [.Call (.Name "set" p1) [a] [] p2] [] pos) e0 e1 (.o (.list ((srtSet ns).map PyData.int))) := fun X hX =>
  (pe_srtSetT hX.calm (gl_of hX hg) (by rw [hX.mg]; exact hm) (gl_of hX hg2) (by rw [hX.mg]; exact hm2) (ha X hX) (na X.env)).wk fun σ H Q ⟨R, C, E, k⟩ => ⟨R, C, E, fun v C1 H1 c1 E1 r1 => by
    rw [hX.K] at *
    obtain ⟨q, vs, rfl, h1, _, l1, r1⟩ := rb_tup E1 r1
    have e := r1.int
    subst e
    refine ⟨q, ns, rfl, h1, hn, fun ys p hs hmem hp => ?_⟩
    rw [srtSet_eq hs hmem] at k
    have hl : ys.length ≤ LN := by
      have h2 := (pySort_len PyData.int (dd ns))
      have h3 := dd_len ns
      have h4 : (srtSet ns).length = (dd ns).length := h2
      rw [srtSet_eq hs hmem] at h4
      show _ ≤ 16777216
      omega
    obtain ⟨E', r⟩ := E1.freshO (vs := ys.map V.int) hp (by rw [List.length_map]; exact hl) Rps.ints
    exact k _ C1 _ c1 E' r⟩
end
/-! ### sorted(set(a list of tuples of ints)) -/
abbrev eAL (b : Addr × List Int) : PyData := eT PyData.int b.2
theorem perm_refs {f : Addr × List Int → Value} : ∀ {us vs : List Value}, us.Perm vs → ∀ ks : List (Addr × List Int), vs = ks.map f → ∃ ks' : List (Addr × List Int), us = ks'.map f ∧ ks'.Perm ks := by
  intro us vs p
  induction p with
  | nil => intro ks h; exact ⟨[], rfl, by cases ks with | nil => exact .refl _ | cons a b => cases h⟩
  | cons x p ih =>
    intro ks h
    cases ks with
    | nil => cases h
    | cons k ks =>
      rw [List.map_cons, List.cons.injEq] at h
      obtain ⟨ks', a, b⟩ := ih _ h.2
      exact ⟨k :: ks', by rw [List.map_cons, h.1, a], b.cons _⟩
  | swap x y l =>
    intro ks h
    match ks, h with
    | k1 :: k2 :: ks, h =>
      rw [List.map_cons, List.map_cons, List.cons.injEq, List.cons.injEq] at h
      exact ⟨k2 :: k1 :: ks, by rw [List.map_cons, List.map_cons, h.1, h.2.1, h.2.2], List.Perm.swap _ _ _⟩
  | trans p q ih1 ih2 =>
    intro ks h
    obtain ⟨k2, c, d⟩ := ih2 ks h
    obtain ⟨k1, a, b⟩ := ih1 k2 c
    exact ⟨k1, a, b.trans d⟩
theorem each_refs : ∀ (L : List (Addr × List Int)), EachIs (fun (u : Value) (b : Addr × List Int) => u = .ref b.1) (L.map fun q => Value.ref q.1) L
  | [] => .nil
  | q :: L => .cons rfl (each_refs L)
theorem refs_each : ∀ {out : List Value} {L : List (Addr × List Int)}, EachIs (fun (u : Value) (b : Addr × List Int) => u = .ref b.1) out L → Vals (L.map fun q => V.ref q.1) out
  | _, _, .nil => .nil
  | _, _, .cons h t => .cons h (refs_each t)
theorem each_tups {h : Heap} : ∀ {L : List (Addr × List Int)}, (∀ q ∈ L, ∃ as, Reads h (.ref q.1) (eAL q) as) → EachIs (fun (u : Value) (b : Addr × List Int) => ∃ as, Reads h u (eAL b) as) (L.map fun q => Value.ref q.1) L
  | [], _ => .nil
  | q :: L, h => .cons (h q (by simp)) (each_tups fun r hr => h r (by simp [hr]))
theorem depth_ints : ∀ (k : List Int), PyData.depthAll (k.map PyData.int) = 0
  | [] => rfl
  | x :: k => by rw [List.map_cons, PyData.depthAll, depth_ints k]; rfl
theorem dpAll_ints {K : PySem.W.Frag} {H : Hp} : ∀ (k : List Int), DpAll K H (k.map V.int) (k.map PyData.int)
  | [] => .nil
  | x :: k => .cons (.int x) (dpAll_ints k)
/-- in order, each once -/
def srtSetL (xss : List (List Int)) : List (List Int) := pySort (eT PyData.int) (ddL xss)
theorem tri_tI : Tri (eT PyData.int) := tri_t alk_int eqe_int tri_int
theorem srtSetL_eq {L : List (Addr × List Int)} {xss : List (List Int)} (nd : (L.map (·.2)).Nodup) (hm : ∀ k, k ∈ L.map (·.2) ↔ k ∈ xss) : (L.mergeSort (dataLe false eAL)).map (·.2) = srtSetL xss := by
  rw [sort_maps (r := dataLe false eAL) (s := dataLe false (eT PyData.int)) (fun b : Addr × List Int => b.2) (fun _ _ _ _ => rfl)]
  show pySort (eT PyData.int) _ = _
  exact pySort_eq tri_tI (((List.perm_ext_iff_of_nodup nd (ddL_nd _)).mpr fun k => (hm k).trans ddL_mem.symm).trans (pySort_perm _ _).symm) (pySort_sorted _ _)
section
variable {X : Cx}
def tSrtSetL (K : PySem.W.Frag) (ta : TE) : TE := fun σ H Q => ta σ H fun x H1 => ∃ (l : Addr) (ks : List (Addr × List Int)), x = V.ref l ∧ SqL K H1 l (ks.map fun p => V.ref p.1) ∧ (∀ p ∈ ks, SqT K H1 p.1 (p.2.map V.int)) ∧ ks.length < 64 ∧ (∀ p ∈ ks, p.2 ≠ []) ∧
  ∀ (L : List (Addr × List Int)) (p : Addr), L.length ≤ 64 → (∀ q ∈ L, q ∈ ks) → L.map (·.2) = srtSetL (ks.map (·.2)) → H1 p = none → Q (.ref p) (upd H1 p (.lst (L.map fun q => V.ref q.1)))
theorem pe_srtSetL {a : Expr} {ta : TE} {p p2 q pos : Pos} (hc : X.calm = true) (hu : X.A.units + 200 < cLine) (hg : Gl X "sorted") (hm : X.mg "sorted" = none) (hg2 : Gl X "set") (hm2 : X.mg "set" = none) (ha : PE X a ta)
    (na : starEach [a] X.env = (false, eval a X.env) :: starEach [] X.env) : PE X (.Call (.Name "sorted" p) [.Call (.Name "set" p2) [a] [] q] [] pos) (tSrtSetL X.K ta) := by
  refine ⟨fun pins s σ H Q I h => ?_⟩
  refine Call_ (ld_blt I hg hm (show bootBuiltins "sorted" = some (.builtin "sorted") by decide +kernel) ?_)
  refine PyProof.Rows.callWith_builtin1 (PyProof.Rows.args_cons ?_ rfl) rfl rfl
  refine Call_ (ld_blt I hg2 hm2 PyProof.Rows.boot_set ?_)
  refine PyProof.Rows.callWith_type1 (PyProof.Rows.args_cons (thn (ha.run pins s σ H _ I h) fun v s1 ⟨x, H1, I1, r1, q1⟩ => PyProof.Rows.args_nil ?_) na) na rfl
  obtain ⟨l, ks, rfl, hl, hk, hf, hne, q1⟩ := q1
  cases r1
  obtain ⟨its, rv, pl, hz⟩ := I1.list hl
  refine call_set_tups (P := X.prog) (w := X.w) ks (I1.ok.hd hc) pl.isList (by simpa using refs_of_vals rv) (fun p hp => I1.isT (hk p hp)) hf (by omega) fun h' tk L es ep t R g k => ?_
  refine PyProof.Rows.args_nil ?_
  have I2 : Inv X pins σ H1 { s1 with heap := h', toks := tk } := I1.kept k
  obtain ⟨o, ho, hex, hd⟩ := R.ob
  have el := SetTR.size (s := { s1 with heap := h', toks := tk }) R
  have few := R.few
  refine Calls.call_function_entry PyProof.Rows.kind_sorted PyProof.Rows.plain_sorted PyProof.Rows.entry_sorted (PyProof.Rows.args_sorted1 _) ?_
  unfold Builtin.«sorted»
  refine wpAny_bind (m := checkCount "sorted" 1 1 _) (wpAny_pure ?_)
  refine wpAny_bind (collect_set (A := X.A.in1) (s := { s1 with heap := h', toks := tk }) (I2.ok.hd hc) ⟨o, ho, hex.1, hd⟩ (SetTR.fits (s := { s1 with heap := h', toks := tk }) R) (by unfold scanBound; omega) R.tab.ris R.led fun s3 vs k1 hz3 g1 o1 pm => ?_)
  have hes : es.toList.map (·.2) = L.map fun q => Value.ref q.1 := by
    rw [R.rows]
    unfold L2.rowsOf
    rw [List.map_map] <;> rfl
  rw [hes] at pm
  obtain ⟨L1, ev, pL⟩ := perm_refs pm L rfl
  subst ev
  have hL1 : L1.length < 64 := by rw [pL.length_eq]; exact few
  have hin : ∀ q ∈ L1, q ∈ ks := fun q hq => List.mem_of_mem_take (g.sub q (pL.mem_iff.mp hq))
  have I3 : Inv X pins σ H1 s3 := I2.call' (ch := []) o1 (Un.kept k1) (I2.hok.kept k1) (by rw [g1]; exact I2.bare) (fun _ z => nomatch z)
  have hLv : (L1.map fun q => Value.ref q.1).length ≤ sizeLine := by rw [List.length_map, sizeLine_eq]; omega
  refine wpAny_bind (wpAny_newList ?_ hLv)
  generalize hvs : (L1.map fun q => Value.ref q.1) = vs
  rw [hvs] at hLv
  have hoL : (s3.heap.push (seqObj "list" vs.toArray 0)).get? s3.heap.objs.size = some (seqObj "list" vs.toArray 0) := Heap.get?_push_size _ rfl
  have old : ∀ b o, s3.heap.get? b = some o → b ≠ s3.heap.objs.size ∧ (s3.heap.push (seqObj "list" vs.toArray 0)).get? b = some o := fun b o q => ⟨Nat.ne_of_lt (Heap.lt_size q), Heap.get?_push_of_some _ q⟩
  have e : EachIs (fun (u : Value) (b : Addr × List Int) => u = .ref b.1) vs L1 := hvs ▸ each_refs L1
  have er : EachIs (fun (u : Value) (b : Addr × List Int) => ∃ as, Reads s3.heap u (eAL b) as) vs L1 := hvs ▸ each_tups fun q hq => Dp.reads I3 (eAL q) (.ref q.1) (.ref q.1) (.tup (hk q (hin q hq)) (dpAll_ints q.2)) rfl
  have er' : EachIs (fun v b => ∃ as, Reads (sortingHeap (s3.heap.push (seqObj "list" vs.toArray 0)) s3.heap.objs.size vs) v (eAL b) as) vs L1 :=
    er.mono fun _ _ ⟨as, r⟩ => ⟨as, PyProof.Rows.Reads.keeps (fun b o q => sortingHeap_old (old b o q).1 (old b o q).2) r⟩
  have hal : AllAlike (L1.map eAL) := by
    have := ((alk_t alk_int).all (L1.map (·.2))).1
    rwa [List.map_map] at this
  have hso : Sortable (L1.map eAL) := .inl fun d hd => by
    obtain ⟨b, hb, rfl⟩ := List.mem_map.mp hd
    show ∃ x r, PyData.tuple (b.2.map PyData.int) = _
    cases q : b.2 with
    | nil => exact absurd q (hne b (hin b hb))
    | cons x r => exact ⟨_, _, rfl⟩
  have hdep : ∀ b, b ∈ L1 → X.A.in1.in1.units + (eAL b).depth < cLine := fun b hb => by
    show X.A.in1.in1.units + PyData.depth (.tuple _) < cLine
    rw [PyData.depth, depth_ints]
    show X.A.units + 1 + 1 + _ < _
    omega
  have S := SortsAt.data (prog := X.prog) (w := X.w) (A := X.A.in1.in1) (s := { s3 with heap := sortingHeap (s3.heap.push (seqObj "list" vs.toArray 0)) s3.heap.objs.size vs }) (each_map (R := fun v d => ∃ as, Reads (sortingHeap (s3.heap.push (seqObj "list" vs.toArray 0)) s3.heap.objs.size vs) v d as) eAL er') hal hso (fun d hd => by
    obtain ⟨b, hb, rfl⟩ := List.mem_map.mp hd
    exact hdep b hb)
  show wpAny _ _ _ _ _ { s3 with heap := s3.heap.push (seqObj "list" vs.toArray 0) }
  refine wpAny_bind (wpAny_holding (wpAny_call_entry slot_list_sort ⟨_, hoL, rfl⟩ entry_list_sort ?body (args_list_sort _)))
  case body =>
    refine list_sort_vals (s := { s3 with heap := s3.heap.push (seqObj "list" vs.toArray 0) }) hoL S hLv ⟨_, rfl, wpAny_pure ⟨_, rfl, ?_⟩⟩
    obtain ⟨n', hn'⟩ := sortedHeap_at (vs := vs) (out := (sortVals (dataKind (sortingHeap (s3.heap.push (seqObj "list" vs.toArray 0)) s3.heap.objs.size vs) (L1.map eAL)) false vs vs).toArray) hoL
    have hv := refs_each (sortVals_data false e er' hal)
    refine ⟨.ref s3.heap.objs.size, _, I3.laid (a := s3.heap.objs.size) (o := .lst _) (t' := s3.toks) (fun b ob q => ?_) (Nat.le_refl _) ⟨by rw [List.length_map, List.length_mergeSort, sizeLine_eq]; omega, _, n', hv, hn'⟩, rfl, q1 (L1.mergeSort (dataLe false eAL)) _ (by rw [List.length_mergeSort]; omega) (fun q hq => hin q (List.mem_mergeSort.mp hq)) (srtSetL_eq ((pL.map (·.2)).nodup_iff.mpr R.nd) fun k => ?_) (I3.hok.fresh (Nat.le_refl _))⟩
    · have q1 : b ≠ s3.heap.objs.size := Nat.ne_of_lt (Heap.lt_size q)
      have q2 : (s3.heap.push (seqObj "list" vs.toArray 0)).get? b = some ob := Heap.get?_push_of_some _ q
      rw [sortedHeap_old q1 (Heap.lt_size q2)]
      exact q2
    · rw [(pL.map (·.2)).mem_iff]
      constructor
      · intro hk2
        obtain ⟨p, hp, rfl⟩ := List.mem_map.mp hk2
        exact List.mem_map.mpr ⟨p, List.mem_of_mem_take (g.sub p hp), rfl⟩
      · intro hk2
        obtain ⟨p, hp, rfl⟩ := List.mem_map.mp hk2
        exact g.all p (by rw [List.take_length]; exact hp)
end
section
variable {T : TC} {a : Expr} {e0 e1 : Env'} {pos p p1 p2 : Pos} {K : PySem.W.Frag} {C : Hp}
theorem rp_tupI {q : Addr} {x : List Int} (h : SqT K C q (x.map V.int)) (l : x.length ≤ LN) : Rp K C (.ref q) (eT PyData.int x) := .tup h (by rw [List.length_map]; exact l) Rps.ints
theorem rps_tups' : ∀ {xss : List (List Int)} {vs : List V}, Rps K C vs (xss.map (eT PyData.int)) → ∃ ks : List (Addr × List Int), vs = ks.map (fun p => V.ref p.1) ∧ ks.map (·.2) = xss ∧ ∀ p ∈ ks, SqT K C p.1 (p.2.map V.int) ∧ p.2.length ≤ LN
  | [], _, r => by rw [List.map_nil] at r; cases r; exact ⟨[], rfl, rfl, fun p hp => by cases hp⟩
  | x :: xs, _, r => by
    rw [List.map_cons] at r
    cases r with
    | cons r1 r2 =>
      obtain ⟨ks, e1, e2, e3⟩ := rps_tups' r2
      cases r1 with
      | tup q l r =>
        have e := r.int
        subst e
        subst e1
        exact ⟨(_, x) :: ks, rfl, by rw [List.map_cons, e2], fun p hp => by
          rcases List.mem_cons.mp hp with rfl | hp
          · exact ⟨q, by rw [List.length_map] at l; exact l⟩
          · exact e3 p hp⟩
theorem je_srtSetL {xss : List (List Int)} (hg : glB T.sc "sorted" = true) (hm : T.mg "sorted" = none) (hg2 : glB T.sc "set" = true) (hm2 : T.mg "set" = none) (ha : JE T a e0 e1 (.b (.list (xss.map (eT PyData.int))))) (hn : xss.length < 64) (hne : ∀ x ∈ xss, x ≠ [])
    (na : ∀ v : Env, starEach [a] v = (false, eval a v) :: starEach [] v := by intro _; rfl) : JE T (.Call (.Name "sorted" p) [.Call (.Name "set" p1) [a] [] p2] [] pos) e0 e1 (.o (.list ((srtSetL xss).map (eT PyData.int)))) := fun X hX =>
  (pe_srtSetL hX.calm (by have := hX.room.un; omega) (gl_of hX hg) (by rw [hX.mg]; exact hm) (gl_of hX hg2) (by rw [hX.mg]; exact hm2) (ha X hX) (na X.env)).wk fun σ H Q ⟨R, C, E, k⟩ => ⟨R, C, E, fun v C1 H1 c1 E1 r1 => by
    rw [hX.K] at *
    obtain ⟨q, vs, rfl, h1, l1, r1⟩ := rb_lst E1 r1
    obtain ⟨ks, e1, e2, e3⟩ := rps_tups' r1
    subst e1 e2
    rw [List.length_map] at hn
    refine ⟨q, ks, rfl, SqL.of h1, fun p hp => (E1.cH.t (e3 p hp).1), hn, fun p hp => hne p.2 (List.mem_map.mpr ⟨p, hp, rfl⟩), fun L p hl hin he hp => ?_⟩
    rw [← he] at k
    have rr : Rps T.K C1 (L.map fun q => V.ref q.1) ((L.map (·.2)).map (eT PyData.int)) := by
      clear he hl k
      induction L with
      | nil => exact .nil
      | cons b L ih => exact .cons (rp_tupI (e3 b (hin b (by simp))).1 (e3 b (hin b (by simp))).2) (ih (fun q hq => hin q (by simp [hq])))
    obtain ⟨E', r⟩ := E1.freshO (vs := L.map fun q => V.ref q.1) hp (by rw [List.length_map]; exact Nat.le_trans hl (by decide)) rr
    exact k _ C1 _ c1 E' r⟩
end
end J
namespace K13
open PySem L2 PySem.Spec PyProof.Rows J
def topS (i : Nat) : Stmt := PySem.Challenge.pw_hoteldays_k13_whole_ice_and_corridors.main.body.getD i (.Pass ⟨0, 0, 0, 0⟩)
local macro_rules | `(tactic| walk_at "le") => `(tactic| repeat (first | exact le_nil | refine le_r ?_ | refine le_u ?_))
local macro_rules | `(tactic| walk_at "kt") => `(tactic| (simp only [tyD]; decide +kernel))
local macro_rules | `(tactic| walk_at "hw") => `(tactic| (intro v hv; cases v; cases hv; rfl))
def C_MOST : Int := 60
structure Txt (K : PySem.W.Frag) (mg : Str → Option Value) where
  f_draw : Addr
  d_draw : FuncData
  o_draw : Own K mg "_law_draw" (topS 11) ["script"] f_draw d_draw
  f_next : Addr
  d_next : FuncData
  o_next : Own K mg "_law_next" (topS 12) ["draw", "many"] f_next d_next
  f_same : Addr
  d_same : FuncData
  o_same : Own K mg "_law_same" (topS 13) ["actual", "due"] f_same d_same
  f_hours_of : Addr
  d_hours_of : FuncData
  o_hours_of : Own K mg "hours_of" (topS 3) ["pounds", "hours", "melts", "wants"] f_hours_of d_hours_of
  f_law_ice : Addr
  d_law_ice : FuncData
  o_law_ice : Own K mg "_law_ice" (topS 14) ["pounds", "hours", "melts", "wants"] f_law_ice d_law_ice
  f_fewest_pounds : Addr
  d_fewest_pounds : FuncData
  o_fewest_pounds : Own K mg "fewest_pounds" (topS 4) ["hours", "melts", "wants", "start"] f_fewest_pounds d_fewest_pounds
  f_heard_from : Addr
  d_heard_from : FuncData
  o_heard_from : Own K mg "heard_from" (topS 6) ["loud", "far"] f_heard_from d_heard_from
  f_hears : Addr
  d_hears : FuncData
  o_hears : Own K mg "hears" (topS 7) ["rooms", "room"] f_hears d_hears
  f_law_hears : Addr
  d_law_hears : FuncData
  o_law_hears : Own K mg "_law_hears" (topS 15) ["rooms", "k"] f_law_hears d_law_hears
  f_sleepers : Addr
  d_sleepers : FuncData
  o_sleepers : Own K mg "sleepers" (topS 9) ["rooms", "bears"] f_sleepers d_sleepers
  f_quietest : Addr
  d_quietest : FuncData
  o_quietest : Own K mg "quietest" (topS 8) ["rooms"] f_quietest d_quietest
  f_law : Addr
  d_law : FuncData
  o_law : Own K mg "law" (topS 16) ["script"] f_law d_law
  m_abs : mg "abs" = none
  m_all : mg "all" = none
  m_bool : mg "bool" = none
  m_enumerate : mg "enumerate" = none
  m_int : mg "int" = none
  m_isinstance : mg "isinstance" = none
  m_len : mg "len" = none
  m_list : mg "list" = none
  m_max : mg "max" = none
  m_min : mg "min" = none
  m_range : mg "range" = none
  m_set : mg "set" = none
  m_sorted : mg "sorted" = none
  m_str : mg "str" = none
  m_sum : mg "sum" = none
  m_tuple : mg "tuple" = none
  m_permutations : mg "permutations" = some (.type "itertools.permutations")
  v_MOST : Glb K mg "MOST" (PyData.int C_MOST)
section
variable {P : Program} {w : World} {K : PySem.W.Frag} {mg : Str → Option Value} {base : Heap}
abbrev N11 : List Str := ["script"]
abbrev N12 : List Str := ["draw", "many", "found", "cell"]
abbrev N13 : List Str := ["actual", "due", "k"]
theorem sc11 : FnScope N11 ["script"] (defScope (topS 11)) := ⟨rfl, rfl, rfl, by decide +kernel, rfl, by decide +kernel, by decide +kernel⟩
theorem sc12 : FnScope N12 ["draw", "many"] (defScope (topS 12)) := ⟨rfl, rfl, rfl, by decide +kernel, rfl, by decide +kernel, by decide +kernel⟩
theorem sc13 : FnScope N13 ["actual", "due"] (defScope (topS 13)) := ⟨rfl, rfl, rfl, by decide +kernel, rfl, by decide +kernel, by decide +kernel⟩
theorem ok_draw (X : Txt K mg) : FnOk P w K mg base CX0 1 X.f_draw X.d_draw ["script"] (SpDraw K) := by
  refine fn_okF (A := List Int) (args := fun ns => [.dict [(.none, .list (ns.map .int))]]) X.o_draw.F sc11 (fun _ => rfl) (by decide) ?_
  intro ns _ _
  exact ⟨_, jss_rt (js_ret (je_lst (ja_cons (je_fz (je_listS rfl X.m_list (je_var 0))) (ja_cons je_int (ja_cons je_int (ja_cons je_int ja_nil))))))⟩
theorem ok_next (X : Txt K mg) : FnOk P w K mg base CX0 1 X.f_next X.d_next ["draw", "many"] (SpNext K) := by
  refine fn_okO (A := Dr × Int) (ρ := Int × Dr) X.o_next.F sc12 (fun r => .int r.1) (fun r => drD r.2) (fun a => nxt a.1 a.2) (fun _ => rfl) (by decide) ?_
  rintro ⟨⟨ns, i, x, st⟩, many⟩ p ⟨hm, hm'⟩ _
  have nd : (tc P w K mg base N12 (topS 12) 0).N.Nodup := sc12.nd
  have hdv : CDivN x many := ⟨by omega, by omega⟩
  show JB (tc P w K mg base N12 (topS 12) 0) (fun r => .int r.1) (fun r : Int × Dr => endO N12 p (drD r.2)) _ [.o (some p) (drD ⟨ns, i, x, st⟩), .d (.int many), .u, .u] (nxt ⟨ns, i, x, st⟩ many)
  unfold nxt
  refine jb_ifr (jt_c (cj_gt (j2d (je_ixL (j2bd (je_varB 0) je_int) rfl) je_int))) (fun hc => ?_) (fun hc => ?_)
  · refine jb_cons (e1 := [.o (some p) (drD ⟨ns, i, x, st⟩), .d (.int many), .d (.int (Int.fmod x many)), .u]) (js_set 2 nd (je_mod (j2d (je_intI rfl X.m_int (je_ixL (j2bd (je_varB 0) je_int) rfl)) (je_var 1)) (by show many ≠ 0; omega))) ?_
    refine jb_let (F := fun found => [.o (some p) (drD ⟨ns, i, x, st⟩), .d (.int many), .d (.int found), .u]) fun found h => ?_
    refine jb_cons (e1 := [.o (some p) (drD ⟨ns, i, Int.fdiv x many, st⟩), .d (.int many), .d (.int found), .u]) (js_setIx 0 (xs := [.list (ns.map .int), .int i, .int x, .int st]) (m := 2) rfl rfl (je_fdiv (j2d (je_ixL (j2bd (je_varB 0) je_int) rfl) (je_var 1)) hdv) je_int ⟨_, rfl⟩ rfl rfl) ?_
    refine jb_let (F := fun d : Dr => [.o (some p) (drD d), .d (.int many), .d (.int found), .u]) fun d h => ?_
    exact jb_ret (r := (found, d)) (je_var 2) (by walk_at "le")
  · refine jb_or (E := fun d : Dr => [.o (some p) (drD d), .d (.int many), .u, .u]) ?_ ?_
    · unfold nxtM
      refine js_ifM (jt_c (cj_lt (j2d (je_ixL (j2bd (je_varB 0) je_int) rfl) (je_lenL' rfl X.m_len (je_b (je_ixL (j2bd (je_varB 0) je_int) rfl)))))) (fun hc => ?_) (fun hc => ?_)
      · have hir : inR ns.length i := by
          have := of_decide_eq_true hc
          exact ⟨by omega, this⟩
        refine jm_cons (e1 := [.o (some p) (drD ⟨ns, i, x, st⟩), .d (.int many), .u, .d (.int (iabs (gI ns i)))]) (js_set 3 nd (je_abs rfl X.m_abs (je_ixL' (enc := PyData.int) (xs := ns) (j2d (je_ixL (j2bd (je_varB 0) je_int) rfl) (je_ixL (j2bd (je_varB 0) je_int) rfl)) hir))) ?_
        refine jm_let (F := fun cell => [.o (some p) (drD ⟨ns, i, x, st⟩), .d (.int many), .u, .d (.int cell)]) fun cell h => ?_
        refine jm_cons (e1 := [.o (some p) (drD ⟨ns, i + 1, x, st⟩), .d (.int many), .u, .d (.int cell)]) (js_setIx 0 (xs := [.list (ns.map .int), .int i, .int x, .int st]) (m := 1) rfl rfl (je_is (r := .d (.int ((i : Int) + 1))) (je_add (j2d (je_ixL (j2bd (je_varB 0) je_int) rfl) je_int)) rfl) je_int ⟨_, rfl⟩ rfl rfl) ?_
        refine jm_let (F := fun d : Dr => [.o (some p) (drD d), .d (.int many), .u, .d (.int cell)]) fun d h => ?_
        obtain ⟨ns, i, x, st⟩ := d
        refine jm_ifr (jt_c (cj_ge (j2d (je_var 3) (je_pow (j2d je_int je_int) ⟨by decide, by decide, by decide⟩)))) (fun hc => ?_) (fun hc => ?_)
        · refine jb_cons (e1 := [.o (some p) (drD ⟨ns, i, Int.fdiv cell many, st⟩), .d (.int many), .u, .d (.int cell)]) (js_setIx 0 (xs := [.list (ns.map .int), .int i, .int x, .int st]) (m := 2) rfl rfl (je_fdiv (j2d (je_var 3) (je_var 1)) ⟨by omega, by omega⟩) je_int ⟨_, rfl⟩ rfl rfl) ?_
          exact jb_ret (r := ((Int.fmod cell many, ⟨ns, i, Int.fdiv cell many, st⟩) : Int × Dr)) (je_mod (j2d (je_intI rfl X.m_int (je_var 3)) (je_var 1)) (by show many ≠ 0; omega)) (by walk_at "le")
        · refine jm_cons (e1 := [.o (some p) (drD ⟨ns, i, x, Int.fmod (st * 48271 + cell + 11) 2147483647⟩), .d (.int many), .u, .d (.int cell)]) (js_setIx 0 (xs := [.list (ns.map .int), .int i, .int x, .int st]) (m := 3) rfl rfl (je_mod (j2d (je_intI rfl X.m_int (je_add (j2d (je_add (j2d (je_mul (j2d (je_ixL (j2bd (je_varB 0) je_int) rfl) je_int) (.inr (by decide))) (je_var 3))) je_int))) je_int) (by decide)) je_int ⟨_, rfl⟩ rfl rfl) ?_
          exact jm_nil (by walk_at "le")
      · refine jm_cons (e1 := [.o (some p) (drD ⟨ns, i, x, Int.fmod (st * 48271 + 12345) 2147483647⟩), .d (.int many), .u, .u]) (js_setIx 0 (xs := [.list (ns.map .int), .int i, .int x, .int st]) (m := 3) rfl rfl (je_mod (j2d (je_intI rfl X.m_int (je_add (j2d (je_mul (j2d (je_ixL (j2bd (je_varB 0) je_int) rfl) je_int) (.inr (by decide))) je_int))) je_int) (by decide)) je_int ⟨_, rfl⟩ rfl rfl) ?_
        exact jm_nil (by walk_at "le")
    · rintro ⟨ns, i, x, st⟩ _
      exact jb_ret (r := ((Int.fmod (Int.fdiv (Int.fmod (st * 69621) 2147483629) 7) many, ⟨ns, i, x, st⟩) : Int × Dr)) (je_mod (j2d (je_fdiv (j2d (je_intI rfl X.m_int (je_mod (j2d (je_mul (j2d (je_ixL (j2bd (je_varB 0) je_int) rfl) je_int) (.inr (by decide))) je_int) (by decide))) je_int) ⟨by decide, by decide⟩) (je_var 1)) (by show many ≠ 0; omega)) (by walk_at "le")
theorem ok_same0 {f : Addr} {fd : FuncData} (F : Fun K "_law_same" "_law_same" (topS 13) f fd) (m_own : mg "_law_same" = some (.ref f)) (kp : PySem.W.keepIn K (.ref f) = true) (bi : Binds K fd ["actual", "due"] [])
    (m_isi : mg "isinstance" = none) (m_list : mg "list" = none) (m_tuple : mg "tuple" = none) (m_bool : mg "bool" = none) (m_str : mg "str" = none) (m_int : mg "int" = none) (m_len : mg "len" = none) (m_all : mg "all" = none) (m_range : mg "range" = none)
    (n : Nat) (ih : ∀ m, n = m + 1 → FnOk P w K mg base CX0 (m + 1) f fd ["actual", "due"] (SpSame K m)) : FnOk P w K mg base CX0 (n + 1) f fd ["actual", "due"] (SpSame K n) := by
  refine fn_ok (A := PyData × PyData) (args := fun a => [a.1, a.2]) F sc13 PyData.bool (fun a => sameD a.1 a.2) (fun _ => rfl) (by decide) ?_
  rintro ⟨ac, du⟩ hpre hlen
  have nd : (tc P w K mg base N13 (topS 13) n).N.Nodup := sc13.nd
  have hl1 : lenOk ac := hlen ac (by simp)
  have hl2 : lenOk du := hlen du (by simp)
  show JB (tc P w K mg base N13 (topS 13) n) PyData.bool (fun _ => uE N13) _ [.d ac, .d du, .u] (sameD ac du)
  -- due is no list and no tuple
  have A1 : ∀ {x y : PyData} {r : Bool}, noDc y = true → kitB (tyD y) "list" = some false → kitB (tyD y) "tuple" = some false →
      JB (tc P w K mg base N13 (topS 13) n) PyData.bool (fun _ => uE N13) ((defBody (topS 13)).drop 1) [.d x, .d y, .u] r → JB (tc P w K mg base N13 (topS 13) n) PyData.bool (fun _ => uE N13) (defBody (topS 13)) [.d x, .d y, .u] r := fun hy h1 h2 h3 =>
    jb_noc (jt_v (je_isi2 rfl m_isi rfl m_list b_list rfl m_tuple b_tuple (je_var 1) h1 h2 hy)) rfl h3
  -- due is None
  have A2 : ∀ {x : PyData}, JB (tc P w K mg base N13 (topS 13) n) PyData.bool (fun _ => uE N13) ((defBody (topS 13)).drop 1) [.d x, .d .none, .u] (isNoneD x) := fun {x} =>
    jb_yesc (jt_isN (je_b (je_var 1))) rfl (jb_ret (je_isN (je_b (je_var 0))) (by walk_at "le"))
  have A2n : ∀ {x y : PyData} {r : Bool}, isNoneD y = false →
      JB (tc P w K mg base N13 (topS 13) n) PyData.bool (fun _ => uE N13) ((defBody (topS 13)).drop 2) [.d x, .d y, .u] r → JB (tc P w K mg base N13 (topS 13) n) PyData.bool (fun _ => uE N13) ((defBody (topS 13)).drop 1) [.d x, .d y, .u] r := fun h h3 =>
    jb_noc (jt_isN (je_b (je_var 1))) h h3
  -- a bool against another kind
  have A3 : ∀ {x y : PyData} {b1 b2 : Bool}, noDc x = true → noDc y = true → kitB (tyD y) "bool" = some b1 → kitB (tyD x) "bool" = some b2 → b1 ≠ b2 →
      JB (tc P w K mg base N13 (topS 13) n) PyData.bool (fun _ => uE N13) ((defBody (topS 13)).drop 2) [.d x, .d y, .u] false := fun hx hy h1 h2 hne =>
    jb_yesc (jt_c (cj_neB (j2d (je_isi rfl m_isi rfl m_bool b_bool (je_var 1) h1 hy) (je_isi rfl m_isi rfl m_bool b_bool (je_var 0) h2 hx)))) (by simp [hne]) (jb_ret je_bl (by walk_at "le"))
  have A3n : ∀ {x y : PyData} {b : Bool} {r : Bool}, noDc x = true → noDc y = true → kitB (tyD y) "bool" = some b → kitB (tyD x) "bool" = some b →
      JB (tc P w K mg base N13 (topS 13) n) PyData.bool (fun _ => uE N13) ((defBody (topS 13)).drop 3) [.d x, .d y, .u] r → JB (tc P w K mg base N13 (topS 13) n) PyData.bool (fun _ => uE N13) ((defBody (topS 13)).drop 2) [.d x, .d y, .u] r := fun hx hy h1 h2 h3 =>
    jb_noc (jt_c (cj_neB (j2d (je_isi rfl m_isi rfl m_bool b_bool (je_var 1) h1 hy) (je_isi rfl m_isi rfl m_bool b_bool (je_var 0) h2 hx)))) (by simp) h3
  -- due is a text
  have A4 : ∀ {x : PyData} {t : Str} {b : Bool}, noDc x = true → kitB (tyD x) "str" = some b → shN 64 x = true →
      JB (tc P w K mg base N13 (topS 13) n) PyData.bool (fun _ => uE N13) ((defBody (topS 13)).drop 3) [.d x, .d (.str t), .u] (b && PyData.eqv x (.str t)) := fun hx h1 sh =>
    jb_yesc (jt_v (je_isi rfl m_isi rfl m_str b_str (je_var 1) (by walk_at "kt"))) rfl (jb_ret (je_and (je_isi rfl m_isi rfl m_str b_str (je_var 0) h1 hx) (fun _ => je_one (je_c (cj_eqD (j2d (je_var 0) (je_var 1)) sh)))) (by walk_at "le"))
  have A4n : ∀ {x y : PyData} {b : Bool}, noDc x = true → noDc y = true → kitB (tyD y) "str" = some false → kitB (tyD x) "int" = some b → shN 64 x = true → shN 64 y = true →
      JB (tc P w K mg base N13 (topS 13) n) PyData.bool (fun _ => uE N13) ((defBody (topS 13)).drop 3) [.d x, .d y, .u] (b && PyData.eqv x y) := fun hx hy h1 h2 sh sh2 =>
    jb_noc (jt_v (je_isi rfl m_isi rfl m_str b_str (je_var 1) h1 hy)) rfl (jb_ret (je_and (je_isi rfl m_isi rfl m_int b_int (je_var 0) h2 hx) (fun _ => je_one (je_c (cj_eqD (j2d (je_var 0) (je_var 1)) sh sh2)))) (by walk_at "le"))
  -- due is a list or a tuple, actual is none
  have A5 : ∀ {x y : PyData} {l1 l2 t1 t2 : Bool}, noDc x = true → noDc y = true → kitB (tyD y) "list" = some l1 → kitB (tyD y) "tuple" = some t1 → kitB (tyD x) "list" = some l2 → kitB (tyD x) "tuple" = some t2 → (l1 || t1) = true → ((!decide (l1 = l2)) || (!decide (t1 = t2))) = true →
      JB (tc P w K mg base N13 (topS 13) n) PyData.bool (fun _ => uE N13) (defBody (topS 13)) [.d x, .d y, .u] false := fun hx hy h1 h2 h3 h4 h5 h6 =>
    jb_yesc (jt_v (je_isi2 rfl m_isi rfl m_list b_list rfl m_tuple b_tuple (je_var 1) h1 h2 hy)) h5
      (jb_yesc (jt_w (jw_or (jt_c (cj_neB (j2d (je_isi rfl m_isi rfl m_list b_list (je_var 1) h1 hy) (je_isi rfl m_isi rfl m_list b_list (je_var 0) h3 hx))))
        (fun _ => jw_or1 (jt_c (cj_neB (j2d (je_isi rfl m_isi rfl m_tuple b_tuple (je_var 1) h2 hy) (je_isi rfl m_isi rfl m_tuple b_tuple (je_var 0) h4 hx))))))) h6 (jb_ret je_bl (by walk_at "le")))
  cases hpre with
  | non => exact A1 rfl (by walk_at "kt") (by walk_at "kt") A2
  | non2 hx => exact A1 rfl (by walk_at "kt") (by walk_at "kt") (jb_is A2 (by cases ac <;> first | rfl | cases hx))
  | int i j => exact A1 rfl (by walk_at "kt") (by walk_at "kt") (A2n rfl (A3n rfl rfl (b := false) (by walk_at "kt") (by walk_at "kt") (jb_is (A4n rfl rfl (b := true) (by walk_at "kt") (by walk_at "kt") rfl rfl) (by simp [sameD, PyData.eqv, Bool.beq_eq_decide_eq]))))
  | bool i j => exact A1 rfl (by walk_at "kt") (by walk_at "kt") (A2n rfl (A3n rfl rfl (b := true) (by walk_at "kt") (by walk_at "kt") (jb_is (A4n rfl rfl (b := true) (by walk_at "kt") (by walk_at "kt") rfl rfl) (by simp [sameD, PyData.eqv, Bool.beq_eq_decide_eq]))))
  | str i j => exact A1 rfl (by walk_at "kt") (by walk_at "kt") (A2n rfl (A3n rfl rfl (b := false) (by walk_at "kt") (by walk_at "kt") (jb_is (A4 rfl (b := true) (by walk_at "kt") rfl) (by simp [sameD, PyData.eqv, Bool.beq_eq_decide_eq]))))
  | non1 hy =>
    rcases noDc_cases hy with rfl | ⟨b, rfl⟩ | ⟨b, rfl⟩ | ⟨b, rfl⟩ | ⟨b, rfl⟩ | ⟨b, rfl⟩
    · exact A1 rfl (by walk_at "kt") (by walk_at "kt") A2
    · exact A1 rfl (by walk_at "kt") (by walk_at "kt") (A2n rfl (A3 rfl rfl (b1 := true) (b2 := false) (by walk_at "kt") (by walk_at "kt") (by decide)))
    · exact A1 rfl (by walk_at "kt") (by walk_at "kt") (A2n rfl (A3n rfl rfl (b := false) (by walk_at "kt") (by walk_at "kt") (jb_is (A4n rfl rfl (b := false) (by walk_at "kt") (by walk_at "kt") rfl rfl) rfl)))
    · exact A1 rfl (by walk_at "kt") (by walk_at "kt") (A2n rfl (A3n rfl rfl (b := false) (by walk_at "kt") (by walk_at "kt") (jb_is (A4 rfl (b := false) (by walk_at "kt") rfl) rfl)))
    · exact A5 rfl rfl (l1 := true) (t1 := false) (l2 := false) (t2 := false) (by walk_at "kt") (by walk_at "kt") (by walk_at "kt") (by walk_at "kt") rfl rfl
    · exact A5 rfl rfl (l1 := false) (t1 := true) (l2 := false) (t2 := false) (by walk_at "kt") (by walk_at "kt") (by walk_at "kt") (by walk_at "kt") rfl rfl
  | @lst m xs ys hxy =>
    have hl1 : xs.length ≤ 16777216 := hl1
    have hl2 : ys.length ≤ 16777216 := hl2
    refine jb_yesc (jt_v (je_isi2 (b1 := true) (b2 := false) rfl m_isi rfl m_list b_list rfl m_tuple b_tuple (je_var 1) (by walk_at "kt") (by walk_at "kt"))) rfl ?_
    refine jb_noc (jt_w (jw_or (jt_c (cj_neB (j2d (je_isi (c := true) rfl m_isi rfl m_list b_list (je_var 1) (by walk_at "kt")) (je_isi (c := true) rfl m_isi rfl m_list b_list (je_var 0) (by walk_at "kt")))))
        (fun _ => jw_or1 (jt_c (cj_neB (j2d (je_isi (c := false) rfl m_isi rfl m_tuple b_tuple (je_var 1) (by walk_at "kt")) (je_isi (c := false) rfl m_isi rfl m_tuple b_tuple (je_var 0) (by walk_at "kt")))))))) rfl ?_
    refine jb_is (jb_ifr (r := false) (r' := sameD.sameAll xs ys) (jt_c (cj_neI (j2d (je_lenL rfl m_len (je_b (je_var 0))) (je_lenL rfl m_len (je_b (je_var 1)))))) (fun _ => jb_ret je_bl (by walk_at "le")) (fun hc => ?_)) (sameD_list xs ys)
    have hl := of_nec hc
    rw [sameAll_map xs ys hl]
    refine jb_ret (je_all rfl m_all (je_b (je_fz (je_lc0 (enc := PyData.int) (dec := PyData.bool) [("k", 2)] (fun k => sameD (gI xs k) (gI ys k)) (ji_range1 rfl m_range (je_lenL rfl m_len (je_b (je_var 1))) ⟨by omega, by omega⟩) nd rfl (unk_of rfl) (fun k hk => ?_))))) (by walk_at "le")
    have hk := rgI_mem hk
    refine lcp (js := [2]) (by simp) (jg_name 2 nd) jts_nil (le_r (le_r (le_u le_nil))) fun _ => ?_
    refine je_call' (A := PyData × PyData) (ih m rfl) (gI xs k, gI ys k) m_own kp bi (ja_cons (je_ixL (j2d (je_var 0) (je_var 2)) (gI_some ⟨by omega, by omega⟩)) (ja_cons (je_ixL (j2d (je_var 1) (je_var 2)) (gI_some ⟨by omega, by omega⟩)) ja_nil)) ?_ rfl (Nat.le_refl _)
    refine hxy k.toNat _ _ (gI_getE ⟨by omega, by omega⟩) (gI_getE ⟨by omega, by omega⟩)
  | @tup m xs ys hxy =>
    have hl1 : xs.length ≤ 16777216 := hl1
    have hl2 : ys.length ≤ 16777216 := hl2
    refine jb_yesc (jt_v (je_isi2 (b1 := false) (b2 := true) rfl m_isi rfl m_list b_list rfl m_tuple b_tuple (je_var 1) (by walk_at "kt") (by walk_at "kt"))) rfl ?_
    refine jb_noc (jt_w (jw_or (jt_c (cj_neB (j2d (je_isi (c := false) rfl m_isi rfl m_list b_list (je_var 1) (by walk_at "kt")) (je_isi (c := false) rfl m_isi rfl m_list b_list (je_var 0) (by walk_at "kt")))))
        (fun _ => jw_or1 (jt_c (cj_neB (j2d (je_isi (c := true) rfl m_isi rfl m_tuple b_tuple (je_var 1) (by walk_at "kt")) (je_isi (c := true) rfl m_isi rfl m_tuple b_tuple (je_var 0) (by walk_at "kt")))))))) rfl ?_
    refine jb_is (jb_ifr (r := false) (r' := sameD.sameAll xs ys) (jt_c (cj_neI (j2d (je_lenT rfl m_len (je_b (je_var 0))) (je_lenT rfl m_len (je_b (je_var 1)))))) (fun _ => jb_ret je_bl (by walk_at "le")) (fun hc => ?_)) (sameD_tuple xs ys)
    have hl := of_nec hc
    rw [sameAll_map xs ys hl]
    refine jb_ret (je_all rfl m_all (je_b (je_fz (je_lc0 (enc := PyData.int) (dec := PyData.bool) [("k", 2)] (fun k => sameD (gI xs k) (gI ys k)) (ji_range1 rfl m_range (je_lenT rfl m_len (je_b (je_var 1))) ⟨by omega, by omega⟩) nd rfl (unk_of rfl) (fun k hk => ?_))))) (by walk_at "le")
    have hk := rgI_mem hk
    refine lcp (js := [2]) (by simp) (jg_name 2 nd) jts_nil (le_r (le_r (le_u le_nil))) fun _ => ?_
    refine je_call' (A := PyData × PyData) (ih m rfl) (gI xs k, gI ys k) m_own kp bi (ja_cons (je_ixT (j2d (je_var 0) (je_var 2)) (gI_some ⟨by omega, by omega⟩)) (ja_cons (je_ixT (j2d (je_var 1) (je_var 2)) (gI_some ⟨by omega, by omega⟩)) ja_nil)) ?_ rfl (Nat.le_refl _)
    refine hxy k.toNat _ _ (gI_getE ⟨by omega, by omega⟩) (gI_getE ⟨by omega, by omega⟩)
theorem ok_same (X : Txt K mg) : ∀ n : Nat, FnOk P w K mg base CX0 (n + 1) X.f_same X.d_same ["actual", "due"] (SpSame K n) := by
  intro n
  induction n with
  | zero => exact ok_same0 X.o_same.F X.o_same.m X.o_same.F.kp X.o_same.b X.m_isinstance X.m_list X.m_tuple X.m_bool X.m_str X.m_int X.m_len X.m_all X.m_range 0 (fun m h => by cases h)
  | succ n ih => exact ok_same0 X.o_same.F X.o_same.m X.o_same.F.kp X.o_same.b X.m_isinstance X.m_list X.m_tuple X.m_bool X.m_str X.m_int X.m_len X.m_all X.m_range (n + 1) (fun m h => by cases h; exact ih)
def hours_of_t_18 (pounds_0 : Int) (ice_13 : Int) : Int :=
  Let ((ice_13 + pounds_0) : Int) fun ice_17 =>
  ice_17
def hours_of_t_18_ok (pounds_0 : Int) (ice_13 : Int) : Prop :=
  Let ((ice_13 + pounds_0) : Int) fun ice_17 =>
  True
def hours_of_e_19 (ice_13 : Int) : Int :=
  ice_13
def hours_of_e_19_ok (ice_13 : Int) : Prop :=
  True
def hours_of_s_26 (pounds_0 : Int) (hours_0 : Int) (melts_0 : Int) (l_6 : (Int × (List (Int × Int)))) (x_7 : (Int × Int)) : (Int × (List (Int × Int))) :=
  Let ((min l_6.1 x_7.2) : Int) fun taken_9 =>
  Let ((l_6.1 - taken_9) : Int) fun ice_11 =>
  Let ((max (0 : Int) (ice_11 - (-(Int.fdiv (-ice_11) melts_0)))) : Int) fun ice_13 =>
  Let (if (decide ((Int.fmod (x_7.1 + (1 : Int)) hours_0) = (0 : Int))) = true then hours_of_t_18 pounds_0 ice_13 else hours_of_e_19 ice_13 : Int) fun l_20 =>
  Let ((l_6.2 ++ [(l_20, (x_7.2 - taken_9))]) : (List (Int × Int))) fun found_24 =>
  (l_20, found_24)
def hours_of_s_26_ok (pounds_0 : Int) (hours_0 : Int) (melts_0 : Int) (l_6 : (Int × (List (Int × Int)))) (x_7 : (Int × Int)) : Prop :=
  Let ((min l_6.1 x_7.2) : Int) fun taken_9 =>
  Let ((l_6.1 - taken_9) : Int) fun ice_11 =>
  ((CDivN (-ice_11) melts_0)) ∧
  Let ((max (0 : Int) (ice_11 - (-(Int.fdiv (-ice_11) melts_0)))) : Int) fun ice_13 =>
  ((hours_0 ≠ 0)) ∧
  ((decide ((Int.fmod (x_7.1 + (1 : Int)) hours_0) = (0 : Int))) = true → hours_of_t_18_ok pounds_0 ice_13) ∧
  ((decide ((Int.fmod (x_7.1 + (1 : Int)) hours_0) = (0 : Int))) = false → hours_of_e_19_ok ice_13) ∧
  Let (if (decide ((Int.fmod (x_7.1 + (1 : Int)) hours_0) = (0 : Int))) = true then hours_of_t_18 pounds_0 ice_13 else hours_of_e_19 ice_13 : Int) fun l_20 =>
  ((l_6.2.length < LN)) ∧
  Let ((l_6.2 ++ [(l_20, (x_7.2 - taken_9))]) : (List (Int × Int))) fun found_24 =>
  True
def hours_of (pounds_0 : Int) (hours_0 : Int) (melts_0 : Int) (wants_0 : (List Int)) : (List (Int × Int)) :=
  Let (([] : (List (Int × Int))) : (List (Int × Int))) fun found_2 =>
  Let ((0 : Int) : Int) fun ice_4 =>
  Let ((enumL wants_0).foldl (hours_of_s_26 pounds_0 hours_0 melts_0) (ice_4, found_2) : (Int × (List (Int × Int)))) fun l_31 =>
  l_31.2
def hours_of_ok (pounds_0 : Int) (hours_0 : Int) (melts_0 : Int) (wants_0 : (List Int)) : Prop :=
  Let (([] : (List (Int × Int))) : (List (Int × Int))) fun found_2 =>
  Let ((0 : Int) : Int) fun ice_4 =>
  (∀ (i_29 : Nat) (x_7 : (Int × Int)) (l_6 : (Int × (List (Int × Int)))), (enumL wants_0)[i_29]? = some x_7 → l_6 = ((enumL wants_0).take i_29).foldl (hours_of_s_26 pounds_0 hours_0 melts_0) (ice_4, found_2) → hours_of_s_26_ok pounds_0 hours_0 melts_0 l_6 x_7) ∧
  Let ((enumL wants_0).foldl (hours_of_s_26 pounds_0 hours_0 melts_0) (ice_4, found_2) : (Int × (List (Int × Int)))) fun l_31 =>
  True
abbrev N_hours_of : List Str := ["pounds", "hours", "melts", "wants", "found", "ice", "hour", "want", "taken"]
theorem sc_hours_of : FnScope N_hours_of ["pounds", "hours", "melts", "wants"] (defScope (topS 3)) := ⟨rfl, rfl, rfl, by decide +kernel, rfl, by decide +kernel, by decide +kernel⟩
theorem ok_hours_of (X : Txt K mg) : FnOk P w K mg base CX0 1 X.f_hours_of X.d_hours_of ["pounds", "hours", "melts", "wants"] (SpD K (fun a : Int × Int × Int × (List Int) => hours_of_ok a.1 a.2.1 a.2.2.1 a.2.2.2) (fun a => [PyData.int a.1, PyData.int a.2.1, PyData.int a.2.2.1, (eT PyData.int) a.2.2.2]) (fun a => (eT (eP2 PyData.int PyData.int)) (hours_of a.1 a.2.1 a.2.2.1 a.2.2.2))) := by
  refine fn_ok (A := Int × Int × Int × (List Int)) (args := fun a => [PyData.int a.1, PyData.int a.2.1, PyData.int a.2.2.1, (eT PyData.int) a.2.2.2]) X.o_hours_of.F sc_hours_of (eT (eP2 PyData.int PyData.int)) (fun a => hours_of a.1 a.2.1 a.2.2.1 a.2.2.2) (fun _ => rfl) (by decide) ?_
  rintro ⟨pounds_0, hours_0, melts_0, wants_0⟩ hok hlen
  have nd : (tc P w K mg base N_hours_of (topS 3) 0).N.Nodup := sc_hours_of.nd
  show JB (tc P w K mg base N_hours_of (topS 3) 0) (eT (eP2 PyData.int PyData.int)) (fun _ => uE N_hours_of) _ [.d (PyData.int pounds_0), .d (PyData.int hours_0), .d (PyData.int melts_0), .d ((eT PyData.int) wants_0), .u, .u, .u, .u, .u] (hours_of pounds_0 hours_0 melts_0 wants_0)
  have hok : hours_of_ok pounds_0 hours_0 melts_0 wants_0 := hok
  unfold hours_of_ok at hok
  unfold hours_of
  refine jb_cons (js_setO 4 nd (je_lst ja_nil)) ?_
  refine jb_let (F := fun found_2 : (List (Int × Int)) => [.d (PyData.int pounds_0), .d (PyData.int hours_0), .d (PyData.int melts_0), .d ((eT PyData.int) wants_0), .o none ((eL (eP2 PyData.int PyData.int)) found_2), .u, .u, .u, .u]) (v := (([] : (List (Int × Int))) : (List (Int × Int)))) fun found_2 e_found_2 => ?_
  have hok := let_ok hok found_2 e_found_2
  refine jb_cons (js_set 5 nd je_int) ?_
  refine jb_let (F := fun ice_4 : Int => [.d (PyData.int pounds_0), .d (PyData.int hours_0), .d (PyData.int melts_0), .d ((eT PyData.int) wants_0), .o none ((eL (eP2 PyData.int PyData.int)) found_2), .d (PyData.int ice_4), .u, .u, .u]) (v := ((0 : Int) : Int)) fun ice_4 e_ice_4 => ?_
  have hok := let_ok hok ice_4 e_ice_4
  obtain ⟨hf_30, hok⟩ := hok
  refine jb_cons (js_forN (enc := (eP2 PyData.int PyData.int)) (fun l : (Int × (List (Int × Int))) => [.d (PyData.int pounds_0), .d (PyData.int hours_0), .d (PyData.int melts_0), .d ((eT PyData.int) wants_0), .o none ((eL (eP2 PyData.int PyData.int)) l.2), .d (PyData.int l.1), .u, .u, .u]) (hours_of_s_26 pounds_0 hours_0 melts_0) (ice_4, found_2) (ji_enumT' rfl X.m_enumerate (je_var 3)) (by walk_at "le") (fun i_29 x_7 l_6 hx_27 hl_28 => ?_)) ?_
  · have hok := hf_30 i_29 x_7 l_6 hx_27 hl_28
    unfold hours_of_s_26_ok at hok
    unfold hours_of_s_26
    refine ⟨[6, 7], [.d (PyData.int pounds_0), .d (PyData.int hours_0), .d (PyData.int melts_0), .d ((eT PyData.int) wants_0), .o none ((eL (eP2 PyData.int PyData.int)) l_6.2), .d (PyData.int l_6.1), .d (PyData.int x_7.1), .d (PyData.int x_7.2), .u], (jg_tup (jgs_cons (jg_name 6 (by exact nd)) (jgs_cons (jg_name 7 (by exact nd)) jgs_nil))), ?_⟩
    refine jn_cons (js_set 8 nd (je_min2 rfl X.m_min (ja_cons (je_var 5) (ja_cons (je_var 7) ja_nil)))) ?_
    refine jn_let (F := fun taken_9 : Int => [.d (PyData.int pounds_0), .d (PyData.int hours_0), .d (PyData.int melts_0), .d ((eT PyData.int) wants_0), .o none ((eL (eP2 PyData.int PyData.int)) l_6.2), .d (PyData.int l_6.1), .d (PyData.int x_7.1), .d (PyData.int x_7.2), .d (PyData.int taken_9)]) (v := ((min l_6.1 x_7.2) : Int)) fun taken_9 e_taken_9 => ?_
    have hok := let_ok hok taken_9 e_taken_9
    refine jn_cons (js_set 5 nd (je_sub (j2d (je_var 5) (je_var 8)))) ?_
    refine jn_let (F := fun ice_11 : Int => [.d (PyData.int pounds_0), .d (PyData.int hours_0), .d (PyData.int melts_0), .d ((eT PyData.int) wants_0), .o none ((eL (eP2 PyData.int PyData.int)) l_6.2), .d (PyData.int ice_11), .d (PyData.int x_7.1), .d (PyData.int x_7.2), .d (PyData.int taken_9)]) (v := ((l_6.1 - taken_9) : Int)) fun ice_11 e_ice_11 => ?_
    have hok := let_ok hok ice_11 e_ice_11
    obtain ⟨hs_12, hok⟩ := hok
    refine jn_cons (js_set 5 nd (je_max2 rfl X.m_max (ja_cons je_int (ja_cons (je_sub (j2d (je_var 5) (je_neg (je_fdiv (j2d (je_neg (je_var 5)) (je_var 2)) hs_12)))) ja_nil)))) ?_
    refine jn_let (F := fun ice_13 : Int => [.d (PyData.int pounds_0), .d (PyData.int hours_0), .d (PyData.int melts_0), .d ((eT PyData.int) wants_0), .o none ((eL (eP2 PyData.int PyData.int)) l_6.2), .d (PyData.int ice_13), .d (PyData.int x_7.1), .d (PyData.int x_7.2), .d (PyData.int taken_9)]) (v := ((max (0 : Int) (ice_11 - (-(Int.fdiv (-ice_11) melts_0)))) : Int)) fun ice_13 e_ice_13 => ?_
    have hok := let_ok hok ice_13 e_ice_13
    obtain ⟨hs_14, hok⟩ := hok
    obtain ⟨ha_21, hb_22, hok⟩ := hok
    refine jn_cons (js_ifN (l := hours_of_t_18 pounds_0 ice_13) (l' := hours_of_e_19 ice_13) (E := fun l : Int => [.d (PyData.int pounds_0), .d (PyData.int hours_0), .d (PyData.int melts_0), .d ((eT PyData.int) wants_0), .o none ((eL (eP2 PyData.int PyData.int)) l_6.2), .d (PyData.int l), .d (PyData.int x_7.1), .d (PyData.int x_7.2), .d (PyData.int taken_9)]) (jt_c (cj_eqI (j2d (je_mod (j2d (je_add (j2d (je_var 6) je_int)) (je_var 1)) hs_14) je_int))) (fun hc_15 => ?_) (fun hc_15 => ?_)) ?_
    · have hok := ha_21 hc_15
      unfold hours_of_t_18_ok at hok
      unfold hours_of_t_18
      refine jn_cons (js_set 5 nd (je_add (j2d (je_var 5) (je_var 0)))) ?_
      refine jn_let (F := fun ice_17 : Int => [.d (PyData.int pounds_0), .d (PyData.int hours_0), .d (PyData.int melts_0), .d ((eT PyData.int) wants_0), .o none ((eL (eP2 PyData.int PyData.int)) l_6.2), .d (PyData.int ice_17), .d (PyData.int x_7.1), .d (PyData.int x_7.2), .d (PyData.int taken_9)]) (v := ((ice_13 + pounds_0) : Int)) fun ice_17 e_ice_17 => ?_
      have hok := let_ok hok ice_17 e_ice_17
      exact jn_nil (by walk_at "le")
    · have hok := hb_22 hc_15
      unfold hours_of_e_19_ok at hok
      unfold hours_of_e_19
      exact jn_nil (by walk_at "le")
    refine jn_let (F := fun l : Int => [.d (PyData.int pounds_0), .d (PyData.int hours_0), .d (PyData.int melts_0), .d ((eT PyData.int) wants_0), .o none ((eL (eP2 PyData.int PyData.int)) l_6.2), .d (PyData.int l), .d (PyData.int x_7.1), .d (PyData.int x_7.2), .d (PyData.int taken_9)]) fun l_20 e_l_20 => ?_
    have hok := let_ok hok l_20 e_l_20
    obtain ⟨hs_23, hok⟩ := hok
    refine jn_cons (js_expr (je_append' (enc := (eP2 PyData.int PyData.int)) (xs := l_6.2) (x := (l_20, (x_7.2 - taken_9))) 4 (je_tup (ja_cons (je_var 5) (ja_cons (je_sub (j2d (je_var 7) (je_var 8))) ja_nil))) hs_23)) ?_
    refine jn_let (F := fun found_24 : (List (Int × Int)) => [.d (PyData.int pounds_0), .d (PyData.int hours_0), .d (PyData.int melts_0), .d ((eT PyData.int) wants_0), .o none ((eL (eP2 PyData.int PyData.int)) found_24), .d (PyData.int l_20), .d (PyData.int x_7.1), .d (PyData.int x_7.2), .d (PyData.int taken_9)]) (v := ((l_6.2 ++ [(l_20, (x_7.2 - taken_9))]) : (List (Int × Int)))) fun found_24 e_found_24 => ?_
    have hok := let_ok hok found_24 e_found_24
    exact jn_nil (by walk_at "le")
  refine jb_let (F := fun l : (Int × (List (Int × Int))) => [.d (PyData.int pounds_0), .d (PyData.int hours_0), .d (PyData.int melts_0), .d ((eT PyData.int) wants_0), .o none ((eL (eP2 PyData.int PyData.int)) l.2), .d (PyData.int l.1), .u, .u, .u]) fun l_31 e_l_31 => ?_
  have hok := let_ok hok l_31 e_l_31
  have hs_32 := hok
  exact jb_ret (je_tupL (xs := l_31.2.map (eP2 PyData.int PyData.int)) rfl X.m_tuple (je_varB 4)) (by walk_at "le")

def law_ice_s_19 (pounds_0 : Int) (hours_0 : Int) (melts_0 : Int) (wants_0 : (List Int)) (l_5 : (Int × (List (Int × Int)))) (x_6 : Int) : (Int × (List (Int × Int))) :=
  Let ((max (0 : Int) ((gI wants_0 x_6) - l_5.1)) : Int) fun lacks_8 =>
  Let ((max (0 : Int) (l_5.1 - (gI wants_0 x_6))) : Int) fun ice_10 =>
  Let ((Int.fdiv ((ice_10 + melts_0) - (1 : Int)) melts_0) : Int) fun gone_12 =>
  Let (((ice_10 - gone_12) + (if (decide ((Int.fdiv x_6 hours_0) < (Int.fdiv (x_6 + (1 : Int)) hours_0))) = true then pounds_0 else (0 : Int))) : Int) fun ice_15 =>
  Let ((l_5.2 ++ [(ice_15, lacks_8)]) : (List (Int × Int))) fun row_17 =>
  (ice_15, row_17)
def law_ice_s_19_ok (pounds_0 : Int) (hours_0 : Int) (melts_0 : Int) (wants_0 : (List Int)) (l_5 : (Int × (List (Int × Int)))) (x_6 : Int) : Prop :=
  ((inR wants_0.length x_6)) ∧
  Let ((max (0 : Int) ((gI wants_0 x_6) - l_5.1)) : Int) fun lacks_8 =>
  ((inR wants_0.length x_6)) ∧
  Let ((max (0 : Int) (l_5.1 - (gI wants_0 x_6))) : Int) fun ice_10 =>
  ((CDivN ((ice_10 + melts_0) - (1 : Int)) melts_0)) ∧
  Let ((Int.fdiv ((ice_10 + melts_0) - (1 : Int)) melts_0) : Int) fun gone_12 =>
  ((CDivN (x_6 + (1 : Int)) hours_0) ∧ (CDivN x_6 hours_0)) ∧
  Let (((ice_10 - gone_12) + (if (decide ((Int.fdiv x_6 hours_0) < (Int.fdiv (x_6 + (1 : Int)) hours_0))) = true then pounds_0 else (0 : Int))) : Int) fun ice_15 =>
  ((l_5.2.length < LN)) ∧
  Let ((l_5.2 ++ [(ice_15, lacks_8)]) : (List (Int × Int))) fun row_17 =>
  True
def law_ice (pounds_0 : Int) (hours_0 : Int) (melts_0 : Int) (wants_0 : (List Int)) : (List (Int × Int)) :=
  Let ((0 : Int) : Int) fun ice_2 =>
  Let (([] : (List (Int × Int))) : (List (Int × Int))) fun row_3 =>
  Let ((rgI 0 (wants_0.length : Int)).foldl (law_ice_s_19 pounds_0 hours_0 melts_0 wants_0) (ice_2, row_3) : (Int × (List (Int × Int)))) fun l_24 =>
  l_24.2
def law_ice_ok (pounds_0 : Int) (hours_0 : Int) (melts_0 : Int) (wants_0 : (List Int)) : Prop :=
  Let ((0 : Int) : Int) fun ice_2 =>
  Let (([] : (List (Int × Int))) : (List (Int × Int))) fun row_3 =>
  ((rg1 (wants_0.length : Int))) ∧
  (∀ (i_22 : Nat) (x_6 : Int) (l_5 : (Int × (List (Int × Int)))), (rgI 0 (wants_0.length : Int))[i_22]? = some x_6 → l_5 = ((rgI 0 (wants_0.length : Int)).take i_22).foldl (law_ice_s_19 pounds_0 hours_0 melts_0 wants_0) (ice_2, row_3) → law_ice_s_19_ok pounds_0 hours_0 melts_0 wants_0 l_5 x_6) ∧
  Let ((rgI 0 (wants_0.length : Int)).foldl (law_ice_s_19 pounds_0 hours_0 melts_0 wants_0) (ice_2, row_3) : (Int × (List (Int × Int)))) fun l_24 =>
  True
abbrev N_law_ice : List Str := ["pounds", "hours", "melts", "wants", "ice", "row", "hour", "lacks", "gone"]
theorem sc_law_ice : FnScope N_law_ice ["pounds", "hours", "melts", "wants"] (defScope (topS 14)) := ⟨rfl, rfl, rfl, by decide +kernel, rfl, by decide +kernel, by decide +kernel⟩
theorem ok_law_ice (X : Txt K mg) : FnOk P w K mg base CX0 1 X.f_law_ice X.d_law_ice ["pounds", "hours", "melts", "wants"] (SpD K (fun a : Int × Int × Int × (List Int) => law_ice_ok a.1 a.2.1 a.2.2.1 a.2.2.2) (fun a => [PyData.int a.1, PyData.int a.2.1, PyData.int a.2.2.1, (eT PyData.int) a.2.2.2]) (fun a => (eL (eP2 PyData.int PyData.int)) (law_ice a.1 a.2.1 a.2.2.1 a.2.2.2))) := by
  refine fn_ok (A := Int × Int × Int × (List Int)) (args := fun a => [PyData.int a.1, PyData.int a.2.1, PyData.int a.2.2.1, (eT PyData.int) a.2.2.2]) X.o_law_ice.F sc_law_ice (eL (eP2 PyData.int PyData.int)) (fun a => law_ice a.1 a.2.1 a.2.2.1 a.2.2.2) (fun _ => rfl) (by decide) ?_
  rintro ⟨pounds_0, hours_0, melts_0, wants_0⟩ hok hlen
  have nd : (tc P w K mg base N_law_ice (topS 14) 0).N.Nodup := sc_law_ice.nd
  show JB (tc P w K mg base N_law_ice (topS 14) 0) (eL (eP2 PyData.int PyData.int)) (fun _ => uE N_law_ice) _ [.d (PyData.int pounds_0), .d (PyData.int hours_0), .d (PyData.int melts_0), .d ((eT PyData.int) wants_0), .u, .u, .u, .u, .u] (law_ice pounds_0 hours_0 melts_0 wants_0)
  have hok : law_ice_ok pounds_0 hours_0 melts_0 wants_0 := hok
  unfold law_ice_ok at hok
  unfold law_ice
  refine jb_cons (js_par2 4 5 nd rfl rfl (by decide) rfl rfl (jao_d je_int (jao_o (je_lst ja_nil) jao_nil)) (by walk_at "hw")) ?_
  refine jb_let (F := fun ice_2 : Int => [.d (PyData.int pounds_0), .d (PyData.int hours_0), .d (PyData.int melts_0), .d ((eT PyData.int) wants_0), .d (PyData.int ice_2), .o none ((eL (eP2 PyData.int PyData.int)) ([] : (List (Int × Int)))), .u, .u, .u]) (v := ((0 : Int) : Int)) fun ice_2 e_ice_2 => ?_
  have hok := let_ok hok ice_2 e_ice_2
  refine jb_let (F := fun row_3 : (List (Int × Int)) => [.d (PyData.int pounds_0), .d (PyData.int hours_0), .d (PyData.int melts_0), .d ((eT PyData.int) wants_0), .d (PyData.int ice_2), .o none ((eL (eP2 PyData.int PyData.int)) row_3), .u, .u, .u]) (v := (([] : (List (Int × Int))) : (List (Int × Int)))) fun row_3 e_row_3 => ?_
  have hok := let_ok hok row_3 e_row_3
  obtain ⟨hs_4, hok⟩ := hok
  obtain ⟨hf_23, hok⟩ := hok
  refine jb_cons (js_forN (enc := PyData.int) (fun l : (Int × (List (Int × Int))) => [.d (PyData.int pounds_0), .d (PyData.int hours_0), .d (PyData.int melts_0), .d ((eT PyData.int) wants_0), .d (PyData.int l.1), .o none ((eL (eP2 PyData.int PyData.int)) l.2), .u, .u, .u]) (law_ice_s_19 pounds_0 hours_0 melts_0 wants_0) (ice_2, row_3) (ji_range1 rfl X.m_range (je_lenT' rfl X.m_len (je_b (je_var 3))) hs_4) (by walk_at "le") (fun i_22 x_6 l_5 hx_20 hl_21 => ?_)) ?_
  · have hok := hf_23 i_22 x_6 l_5 hx_20 hl_21
    unfold law_ice_s_19_ok at hok
    unfold law_ice_s_19
    refine ⟨[6], [.d (PyData.int pounds_0), .d (PyData.int hours_0), .d (PyData.int melts_0), .d ((eT PyData.int) wants_0), .d (PyData.int l_5.1), .o none ((eL (eP2 PyData.int PyData.int)) l_5.2), .d (PyData.int x_6), .u, .u], (jg_name 6 (by exact nd)), ?_⟩
    obtain ⟨hs_7, hok⟩ := hok
    refine jn_cons (js_set 7 nd (je_max2 rfl X.m_max (ja_cons je_int (ja_cons (je_sub (j2d (je_ixT' (enc := PyData.int) (j2d (je_var 3) (je_var 6)) hs_7) (je_var 4))) ja_nil)))) ?_
    refine jn_let (F := fun lacks_8 : Int => [.d (PyData.int pounds_0), .d (PyData.int hours_0), .d (PyData.int melts_0), .d ((eT PyData.int) wants_0), .d (PyData.int l_5.1), .o none ((eL (eP2 PyData.int PyData.int)) l_5.2), .d (PyData.int x_6), .d (PyData.int lacks_8), .u]) (v := ((max (0 : Int) ((gI wants_0 x_6) - l_5.1)) : Int)) fun lacks_8 e_lacks_8 => ?_
    have hok := let_ok hok lacks_8 e_lacks_8
    obtain ⟨hs_9, hok⟩ := hok
    refine jn_cons (js_set 4 nd (je_max2 rfl X.m_max (ja_cons je_int (ja_cons (je_sub (j2d (je_var 4) (je_ixT' (enc := PyData.int) (j2d (je_var 3) (je_var 6)) hs_9))) ja_nil)))) ?_
    refine jn_let (F := fun ice_10 : Int => [.d (PyData.int pounds_0), .d (PyData.int hours_0), .d (PyData.int melts_0), .d ((eT PyData.int) wants_0), .d (PyData.int ice_10), .o none ((eL (eP2 PyData.int PyData.int)) l_5.2), .d (PyData.int x_6), .d (PyData.int lacks_8), .u]) (v := ((max (0 : Int) (l_5.1 - (gI wants_0 x_6))) : Int)) fun ice_10 e_ice_10 => ?_
    have hok := let_ok hok ice_10 e_ice_10
    obtain ⟨hs_11, hok⟩ := hok
    refine jn_cons (js_set 8 nd (je_fdiv (j2d (je_sub (j2d (je_add (j2d (je_var 4) (je_var 2))) je_int)) (je_var 2)) hs_11)) ?_
    refine jn_let (F := fun gone_12 : Int => [.d (PyData.int pounds_0), .d (PyData.int hours_0), .d (PyData.int melts_0), .d ((eT PyData.int) wants_0), .d (PyData.int ice_10), .o none ((eL (eP2 PyData.int PyData.int)) l_5.2), .d (PyData.int x_6), .d (PyData.int lacks_8), .d (PyData.int gone_12)]) (v := ((Int.fdiv ((ice_10 + melts_0) - (1 : Int)) melts_0) : Int)) fun gone_12 e_gone_12 => ?_
    have hok := let_ok hok gone_12 e_gone_12
    obtain ⟨hs_14, hok⟩ := hok
    refine jn_cons (js_set 4 nd (je_add (j2d (je_sub (j2d (je_var 4) (je_var 8))) (je_ifc (u := pounds_0) (w := (0 : Int)) PyData.int (jt_c (cj_gt (j2d (je_fdiv (j2d (je_add (j2d (je_var 6) je_int)) (je_var 1)) hs_14.1) (je_fdiv (j2d (je_var 6) (je_var 1)) hs_14.2)))) (fun hc_13 => (je_var 0)) (fun hc_13 => je_int))))) ?_
    refine jn_let (F := fun ice_15 : Int => [.d (PyData.int pounds_0), .d (PyData.int hours_0), .d (PyData.int melts_0), .d ((eT PyData.int) wants_0), .d (PyData.int ice_15), .o none ((eL (eP2 PyData.int PyData.int)) l_5.2), .d (PyData.int x_6), .d (PyData.int lacks_8), .d (PyData.int gone_12)]) (v := (((ice_10 - gone_12) + (if (decide ((Int.fdiv x_6 hours_0) < (Int.fdiv (x_6 + (1 : Int)) hours_0))) = true then pounds_0 else (0 : Int))) : Int)) fun ice_15 e_ice_15 => ?_
    have hok := let_ok hok ice_15 e_ice_15
    obtain ⟨hs_16, hok⟩ := hok
    refine jn_cons (js_expr (je_append' (enc := (eP2 PyData.int PyData.int)) (xs := l_5.2) (x := (ice_15, lacks_8)) 5 (je_tup (ja_cons (je_var 4) (ja_cons (je_var 7) ja_nil))) hs_16)) ?_
    refine jn_let (F := fun row_17 : (List (Int × Int)) => [.d (PyData.int pounds_0), .d (PyData.int hours_0), .d (PyData.int melts_0), .d ((eT PyData.int) wants_0), .d (PyData.int ice_15), .o none ((eL (eP2 PyData.int PyData.int)) row_17), .d (PyData.int x_6), .d (PyData.int lacks_8), .d (PyData.int gone_12)]) (v := ((l_5.2 ++ [(ice_15, lacks_8)]) : (List (Int × Int)))) fun row_17 e_row_17 => ?_
    have hok := let_ok hok row_17 e_row_17
    exact jn_nil (by walk_at "le")
  refine jb_let (F := fun l : (Int × (List (Int × Int))) => [.d (PyData.int pounds_0), .d (PyData.int hours_0), .d (PyData.int melts_0), .d ((eT PyData.int) wants_0), .d (PyData.int l.1), .o none ((eL (eP2 PyData.int PyData.int)) l.2), .u, .u, .u]) fun l_24 e_l_24 => ?_
  have hok := let_ok hok l_24 e_l_24
  refine jb_frz (i := 5) (k0 := none) rfl ?_
  have hs_25 := hok
  exact jb_ret (je_var 5) (by walk_at "le")

def fewest_pounds_s_11 (hours_0 : Int) (melts_0 : Int) (wants_0 : (List Int)) (start_0 : Int) (l_2 : Unit) (x_3 : Int) : (Unit ⊕ (Option Int)) :=
  if (decide (((cutL (hours_of x_3 hours_0 melts_0 wants_0) (some start_0) none).map fun x_4 : (Int × Int) => x_4.2).sum = (0 : Int))) = true then
  (.inr ((some x_3)))
  else
  (.inl ())
def fewest_pounds_s_11_ok (hours_0 : Int) (melts_0 : Int) (wants_0 : (List Int)) (start_0 : Int) (l_2 : Unit) (x_3 : Int) : Prop :=
  ((hours_of_ok x_3 hours_0 melts_0 wants_0)) ∧
  ((decide (((cutL (hours_of x_3 hours_0 melts_0 wants_0) (some start_0) none).map fun x_4 : (Int × Int) => x_4.2).sum = (0 : Int))) = true → True) ∧
  ((decide (((cutL (hours_of x_3 hours_0 melts_0 wants_0) (some start_0) none).map fun x_4 : (Int × Int) => x_4.2).sum = (0 : Int))) = false → True)
def fewest_pounds (hours_0 : Int) (melts_0 : Int) (wants_0 : (List Int)) (start_0 : Int) : (Option Int) :=
  orR (forR (fewest_pounds_s_11 hours_0 melts_0 wants_0 start_0) () (rgI (1 : Int) (C_MOST + (1 : Int)))) fun l_16 : Unit =>
  (none : (Option Int))
def fewest_pounds_ok (hours_0 : Int) (melts_0 : Int) (wants_0 : (List Int)) (start_0 : Int) : Prop :=
  ((rg2 (1 : Int) (C_MOST + (1 : Int)))) ∧
  (∀ (i_14 : Nat) (x_3 : Int) (l_2 : Unit), (rgI (1 : Int) (C_MOST + (1 : Int)))[i_14]? = some x_3 → forR (fewest_pounds_s_11 hours_0 melts_0 wants_0 start_0) () ((rgI (1 : Int) (C_MOST + (1 : Int))).take i_14) = .inl l_2 → fewest_pounds_s_11_ok hours_0 melts_0 wants_0 start_0 l_2 x_3) ∧
  (∀ l_16 : Unit, forR (fewest_pounds_s_11 hours_0 melts_0 wants_0 start_0) () (rgI (1 : Int) (C_MOST + (1 : Int))) = .inl l_16 → True)
abbrev N_fewest_pounds : List Str := ["hours", "melts", "wants", "start", "pounds", "_", "lack"]
theorem sc_fewest_pounds : FnScope N_fewest_pounds ["hours", "melts", "wants", "start"] (defScope (topS 4)) := ⟨rfl, rfl, rfl, by decide +kernel, rfl, by decide +kernel, by decide +kernel⟩
theorem ok_fewest_pounds (X : Txt K mg) : FnOk P w K mg base CX0 2 X.f_fewest_pounds X.d_fewest_pounds ["hours", "melts", "wants", "start"] (SpD K (fun a : Int × Int × (List Int) × Int => fewest_pounds_ok a.1 a.2.1 a.2.2.1 a.2.2.2) (fun a => [PyData.int a.1, PyData.int a.2.1, (eT PyData.int) a.2.2.1, PyData.int a.2.2.2]) (fun a => (eO PyData.int) (fewest_pounds a.1 a.2.1 a.2.2.1 a.2.2.2))) := by
  refine fn_ok (A := Int × Int × (List Int) × Int) (args := fun a => [PyData.int a.1, PyData.int a.2.1, (eT PyData.int) a.2.2.1, PyData.int a.2.2.2]) X.o_fewest_pounds.F sc_fewest_pounds (eO PyData.int) (fun a => fewest_pounds a.1 a.2.1 a.2.2.1 a.2.2.2) (fun _ => rfl) (by decide) ?_
  rintro ⟨hours_0, melts_0, wants_0, start_0⟩ hok hlen
  have nd : (tc P w K mg base N_fewest_pounds (topS 4) 1).N.Nodup := sc_fewest_pounds.nd
  show JB (tc P w K mg base N_fewest_pounds (topS 4) 1) (eO PyData.int) (fun _ => uE N_fewest_pounds) _ [.d (PyData.int hours_0), .d (PyData.int melts_0), .d ((eT PyData.int) wants_0), .d (PyData.int start_0), .u, .u, .u] (fewest_pounds hours_0 melts_0 wants_0 start_0)
  have hok : fewest_pounds_ok hours_0 melts_0 wants_0 start_0 := hok
  unfold fewest_pounds_ok at hok
  unfold fewest_pounds
  obtain ⟨hs_1, hok⟩ := hok
  obtain ⟨hf_15, hok⟩ := hok
  refine jb_or (js_forM (enc := PyData.int) (fun l : Unit => [.d (PyData.int hours_0), .d (PyData.int melts_0), .d ((eT PyData.int) wants_0), .d (PyData.int start_0), .u, .u, .u]) (fewest_pounds_s_11 hours_0 melts_0 wants_0 start_0) () (ji_range2 rfl X.m_range (ja_cons je_int (ja_cons (je_add (j2d (je_globd rfl X.v_MOST) je_int)) ja_nil)) hs_1) (by walk_at "le") (fun i_14 x_3 l_2 hx_12 hl_13 => ?_)) (fun l_16 el_17 => ?_)
  · have hok := hf_15 i_14 x_3 l_2 hx_12 hl_13
    unfold fewest_pounds_s_11_ok at hok
    unfold fewest_pounds_s_11
    refine ⟨[4], [.d (PyData.int hours_0), .d (PyData.int melts_0), .d ((eT PyData.int) wants_0), .d (PyData.int start_0), .d (PyData.int x_3), .u, .u], (jg_name 4 (by exact nd)), ?_⟩
    obtain ⟨hs_7, hok⟩ := hok
    refine jm_ifr (jt_c (cj_eqI (j2d (je_sum rfl X.m_sum (je_fb (je_lc0 (enc := (eP2 PyData.int PyData.int)) (dec := PyData.int) [("_", 5), ("lack", 6)] (fun x_4 : (Int × Int) => x_4.2) (ji_tup (je_slT' (enc := (eP2 PyData.int PyData.int)) (xs := (hours_of x_3 hours_0 melts_0 wants_0)) (je_call' (d := (eT (eP2 PyData.int PyData.int)) (hours_of x_3 hours_0 melts_0 wants_0)) (ok_hours_of X) (x_3, hours_0, melts_0, wants_0) X.o_hours_of.m X.o_hours_of.F.kp X.o_hours_of.b (ja_cons (je_var 4) (ja_cons (je_var 0) (ja_cons (je_var 1) (ja_cons (je_var 2) ja_nil)))) hs_7) (jo_some (je_var 3)) jo_none)) (by exact nd) rfl (unk_of rfl) (fun x_4 hx_5 => lcp (js := [5, 6]) (E1 := [.d (PyData.int hours_0), .d (PyData.int melts_0), .d ((eT PyData.int) wants_0), .d (PyData.int start_0), .d (PyData.int x_3), .d (PyData.int x_4.1), .d (PyData.int x_4.2)]) (by simp) (jg_tup (jgs_cons (jg_name 5 (by exact nd)) (jgs_cons (jg_name 6 (by exact nd)) jgs_nil))) jts_nil (by walk_at "le") fun hc_6 => (je_var 6))))) je_int))) (fun hc_8 => ?_) (fun hc_8 => ?_)
    · have hok := hok.1 hc_8
      have hs_9 := hok
      exact jb_ret (je_var 4) (by walk_at "le")
    · have hok := hok.2 hc_8
      exact jm_nil (by walk_at "le")
  · have hok := hok l_16 el_17
    have hs_18 := hok
    exact jb_ret je_non (by walk_at "le")

def heard_from_s_7 (l_2 : Int) (x_3 : Int) : Int :=
  Let ((Int.fdiv l_2 (2 : Int)) : Int) fun loud_5 =>
  loud_5
def heard_from_s_7_ok (l_2 : Int) (x_3 : Int) : Prop :=
  Let ((Int.fdiv l_2 (2 : Int)) : Int) fun loud_5 =>
  True
def heard_from (loud_0 : Int) (far_0 : Int) : Int :=
  Let ((rgI 0 far_0).foldl (heard_from_s_7) loud_0 : Int) fun l_12 =>
  l_12
def heard_from_ok (loud_0 : Int) (far_0 : Int) : Prop :=
  ((rg1 far_0)) ∧
  (∀ (i_10 : Nat) (x_3 : Int) (l_2 : Int), (rgI 0 far_0)[i_10]? = some x_3 → l_2 = ((rgI 0 far_0).take i_10).foldl (heard_from_s_7) loud_0 → heard_from_s_7_ok l_2 x_3) ∧
  Let ((rgI 0 far_0).foldl (heard_from_s_7) loud_0 : Int) fun l_12 =>
  True
abbrev N_heard_from : List Str := ["loud", "far", "_"]
theorem sc_heard_from : FnScope N_heard_from ["loud", "far"] (defScope (topS 6)) := ⟨rfl, rfl, rfl, by decide +kernel, rfl, by decide +kernel, by decide +kernel⟩
theorem ok_heard_from (X : Txt K mg) : FnOk P w K mg base CX0 1 X.f_heard_from X.d_heard_from ["loud", "far"] (SpD K (fun a : Int × Int => heard_from_ok a.1 a.2) (fun a => [PyData.int a.1, PyData.int a.2]) (fun a => PyData.int (heard_from a.1 a.2))) := by
  refine fn_ok (A := Int × Int) (args := fun a => [PyData.int a.1, PyData.int a.2]) X.o_heard_from.F sc_heard_from PyData.int (fun a => heard_from a.1 a.2) (fun _ => rfl) (by decide) ?_
  rintro ⟨loud_0, far_0⟩ hok hlen
  have nd : (tc P w K mg base N_heard_from (topS 6) 0).N.Nodup := sc_heard_from.nd
  show JB (tc P w K mg base N_heard_from (topS 6) 0) PyData.int (fun _ => uE N_heard_from) _ [.d (PyData.int loud_0), .d (PyData.int far_0), .u] (heard_from loud_0 far_0)
  have hok : heard_from_ok loud_0 far_0 := hok
  unfold heard_from_ok at hok
  unfold heard_from
  obtain ⟨hs_1, hok⟩ := hok
  obtain ⟨hf_11, hok⟩ := hok
  refine jb_cons (js_forN (enc := PyData.int) (fun l : Int => [.d (PyData.int l), .d (PyData.int far_0), .u]) (heard_from_s_7) loud_0 (ji_range1 rfl X.m_range (je_var 1) hs_1) (by walk_at "le") (fun i_10 x_3 l_2 hx_8 hl_9 => ?_)) ?_
  · have hok := hf_11 i_10 x_3 l_2 hx_8 hl_9
    unfold heard_from_s_7_ok at hok
    unfold heard_from_s_7
    refine ⟨[2], [.d (PyData.int l_2), .d (PyData.int far_0), .d (PyData.int x_3)], (jg_name 2 (by exact nd)), ?_⟩
    refine jn_cons (js_set 0 nd (je_fdiv (j2d (je_var 0) je_int) ⟨by decide, by decide⟩)) ?_
    refine jn_let (F := fun loud_5 : Int => [.d (PyData.int loud_5), .d (PyData.int far_0), .d (PyData.int x_3)]) (v := ((Int.fdiv l_2 (2 : Int)) : Int)) fun loud_5 e_loud_5 => ?_
    have hok := let_ok hok loud_5 e_loud_5
    exact jn_nil (by walk_at "le")
  refine jb_let (F := fun l : Int => [.d (PyData.int l), .d (PyData.int far_0), .u]) fun l_12 e_l_12 => ?_
  have hok := let_ok hok l_12 e_l_12
  have hs_13 := hok
  exact jb_ret (je_var 0) (by walk_at "le")

def hears (rooms_0 : (List Int)) (room_0 : Int) : Int :=
  (((enumL rooms_0).filter fun x_1 : (Int × Int) => (!decide (x_1.1 = room_0))).map fun x_1 : (Int × Int) => (heard_from x_1.2 (iabs (room_0 - x_1.1)))).sum
def hears_ok (rooms_0 : (List Int)) (room_0 : Int) : Prop :=
  (∀ x_1 : (Int × Int), x_1 ∈ (enumL rooms_0) → ((!decide (x_1.1 = room_0)) = true → (heard_from_ok x_1.2 (iabs (room_0 - x_1.1)))))
abbrev N_hears : List Str := ["rooms", "room", "other", "loud"]
theorem sc_hears : FnScope N_hears ["rooms", "room"] (defScope (topS 7)) := ⟨rfl, rfl, rfl, by decide +kernel, rfl, by decide +kernel, by decide +kernel⟩
theorem ok_hears (X : Txt K mg) : FnOk P w K mg base CX0 2 X.f_hears X.d_hears ["rooms", "room"] (SpD K (fun a : (List Int) × Int => hears_ok a.1 a.2) (fun a => [(eT PyData.int) a.1, PyData.int a.2]) (fun a => PyData.int (hears a.1 a.2))) := by
  refine fn_ok (A := (List Int) × Int) (args := fun a => [(eT PyData.int) a.1, PyData.int a.2]) X.o_hears.F sc_hears PyData.int (fun a => hears a.1 a.2) (fun _ => rfl) (by decide) ?_
  rintro ⟨rooms_0, room_0⟩ hok hlen
  have nd : (tc P w K mg base N_hears (topS 7) 1).N.Nodup := sc_hears.nd
  show JB (tc P w K mg base N_hears (topS 7) 1) PyData.int (fun _ => uE N_hears) _ [.d ((eT PyData.int) rooms_0), .d (PyData.int room_0), .u, .u] (hears rooms_0 room_0)
  have hok : hears_ok rooms_0 room_0 := hok
  unfold hears_ok at hok
  unfold hears
  have hs_4 := hok
  exact jb_ret (je_sum rfl X.m_sum (je_fb (je_lc1 (enc := (eP2 PyData.int PyData.int)) (dec := PyData.int) [("other", 2), ("loud", 3)] (fun x_1 : (Int × Int) => (!decide (x_1.1 = room_0))) (fun x_1 : (Int × Int) => (heard_from x_1.2 (iabs (room_0 - x_1.1)))) (ji_enumT' rfl X.m_enumerate (je_var 0)) (by exact nd) rfl (unk_of rfl) (fun x_1 hx_2 => lcp (js := [2, 3]) (E1 := [.d ((eT PyData.int) rooms_0), .d (PyData.int room_0), .d (PyData.int x_1.1), .d (PyData.int x_1.2)]) (by simp) (jg_tup (jgs_cons (jg_name 2 (by exact nd)) (jgs_cons (jg_name 3 (by exact nd)) jgs_nil))) (jts_one (jt_c (cj_neI (j2d (je_var 2) (je_var 1))))) (by walk_at "le") fun hc_3 => (je_call' (d := PyData.int (heard_from x_1.2 (iabs (room_0 - x_1.1)))) (ok_heard_from X) (x_1.2, (iabs (room_0 - x_1.1))) X.o_heard_from.m X.o_heard_from.F.kp X.o_heard_from.b (ja_cons (je_var 3) (ja_cons (je_abs rfl X.m_abs (je_sub (j2d (je_var 1) (je_var 2)))) ja_nil)) ((hs_4 x_1 hx_2) hc_3)))))) (by walk_at "le")

def law_hears (rooms_0 : (List Int)) (k_0 : Int) : Int :=
  (((rgI 0 (rooms_0.length : Int)).filter fun x_1 : Int => (!decide (x_1 = k_0))).map fun x_1 : Int => (Int.fdiv (gI rooms_0 x_1) (gI ([(1 : Int), (2 : Int), (4 : Int), (8 : Int), (16 : Int)] : (List Int)) (iabs (x_1 - k_0))))).sum
def law_hears_ok (rooms_0 : (List Int)) (k_0 : Int) : Prop :=
  (rg1 (rooms_0.length : Int)) ∧ (∀ x_1 : Int, x_1 ∈ (rgI 0 (rooms_0.length : Int)) → ((!decide (x_1 = k_0)) = true → (inR rooms_0.length x_1) ∧ (inR ([(1 : Int), (2 : Int), (4 : Int), (8 : Int), (16 : Int)] : (List Int)).length (iabs (x_1 - k_0))) ∧ (CDivN (gI rooms_0 x_1) (gI ([(1 : Int), (2 : Int), (4 : Int), (8 : Int), (16 : Int)] : (List Int)) (iabs (x_1 - k_0))))))
abbrev N_law_hears : List Str := ["rooms", "k", "j"]
theorem sc_law_hears : FnScope N_law_hears ["rooms", "k"] (defScope (topS 15)) := ⟨rfl, rfl, rfl, by decide +kernel, rfl, by decide +kernel, by decide +kernel⟩
theorem ok_law_hears (X : Txt K mg) : FnOk P w K mg base CX0 1 X.f_law_hears X.d_law_hears ["rooms", "k"] (SpD K (fun a : (List Int) × Int => law_hears_ok a.1 a.2) (fun a => [(eT PyData.int) a.1, PyData.int a.2]) (fun a => PyData.int (law_hears a.1 a.2))) := by
  refine fn_ok (A := (List Int) × Int) (args := fun a => [(eT PyData.int) a.1, PyData.int a.2]) X.o_law_hears.F sc_law_hears PyData.int (fun a => law_hears a.1 a.2) (fun _ => rfl) (by decide) ?_
  rintro ⟨rooms_0, k_0⟩ hok hlen
  have nd : (tc P w K mg base N_law_hears (topS 15) 0).N.Nodup := sc_law_hears.nd
  show JB (tc P w K mg base N_law_hears (topS 15) 0) PyData.int (fun _ => uE N_law_hears) _ [.d ((eT PyData.int) rooms_0), .d (PyData.int k_0), .u] (law_hears rooms_0 k_0)
  have hok : law_hears_ok rooms_0 k_0 := hok
  unfold law_hears_ok at hok
  unfold law_hears
  have hs_4 := hok
  exact jb_ret (je_sum rfl X.m_sum (je_fb (je_lc1 (enc := PyData.int) (dec := PyData.int) [("j", 2)] (fun x_1 : Int => (!decide (x_1 = k_0))) (fun x_1 : Int => (Int.fdiv (gI rooms_0 x_1) (gI ([(1 : Int), (2 : Int), (4 : Int), (8 : Int), (16 : Int)] : (List Int)) (iabs (x_1 - k_0))))) (ji_range1 rfl X.m_range (je_lenT' rfl X.m_len (je_b (je_var 0))) hs_4.1) (by exact nd) rfl (unk_of rfl) (fun x_1 hx_2 => lcp (js := [2]) (E1 := [.d ((eT PyData.int) rooms_0), .d (PyData.int k_0), .d (PyData.int x_1)]) (by simp) (jg_name 2 (by exact nd)) (jts_one (jt_c (cj_neI (j2d (je_var 2) (je_var 1))))) (by walk_at "le") fun hc_3 => (je_fdiv (j2d (je_ixT' (enc := PyData.int) (j2d (je_var 0) (je_var 2)) ((hs_4.2 x_1 hx_2) hc_3).1) (je_ixL' (enc := PyData.int) (j2d (je_fz (je_lst (ja_cons je_int (ja_cons je_int (ja_cons je_int (ja_cons je_int (ja_cons je_int ja_nil))))))) (je_abs rfl X.m_abs (je_sub (j2d (je_var 2) (je_var 1))))) ((hs_4.2 x_1 hx_2) hc_3).2.1)) ((hs_4.2 x_1 hx_2) hc_3).2.2))))) (by walk_at "le")

def sleepers (rooms_0 : (List Int)) (bears_0 : (List Int)) : (List Int) :=
  (((rgI 0 (rooms_0.length : Int)).filter fun x_1 : Int => (decide ((hears rooms_0 x_1) ≤ (gI bears_0 x_1)))).map fun x_1 : Int => x_1)
def sleepers_ok (rooms_0 : (List Int)) (bears_0 : (List Int)) : Prop :=
  (rg1 (rooms_0.length : Int)) ∧ (∀ x_1 : Int, x_1 ∈ (rgI 0 (rooms_0.length : Int)) → (hears_ok rooms_0 x_1) ∧ (inR bears_0.length x_1))
abbrev N_sleepers : List Str := ["rooms", "bears", "room"]
theorem sc_sleepers : FnScope N_sleepers ["rooms", "bears"] (defScope (topS 9)) := ⟨rfl, rfl, rfl, by decide +kernel, rfl, by decide +kernel, by decide +kernel⟩
theorem ok_sleepers (X : Txt K mg) : FnOk P w K mg base CX0 3 X.f_sleepers X.d_sleepers ["rooms", "bears"] (SpD K (fun a : (List Int) × (List Int) => sleepers_ok a.1 a.2) (fun a => [(eT PyData.int) a.1, (eT PyData.int) a.2]) (fun a => (eT PyData.int) (sleepers a.1 a.2))) := by
  refine fn_ok (A := (List Int) × (List Int)) (args := fun a => [(eT PyData.int) a.1, (eT PyData.int) a.2]) X.o_sleepers.F sc_sleepers (eT PyData.int) (fun a => sleepers a.1 a.2) (fun _ => rfl) (by decide) ?_
  rintro ⟨rooms_0, bears_0⟩ hok hlen
  have nd : (tc P w K mg base N_sleepers (topS 9) 2).N.Nodup := sc_sleepers.nd
  show JB (tc P w K mg base N_sleepers (topS 9) 2) (eT PyData.int) (fun _ => uE N_sleepers) _ [.d ((eT PyData.int) rooms_0), .d ((eT PyData.int) bears_0), .u] (sleepers rooms_0 bears_0)
  have hok : sleepers_ok rooms_0 bears_0 := hok
  unfold sleepers_ok at hok
  unfold sleepers
  have hs_4 := hok
  exact jb_ret (je_tupL (xs := (((rgI 0 (rooms_0.length : Int)).filter fun x_1 : Int => (decide ((hears rooms_0 x_1) ≤ (gI bears_0 x_1)))).map fun x_1 : Int => x_1).map PyData.int) rfl X.m_tuple (je_fb (je_lc1 (enc := PyData.int) (dec := PyData.int) [("room", 2)] (fun x_1 : Int => (decide ((hears rooms_0 x_1) ≤ (gI bears_0 x_1)))) (fun x_1 : Int => x_1) (ji_range1 rfl X.m_range (je_lenT' rfl X.m_len (je_b (je_var 0))) hs_4.1) (by exact nd) rfl (unk_of rfl) (fun x_1 hx_2 => lcp (js := [2]) (E1 := [.d ((eT PyData.int) rooms_0), .d ((eT PyData.int) bears_0), .d (PyData.int x_1)]) (by simp) (jg_name 2 (by exact nd)) (jts_one (jt_c (cj_le (j2d (je_call' (d := PyData.int (hears rooms_0 x_1)) (ok_hears X) (rooms_0, x_1) X.o_hears.m X.o_hears.F.kp X.o_hears.b (ja_cons (je_var 0) (ja_cons (je_var 2) ja_nil)) (hs_4.2 x_1 hx_2).1) (je_ixT' (enc := PyData.int) (j2d (je_var 1) (je_var 2)) (hs_4.2 x_1 hx_2).2))))) (by walk_at "le") fun hc_3 => (je_var 2))))) (by walk_at "le")

def quietest_s_12 (l_4 : (List (Int × (List Int)))) (x_5 : (List Int)) : (List (Int × (List Int))) :=
  Let ((l_4 ++ [((pyMax PyData.int ((rgI 0 (x_5.length : Int)).map fun x_6 : Int => (hears x_5 x_6))), x_5)]) : (List (Int × (List Int)))) fun found_10 =>
  found_10
def quietest_s_12_ok (l_4 : (List (Int × (List Int)))) (x_5 : (List Int)) : Prop :=
  ((rg1 (x_5.length : Int)) ∧ (∀ x_6 : Int, x_6 ∈ (rgI 0 (x_5.length : Int)) → (hears_ok x_5 x_6)) ∧ (((rgI 0 (x_5.length : Int)).map fun x_6 : Int => (hears x_5 x_6)) ≠ []) ∧ (l_4.length < LN)) ∧
  Let ((l_4 ++ [((pyMax PyData.int ((rgI 0 (x_5.length : Int)).map fun x_6 : Int => (hears x_5 x_6))), x_5)]) : (List (Int × (List Int)))) fun found_10 =>
  True
def quietest (rooms_0 : (List Int)) : (Int × (List Int)) :=
  Let (([] : (List (Int × (List Int)))) : (List (Int × (List Int)))) fun found_2 =>
  Let ((srtSetL (perms rooms_0)).foldl (quietest_s_12) found_2 : (List (Int × (List Int)))) fun l_17 =>
  (pyMin (eP2 PyData.int (eT PyData.int)) l_17)
def quietest_ok (rooms_0 : (List Int)) : Prop :=
  Let (([] : (List (Int × (List Int)))) : (List (Int × (List Int)))) fun found_2 =>
  ((permB rooms_0.length = true) ∧ ((perms rooms_0).length < 64) ∧ (∀ x ∈ (perms rooms_0), x ≠ [])) ∧
  (∀ (i_15 : Nat) (x_5 : (List Int)) (l_4 : (List (Int × (List Int)))), (srtSetL (perms rooms_0))[i_15]? = some x_5 → l_4 = ((srtSetL (perms rooms_0)).take i_15).foldl (quietest_s_12) found_2 → quietest_s_12_ok l_4 x_5) ∧
  Let ((srtSetL (perms rooms_0)).foldl (quietest_s_12) found_2 : (List (Int × (List Int)))) fun l_17 =>
  (l_17 ≠ [])
abbrev N_quietest : List Str := ["rooms", "found", "order", "room"]
theorem sc_quietest : FnScope N_quietest ["rooms"] (defScope (topS 8)) := ⟨rfl, rfl, rfl, by decide +kernel, rfl, by decide +kernel, by decide +kernel⟩
theorem ok_quietest (X : Txt K mg) : FnOk P w K mg base CX0 3 X.f_quietest X.d_quietest ["rooms"] (SpD K (fun a : (List Int) => quietest_ok a) (fun a => [(eT PyData.int) a]) (fun a => (eP2 PyData.int (eT PyData.int)) (quietest a))) := by
  refine fn_ok (A := (List Int)) (args := fun a => [(eT PyData.int) a]) X.o_quietest.F sc_quietest (eP2 PyData.int (eT PyData.int)) (fun a => quietest a) (fun _ => rfl) (by decide) ?_
  intro rooms_0 hok hlen
  have nd : (tc P w K mg base N_quietest (topS 8) 2).N.Nodup := sc_quietest.nd
  show JB (tc P w K mg base N_quietest (topS 8) 2) (eP2 PyData.int (eT PyData.int)) (fun _ => uE N_quietest) _ [.d ((eT PyData.int) rooms_0), .u, .u, .u] (quietest rooms_0)
  have hok : quietest_ok rooms_0 := hok
  unfold quietest_ok at hok
  unfold quietest
  refine jb_cons (js_setO 1 nd (je_lst ja_nil)) ?_
  refine jb_let (F := fun found_2 : (List (Int × (List Int))) => [.d ((eT PyData.int) rooms_0), .o none ((eL (eP2 PyData.int (eT PyData.int))) found_2), .u, .u]) (v := (([] : (List (Int × (List Int)))) : (List (Int × (List Int))))) fun found_2 e_found_2 => ?_
  have hok := let_ok hok found_2 e_found_2
  obtain ⟨hs_3, hok⟩ := hok
  obtain ⟨hf_16, hok⟩ := hok
  refine jb_cons (js_forN (enc := (eT PyData.int)) (fun l : (List (Int × (List Int))) => [.d ((eT PyData.int) rooms_0), .o none ((eL (eP2 PyData.int (eT PyData.int))) l), .u, .u]) (quietest_s_12) found_2 (ji_list (je_fz (je_srtSetL (xss := (perms rooms_0)) rfl X.m_sorted rfl X.m_set (je_fb (je_listPerm (jsrc_tupP (enc := PyData.int) (xs := rooms_0) (je_var 0) hs_3.1) hs_3.1 rfl X.m_list rfl X.m_permutations)) hs_3.2.1 hs_3.2.2))) (by walk_at "le") (fun i_15 x_5 l_4 hx_13 hl_14 => ?_)) ?_
  · have hok := hf_16 i_15 x_5 l_4 hx_13 hl_14
    unfold quietest_s_12_ok at hok
    unfold quietest_s_12
    refine ⟨[2], [.d ((eT PyData.int) rooms_0), .o none ((eL (eP2 PyData.int (eT PyData.int))) l_4), .d ((eT PyData.int) x_5), .u], (jg_name 2 (by exact nd)), ?_⟩
    obtain ⟨hs_9, hok⟩ := hok
    refine jn_cons (js_expr (je_append' (enc := (eP2 PyData.int (eT PyData.int))) (xs := l_4) (x := ((pyMax PyData.int ((rgI 0 (x_5.length : Int)).map fun x_6 : Int => (hears x_5 x_6))), x_5)) 1 (je_tup (ja_cons (je_maxL (enc := PyData.int) rfl X.m_max (je_fb (je_lc0 (enc := PyData.int) (dec := PyData.int) [("room", 3)] (fun x_6 : Int => (hears x_5 x_6)) (ji_range1 rfl X.m_range (je_lenT' rfl X.m_len (je_b (je_var 2))) hs_9.1) (by exact nd) rfl (unk_of rfl) (fun x_6 hx_7 => lcp (js := [3]) (E1 := [.d ((eT PyData.int) rooms_0), .o none ((eL (eP2 PyData.int (eT PyData.int))) l_4), .d ((eT PyData.int) x_5), .d (PyData.int x_6)]) (by simp) (jg_name 3 (by exact nd)) jts_nil (by walk_at "le") fun hc_8 => (je_call' (d := PyData.int (hears x_5 x_6)) (ok_hears X) (x_5, x_6) X.o_hears.m X.o_hears.F.kp X.o_hears.b (ja_cons (je_var 2) (ja_cons (je_var 3) ja_nil)) (hs_9.2.1 x_6 hx_7))))) alk_int hs_9.2.2.1) (ja_cons (je_var 2) ja_nil))) hs_9.2.2.2)) ?_
    refine jn_let (F := fun found_10 : (List (Int × (List Int))) => [.d ((eT PyData.int) rooms_0), .o none ((eL (eP2 PyData.int (eT PyData.int))) found_10), .d ((eT PyData.int) x_5), .u]) (v := ((l_4 ++ [((pyMax PyData.int ((rgI 0 (x_5.length : Int)).map fun x_6 : Int => (hears x_5 x_6))), x_5)]) : (List (Int × (List Int))))) fun found_10 e_found_10 => ?_
    have hok := let_ok hok found_10 e_found_10
    exact jn_nil (by walk_at "le")
  refine jb_let (F := fun l : (List (Int × (List Int))) => [.d ((eT PyData.int) rooms_0), .o none ((eL (eP2 PyData.int (eT PyData.int))) l), .u, .u]) fun l_17 e_l_17 => ?_
  have hok := let_ok hok l_17 e_l_17
  have hs_18 := hok
  exact jb_ret (je_minL (enc := (eP2 PyData.int (eT PyData.int))) rfl X.m_min (je_varB 1) (alk_p2 alk_int (alk_t alk_int)) hs_18) (by walk_at "le")

def law_s_79 (rooms_44 : (List Int)) (l_71 : (List (List Int))) (x_72 : (List Int)) : (List (List Int)) :=
  Let ((l_71 ++ (((rgI 0 (rooms_44.length : Int)).filter fun x_73 : Int => (!inB x_73 x_72)).map fun x_73 : Int => (x_72 ++ ([x_73] : (List Int))))) : (List (List Int))) fun longer_77 =>
  longer_77
def law_s_79_ok (rooms_44 : (List Int)) (l_71 : (List (List Int))) (x_72 : (List Int)) : Prop :=
  ((rg1 (rooms_44.length : Int)) ∧ (∀ x_73 : Int, x_73 ∈ (rgI 0 (rooms_44.length : Int)) → ((!inB x_73 x_72) = true → (x_72.length + ([x_73] : (List Int)).length ≤ LN))) ∧ (l_71.length + (((rgI 0 (rooms_44.length : Int)).filter fun x_73 : Int => (!inB x_73 x_72)).map fun x_73 : Int => (x_72 ++ ([x_73] : (List Int)))).length ≤ LN)) ∧
  Let ((l_71 ++ (((rgI 0 (rooms_44.length : Int)).filter fun x_73 : Int => (!inB x_73 x_72)).map fun x_73 : Int => (x_72 ++ ([x_73] : (List Int))))) : (List (List Int))) fun longer_77 =>
  True
def law_s_88 (rooms_44 : (List Int)) (l_66 : (List (List Int))) (x_67 : Int) : (List (List Int)) :=
  Let (([] : (List (List Int))) : (List (List Int))) fun longer_69 =>
  Let (l_66.foldl (law_s_79 rooms_44) longer_69 : (List (List Int))) fun l_84 =>
  Let (l_84 : (List (List Int))) fun orders_86 =>
  orders_86
def law_s_88_ok (rooms_44 : (List Int)) (l_66 : (List (List Int))) (x_67 : Int) : Prop :=
  Let (([] : (List (List Int))) : (List (List Int))) fun longer_69 =>
  (∀ (i_82 : Nat) (x_72 : (List Int)) (l_71 : (List (List Int))), l_66[i_82]? = some x_72 → l_71 = (l_66.take i_82).foldl (law_s_79 rooms_44) longer_69 → law_s_79_ok rooms_44 l_71 x_72) ∧
  Let (l_66.foldl (law_s_79 rooms_44) longer_69 : (List (List Int))) fun l_84 =>
  Let (l_84 : (List (List Int))) fun orders_86 =>
  True
def law_s_110 (rooms_44 : (List Int)) (l_97 : (List (Int × (List Int)))) (x_98 : (List Int)) : (List (Int × (List Int))) :=
  Let ((x_98.map fun x_99 : Int => (gI rooms_44 x_99)) : (List Int)) fun told_103 =>
  Let ((l_97 ++ [((pyMax PyData.int ((rgI 0 (told_103.length : Int)).map fun x_104 : Int => (law_hears told_103 x_104))), told_103)]) : (List (Int × (List Int)))) fun ranked_108 =>
  ranked_108
def law_s_110_ok (rooms_44 : (List Int)) (l_97 : (List (Int × (List Int)))) (x_98 : (List Int)) : Prop :=
  ((∀ x_99 : Int, x_99 ∈ x_98 → (inR rooms_44.length x_99))) ∧
  Let ((x_98.map fun x_99 : Int => (gI rooms_44 x_99)) : (List Int)) fun told_103 =>
  ((rg1 (told_103.length : Int)) ∧ (∀ x_104 : Int, x_104 ∈ (rgI 0 (told_103.length : Int)) → (law_hears_ok told_103 x_104)) ∧ (((rgI 0 (told_103.length : Int)).map fun x_104 : Int => (law_hears told_103 x_104)) ≠ []) ∧ (l_97.length < LN)) ∧
  Let ((l_97 ++ [((pyMax PyData.int ((rgI 0 (told_103.length : Int)).map fun x_104 : Int => (law_hears told_103 x_104))), told_103)]) : (List (Int × (List Int)))) fun ranked_108 =>
  True
def law (script : (List Int)) : Bool :=
  Let ((⟨script, 0, 0, 17⟩ : Dr) : Dr) fun draw_2 =>
  Let (nxt draw_2 (11 : Int)) fun q_3 : (Int × Dr) =>
  Let (nxt q_3.2 (3 : Int)) fun q_4 : (Int × Dr) =>
  Let (nxt q_4.2 (5 : Int)) fun q_5 : (Int × Dr) =>
  Let (((1 : Int) + q_3.1) : Int) fun pounds_7 =>
  Let (((1 : Int) + q_4.1) : Int) fun hours_8 =>
  Let (((1 : Int) + q_5.1) : Int) fun melts_9 =>
  Let (nxt q_5.2 (9 : Int)) fun q_10 : (Int × Dr) =>
  Let (mapS (fun (s_12 : Dr) (x_11 : Int) => (Let (nxt s_12 (6 : Int)) fun q_13 : (Int × Dr) => (q_13.1, q_13.2))) q_10.2 (rgI 0 q_10.1)) fun m_15 : (List Int × Dr) =>
  Let (m_15.1 : (List Int)) fun wants_17 =>
  if (!(decide (((hours_of pounds_7 hours_8 melts_9 wants_17) : (List (Int × Int))) = (law_ice pounds_7 hours_8 melts_9 wants_17)))) = true then
  false
  else
  Let (nxt m_15.2 (6 : Int)) fun q_21 : (Int × Dr) =>
  Let (q_21.1 : Int) fun begin_23 =>
  Let ((cutL wants_17 none (some (5 : Int))) : (List Int)) fun most_24 =>
  Let ((((rgI (1 : Int) (61 : Int)).filter fun x_25 : Int => (decide (((cutL (law_ice x_25 hours_8 melts_9 most_24) (some begin_23) none).map fun x_26 : (Int × Int) => x_26.2).sum = (0 : Int)))).map fun x_25 : Int => x_25) : (List Int)) fun good_32 =>
  if (!(decide (((fewest_pounds hours_8 melts_9 most_24 begin_23) : (Option Int)) = (if (!good_32.isEmpty) = true then (some (gI good_32 (0 : Int))) else (none : (Option Int)))))) = true then
  false
  else
  Let (nxt q_21.2 (4 : Int)) fun q_37 : (Int × Dr) =>
  Let (mapS (fun (s_39 : Dr) (x_38 : Int) => (Let (nxt s_39 (20 : Int)) fun q_40 : (Int × Dr) => (q_40.1, q_40.2))) q_37.2 (rgI 0 ((1 : Int) + q_37.1))) fun m_42 : (List Int × Dr) =>
  Let (m_42.1 : (List Int)) fun rooms_44 =>
  Let (nxt m_42.2 (rooms_44.length : Int)) fun q_45 : (Int × Dr) =>
  Let (mapS (fun (s_47 : Dr) (x_46 : Int) => (Let (nxt s_47 (12 : Int)) fun q_48 : (Int × Dr) => (q_48.1, q_48.2))) q_45.2 rooms_44) fun m_50 : (List Int × Dr) =>
  Let (q_45.1 : Int) fun k_52 =>
  Let (m_50.1 : (List Int)) fun bears_53 =>
  if (!(decide (((hears rooms_44 k_52) : Int) = (law_hears rooms_44 k_52)))) = true then
  false
  else
  if (!(decide (((sleepers rooms_44 bears_53) : (List Int)) = (((rgI 0 (rooms_44.length : Int)).filter fun x_57 : Int => (decide ((law_hears rooms_44 x_57) ≤ (gI bears_53 x_57)))).map fun x_57 : Int => x_57)))) = true then
  false
  else
  Let (([([] : (List Int))] : (List (List Int))) : (List (List Int))) fun orders_64 =>
  Let (rooms_44.foldl (law_s_88 rooms_44) orders_64 : (List (List Int))) fun l_93 =>
  Let (([] : (List (Int × (List Int)))) : (List (Int × (List Int)))) fun ranked_95 =>
  Let (l_93.foldl (law_s_110 rooms_44) ranked_95 : (List (Int × (List Int)))) fun l_115 =>
  (decide (((quietest rooms_44) : (Int × (List Int))) = (pyMin (eP2 PyData.int (eT PyData.int)) l_115)))
def law_ok (script : (List Int)) : Prop :=
  Let ((⟨script, 0, 0, 17⟩ : Dr) : Dr) fun draw_2 =>
  Let (nxt draw_2 (11 : Int)) fun q_3 : (Int × Dr) =>
  Let (nxt q_3.2 (3 : Int)) fun q_4 : (Int × Dr) =>
  Let (nxt q_4.2 (5 : Int)) fun q_5 : (Int × Dr) =>
  Let (((1 : Int) + q_3.1) : Int) fun pounds_7 =>
  Let (((1 : Int) + q_4.1) : Int) fun hours_8 =>
  Let (((1 : Int) + q_5.1) : Int) fun melts_9 =>
  Let (nxt q_5.2 (9 : Int)) fun q_10 : (Int × Dr) =>
  Let (mapS (fun (s_12 : Dr) (x_11 : Int) => (Let (nxt s_12 (6 : Int)) fun q_13 : (Int × Dr) => (q_13.1, q_13.2))) q_10.2 (rgI 0 q_10.1)) fun m_15 : (List Int × Dr) =>
  ((rg1 q_10.1)) ∧
  Let (m_15.1 : (List Int)) fun wants_17 =>
  ((hours_of_ok pounds_7 hours_8 melts_9 wants_17) ∧ (law_ice_ok pounds_7 hours_8 melts_9 wants_17)) ∧
  ((!(decide (((hours_of pounds_7 hours_8 melts_9 wants_17) : (List (Int × Int))) = (law_ice pounds_7 hours_8 melts_9 wants_17)))) = true → True) ∧
  ((!(decide (((hours_of pounds_7 hours_8 melts_9 wants_17) : (List (Int × Int))) = (law_ice pounds_7 hours_8 melts_9 wants_17)))) = false → Let (nxt m_15.2 (6 : Int)) fun q_21 : (Int × Dr) =>
  Let (q_21.1 : Int) fun begin_23 =>
  Let ((cutL wants_17 none (some (5 : Int))) : (List Int)) fun most_24 =>
  ((rg2 (1 : Int) (61 : Int)) ∧ (∀ x_25 : Int, x_25 ∈ (rgI (1 : Int) (61 : Int)) → (law_ice_ok x_25 hours_8 melts_9 most_24))) ∧
  Let ((((rgI (1 : Int) (61 : Int)).filter fun x_25 : Int => (decide (((cutL (law_ice x_25 hours_8 melts_9 most_24) (some begin_23) none).map fun x_26 : (Int × Int) => x_26.2).sum = (0 : Int)))).map fun x_25 : Int => x_25) : (List Int)) fun good_32 =>
  ((fewest_pounds_ok hours_8 melts_9 most_24 begin_23) ∧ ((!good_32.isEmpty) = true → (inR good_32.length (0 : Int)))) ∧
  ((!(decide (((fewest_pounds hours_8 melts_9 most_24 begin_23) : (Option Int)) = (if (!good_32.isEmpty) = true then (some (gI good_32 (0 : Int))) else (none : (Option Int)))))) = true → True) ∧
  ((!(decide (((fewest_pounds hours_8 melts_9 most_24 begin_23) : (Option Int)) = (if (!good_32.isEmpty) = true then (some (gI good_32 (0 : Int))) else (none : (Option Int)))))) = false → Let (nxt q_21.2 (4 : Int)) fun q_37 : (Int × Dr) =>
  Let (mapS (fun (s_39 : Dr) (x_38 : Int) => (Let (nxt s_39 (20 : Int)) fun q_40 : (Int × Dr) => (q_40.1, q_40.2))) q_37.2 (rgI 0 ((1 : Int) + q_37.1))) fun m_42 : (List Int × Dr) =>
  ((rg1 ((1 : Int) + q_37.1))) ∧
  Let (m_42.1 : (List Int)) fun rooms_44 =>
  Let (nxt m_42.2 (rooms_44.length : Int)) fun q_45 : (Int × Dr) =>
  Let (mapS (fun (s_47 : Dr) (x_46 : Int) => (Let (nxt s_47 (12 : Int)) fun q_48 : (Int × Dr) => (q_48.1, q_48.2))) q_45.2 rooms_44) fun m_50 : (List Int × Dr) =>
  ((drN (rooms_44.length : Int))) ∧
  Let (q_45.1 : Int) fun k_52 =>
  Let (m_50.1 : (List Int)) fun bears_53 =>
  ((hears_ok rooms_44 k_52) ∧ (law_hears_ok rooms_44 k_52)) ∧
  ((!(decide (((hears rooms_44 k_52) : Int) = (law_hears rooms_44 k_52)))) = true → True) ∧
  ((!(decide (((hears rooms_44 k_52) : Int) = (law_hears rooms_44 k_52)))) = false → ((sleepers_ok rooms_44 bears_53) ∧ (rg1 (rooms_44.length : Int)) ∧ (∀ x_57 : Int, x_57 ∈ (rgI 0 (rooms_44.length : Int)) → (law_hears_ok rooms_44 x_57) ∧ (inR bears_53.length x_57))) ∧
  ((!(decide (((sleepers rooms_44 bears_53) : (List Int)) = (((rgI 0 (rooms_44.length : Int)).filter fun x_57 : Int => (decide ((law_hears rooms_44 x_57) ≤ (gI bears_53 x_57)))).map fun x_57 : Int => x_57)))) = true → True) ∧
  ((!(decide (((sleepers rooms_44 bears_53) : (List Int)) = (((rgI 0 (rooms_44.length : Int)).filter fun x_57 : Int => (decide ((law_hears rooms_44 x_57) ≤ (gI bears_53 x_57)))).map fun x_57 : Int => x_57)))) = false → Let (([([] : (List Int))] : (List (List Int))) : (List (List Int))) fun orders_64 =>
  (∀ (i_91 : Nat) (x_67 : Int) (l_66 : (List (List Int))), rooms_44[i_91]? = some x_67 → l_66 = (rooms_44.take i_91).foldl (law_s_88 rooms_44) orders_64 → law_s_88_ok rooms_44 l_66 x_67) ∧
  Let (rooms_44.foldl (law_s_88 rooms_44) orders_64 : (List (List Int))) fun l_93 =>
  Let (([] : (List (Int × (List Int)))) : (List (Int × (List Int)))) fun ranked_95 =>
  (∀ (i_113 : Nat) (x_98 : (List Int)) (l_97 : (List (Int × (List Int)))), l_93[i_113]? = some x_98 → l_97 = (l_93.take i_113).foldl (law_s_110 rooms_44) ranked_95 → law_s_110_ok rooms_44 l_97 x_98) ∧
  Let (l_93.foldl (law_s_110 rooms_44) ranked_95 : (List (Int × (List Int)))) fun l_115 =>
  (quietest_ok rooms_44) ∧ (l_115 ≠ [])))))
abbrev N_law : List Str := ["script", "draw", "pounds", "hours", "melts", "wants", "begin", "most", "good", "rooms", "k", "bears", "orders", "turn", "longer", "order", "ranked", "told", "many", "room", "j", "ice", "lack"]
theorem sc_law : FnScope N_law ["script"] (defScope (topS 16)) := ⟨rfl, rfl, rfl, by decide +kernel, rfl, by decide +kernel, by decide +kernel⟩
theorem ok_law (X : Txt K mg) : FnOk P w K mg base CX0 10 X.f_law X.d_law ["script"] (SpD K (fun a : (List Int) => law_ok a) (fun a => [.dict [(.none, .list (a.map .int))]]) (fun a => PyData.bool (law a))) := by
  refine fn_ok (A := (List Int)) (args := fun a => [.dict [(.none, .list (a.map .int))]]) X.o_law.F sc_law PyData.bool (fun a => law a) (fun _ => rfl) (by decide) ?_
  intro script hok hlen
  have nd : (tc P w K mg base N_law (topS 16) 9).N.Nodup := sc_law.nd
  show JB (tc P w K mg base N_law (topS 16) 9) PyData.bool (fun _ => uE N_law) _ [.d (.dict [(.none, .list (script.map .int))]), .u, .u, .u, .u, .u, .u, .u, .u, .u, .u, .u, .u, .u, .u, .u, .u, .u, .u, .u, .u, .u, .u] (law script)
  have hok : law_ok script := hok
  unfold law_ok at hok
  unfold law
  refine jb_cons (js_setO 1 nd (je_callF' (d := drD ⟨script, 0, 0, 17⟩) (ok_draw X) script X.o_draw.m X.o_draw.F.kp X.o_draw.b (ja_cons (je_var 0) ja_nil) True.intro)) ?_
  refine jb_let (F := fun draw_2 : Dr => [.d (.dict [(.none, .list (script.map .int))]), .o none (drD draw_2), .u, .u, .u, .u, .u, .u, .u, .u, .u, .u, .u, .u, .u, .u, .u, .u, .u, .u, .u, .u, .u]) (v := ((⟨script, 0, 0, 17⟩ : Dr) : Dr)) fun draw_2 e_draw_2 => ?_
  have hok := let_ok hok draw_2 e_draw_2
  refine jb_pre fun q_3 e_q_3 => ?_
  have hok := let_ok hok q_3 e_q_3
  refine jb_pre fun q_4 e_q_4 => ?_
  have hok := let_ok hok q_4 e_q_4
  refine jb_pre fun q_5 e_q_5 => ?_
  have hok := let_ok hok q_5 e_q_5
  refine jb_cons (js_parN [2, 3, 4] (jns_cons 2 nd (jns_cons 3 nd (jns_cons 4 nd jns_nil))) (jao_d (je_add (j2d je_int (je_callO' 1 (d := .int q_3.1) (e2 := [.d (.dict [(.none, .list (script.map .int))]), .o none (drD q_3.2), .u, .u, .u, .u, .u, .u, .u, .u, .u, .u, .u, .u, .u, .u, .u, .u, .u, .u, .u, .u, .u]) (ok_next X) (draw_2, (11 : Int)) X.o_next.m X.o_next.F.kp X.o_next.b (ja_cons je_int ja_nil) (show drN (11 : Int) from ⟨by decide, by decide⟩) (hq := by subst e_q_3; rfl) (he := by subst e_q_3; rfl)))) (jao_d (je_add (j2d je_int (je_callO' 1 (d := .int q_4.1) (e2 := [.d (.dict [(.none, .list (script.map .int))]), .o none (drD q_4.2), .u, .u, .u, .u, .u, .u, .u, .u, .u, .u, .u, .u, .u, .u, .u, .u, .u, .u, .u, .u, .u]) (ok_next X) (q_3.2, (3 : Int)) X.o_next.m X.o_next.F.kp X.o_next.b (ja_cons je_int ja_nil) (show drN (3 : Int) from ⟨by decide, by decide⟩) (hq := by subst e_q_4; rfl) (he := by subst e_q_4; rfl)))) (jao_d (je_add (j2d je_int (je_callO' 1 (d := .int q_5.1) (e2 := [.d (.dict [(.none, .list (script.map .int))]), .o none (drD q_5.2), .u, .u, .u, .u, .u, .u, .u, .u, .u, .u, .u, .u, .u, .u, .u, .u, .u, .u, .u, .u, .u]) (ok_next X) (q_4.2, (5 : Int)) X.o_next.m X.o_next.F.kp X.o_next.b (ja_cons je_int ja_nil) (show drN (5 : Int) from ⟨by decide, by decide⟩) (hq := by subst e_q_5; rfl) (he := by subst e_q_5; rfl)))) jao_nil))) (hw := by walk_at "hw")) ?_
  refine jb_let (F := fun pounds_7 : Int => [.d (.dict [(.none, .list (script.map .int))]), .o none (drD q_5.2), .d (PyData.int pounds_7), .d (PyData.int ((1 : Int) + q_4.1)), .d (PyData.int ((1 : Int) + q_5.1)), .u, .u, .u, .u, .u, .u, .u, .u, .u, .u, .u, .u, .u, .u, .u, .u, .u, .u]) (v := (((1 : Int) + q_3.1) : Int)) fun pounds_7 e_pounds_7 => ?_
  have hok := let_ok hok pounds_7 e_pounds_7
  refine jb_let (F := fun hours_8 : Int => [.d (.dict [(.none, .list (script.map .int))]), .o none (drD q_5.2), .d (PyData.int pounds_7), .d (PyData.int hours_8), .d (PyData.int ((1 : Int) + q_5.1)), .u, .u, .u, .u, .u, .u, .u, .u, .u, .u, .u, .u, .u, .u, .u, .u, .u, .u]) (v := (((1 : Int) + q_4.1) : Int)) fun hours_8 e_hours_8 => ?_
  have hok := let_ok hok hours_8 e_hours_8
  refine jb_let (F := fun melts_9 : Int => [.d (.dict [(.none, .list (script.map .int))]), .o none (drD q_5.2), .d (PyData.int pounds_7), .d (PyData.int hours_8), .d (PyData.int melts_9), .u, .u, .u, .u, .u, .u, .u, .u, .u, .u, .u, .u, .u, .u, .u, .u, .u, .u]) (v := (((1 : Int) + q_5.1) : Int)) fun melts_9 e_melts_9 => ?_
  have hok := let_ok hok melts_9 e_melts_9
  refine jb_pre fun q_10 e_q_10 => ?_
  have hok := let_ok hok q_10 e_q_10
  refine jb_pre fun m_15 e_m_15 => ?_
  have hok := let_ok hok m_15 e_m_15
  obtain ⟨hs_16, hok⟩ := hok
  refine jb_cons (js_set 5 nd (je_tupL (xs := m_15.1.map PyData.int) rfl X.m_tuple (je_fb (je_lcDq (enc := PyData.int) m_15 [("k", 10)] (fun s_12 : Dr => [.d (.dict [(.none, .list (script.map .int))]), .o none (drD s_12), .d (PyData.int pounds_7), .d (PyData.int hours_8), .d (PyData.int melts_9), .u, .u, .u, .u, .u, .u, .u, .u, .u, .u, .u, .u, .u, .u, .u, .u, .u, .u]) PyData.int (fun (s_12 : Dr) (x_11 : Int) => (Let (nxt s_12 (6 : Int)) fun q_13 : (Int × Dr) => (q_13.1, q_13.2))) q_10.2 e_m_15 (ji_range1 rfl X.m_range (je_callO' 1 (d := .int q_10.1) (e2 := [.d (.dict [(.none, .list (script.map .int))]), .o none (drD q_10.2), .d (PyData.int pounds_7), .d (PyData.int hours_8), .d (PyData.int melts_9), .u, .u, .u, .u, .u, .u, .u, .u, .u, .u, .u, .u, .u, .u, .u, .u, .u, .u]) (ok_next X) (q_5.2, (9 : Int)) X.o_next.m X.o_next.F.kp X.o_next.b (ja_cons je_int ja_nil) (show drN (9 : Int) from ⟨by decide, by decide⟩) (hq := by subst e_q_10; rfl) (he := by subst e_q_10; rfl)) hs_16) (by exact nd) rfl (fun _ => unk_of rfl) (fun s_12 x_11 hx_14 => lcd_let (w := (nxt s_12 (6 : Int))) fun q_13 e_q_13 => lcd (js := [10]) (E1 := [.d (.dict [(.none, .list (script.map .int))]), .o none (drD s_12), .d (PyData.int pounds_7), .d (PyData.int hours_8), .d (PyData.int melts_9), .u, .u, .u, .u, .u, .d (PyData.int x_11), .u, .u, .u, .u, .u, .u, .u, .u, .u, .u, .u, .u]) (E2 := [.d (.dict [(.none, .list (script.map .int))]), .o none (drD q_13.2), .d (PyData.int pounds_7), .d (PyData.int hours_8), .d (PyData.int melts_9), .u, .u, .u, .u, .u, .d (PyData.int x_11), .u, .u, .u, .u, .u, .u, .u, .u, .u, .u, .u, .u]) (by simp) (jg_name 10 (by exact nd)) (je_callO' 1 (d := .int q_13.1) (e2 := [.d (.dict [(.none, .list (script.map .int))]), .o none (drD q_13.2), .d (PyData.int pounds_7), .d (PyData.int hours_8), .d (PyData.int melts_9), .u, .u, .u, .u, .u, .d (PyData.int x_11), .u, .u, .u, .u, .u, .u, .u, .u, .u, .u, .u, .u]) (ok_next X) (s_12, (6 : Int)) X.o_next.m X.o_next.F.kp X.o_next.b (ja_cons je_int ja_nil) (show drN (6 : Int) from ⟨by decide, by decide⟩) (hq := by subst e_q_13; rfl) (he := by subst e_q_13; rfl)) (by walk_at "le")))))) ?_
  refine jb_let (F := fun wants_17 : (List Int) => [.d (.dict [(.none, .list (script.map .int))]), .o none (drD m_15.2), .d (PyData.int pounds_7), .d (PyData.int hours_8), .d (PyData.int melts_9), .d ((eT PyData.int) wants_17), .u, .u, .u, .u, .u, .u, .u, .u, .u, .u, .u, .u, .u, .u, .u, .u, .u]) (v := (m_15.1 : (List Int))) fun wants_17 e_wants_17 => ?_
  have hok := let_ok hok wants_17 e_wants_17
  obtain ⟨hs_18, hok⟩ := hok
  refine jb_ifr (jt_not (jt_v (je_call' (ok_same X 2) ((eT (eP2 PyData.int PyData.int)) (hours_of pounds_7 hours_8 melts_9 wants_17), (eT (eP2 PyData.int PyData.int)) (law_ice pounds_7 hours_8 melts_9 wants_17)) X.o_same.m X.o_same.F.kp X.o_same.b (ja_cons (je_call' (d := (eT (eP2 PyData.int PyData.int)) (hours_of pounds_7 hours_8 melts_9 wants_17)) (ok_hours_of X) (pounds_7, hours_8, melts_9, wants_17) X.o_hours_of.m X.o_hours_of.F.kp X.o_hours_of.b (ja_cons (je_var 2) (ja_cons (je_var 3) (ja_cons (je_var 4) (ja_cons (je_var 5) ja_nil)))) hs_18.1) (ja_cons (je_tupL (xs := (law_ice pounds_7 hours_8 melts_9 wants_17).map (eP2 PyData.int PyData.int)) rfl X.m_tuple (je_b (je_call' (d := (eL (eP2 PyData.int PyData.int)) (law_ice pounds_7 hours_8 melts_9 wants_17)) (ok_law_ice X) (pounds_7, hours_8, melts_9, wants_17) X.o_law_ice.m X.o_law_ice.F.kp X.o_law_ice.b (ja_cons (je_var 2) (ja_cons (je_var 3) (ja_cons (je_var 4) (ja_cons (je_var 5) ja_nil)))) hs_18.2))) ja_nil)) ((sp_t (sp_p2 sp_int sp_int)) (hours_of pounds_7 hours_8 melts_9 wants_17) (law_ice pounds_7 hours_8 melts_9 wants_17)) (hq := same_q (sm_t (sm_p2 sm_int sm_int)) (hours_of pounds_7 hours_8 melts_9 wants_17) (law_ice pounds_7 hours_8 melts_9 wants_17))))) (fun hc_19 => ?_) (fun hc_19 => ?_)
  · have hok := hok.1 hc_19
    have hs_20 := hok
    exact jb_ret je_bl (by walk_at "le")
  · have hok := hok.2 hc_19
    refine jb_pre fun q_21 e_q_21 => ?_
    have hok := let_ok hok q_21 e_q_21
    refine jb_cons (js_parN [6, 7] (jns_cons 6 nd (jns_cons 7 nd jns_nil)) (jao_d (je_callO' 1 (d := .int q_21.1) (e2 := [.d (.dict [(.none, .list (script.map .int))]), .o none (drD q_21.2), .d (PyData.int pounds_7), .d (PyData.int hours_8), .d (PyData.int melts_9), .d ((eT PyData.int) wants_17), .u, .u, .u, .u, .u, .u, .u, .u, .u, .u, .u, .u, .u, .u, .u, .u, .u]) (ok_next X) (m_15.2, (6 : Int)) X.o_next.m X.o_next.F.kp X.o_next.b (ja_cons je_int ja_nil) (show drN (6 : Int) from ⟨by decide, by decide⟩) (hq := by subst e_q_21; rfl) (he := by subst e_q_21; rfl)) (jao_d (je_slT' (enc := PyData.int) (xs := wants_17) (je_var 5) jo_none (jo_some je_int)) jao_nil)) (hw := by walk_at "hw")) ?_
    refine jb_let (F := fun begin_23 : Int => [.d (.dict [(.none, .list (script.map .int))]), .o none (drD q_21.2), .d (PyData.int pounds_7), .d (PyData.int hours_8), .d (PyData.int melts_9), .d ((eT PyData.int) wants_17), .d (PyData.int begin_23), .d ((eT PyData.int) (cutL wants_17 none (some (5 : Int)))), .u, .u, .u, .u, .u, .u, .u, .u, .u, .u, .u, .u, .u, .u, .u]) (v := (q_21.1 : Int)) fun begin_23 e_begin_23 => ?_
    have hok := let_ok hok begin_23 e_begin_23
    refine jb_let (F := fun most_24 : (List Int) => [.d (.dict [(.none, .list (script.map .int))]), .o none (drD q_21.2), .d (PyData.int pounds_7), .d (PyData.int hours_8), .d (PyData.int melts_9), .d ((eT PyData.int) wants_17), .d (PyData.int begin_23), .d ((eT PyData.int) most_24), .u, .u, .u, .u, .u, .u, .u, .u, .u, .u, .u, .u, .u, .u, .u]) (v := ((cutL wants_17 none (some (5 : Int))) : (List Int))) fun most_24 e_most_24 => ?_
    have hok := let_ok hok most_24 e_most_24
    obtain ⟨hs_31, hok⟩ := hok
    refine jb_cons (js_frz (i := 8) (k0 := none) (js_lc1 8 (enc := PyData.int) (dec := PyData.int) [("many", 18)] (fun x_25 : Int => (decide (((cutL (law_ice x_25 hours_8 melts_9 most_24) (some begin_23) none).map fun x_26 : (Int × Int) => x_26.2).sum = (0 : Int)))) (fun x_25 : Int => x_25) (ji_range2 rfl X.m_range (ja_cons je_int (ja_cons je_int ja_nil)) hs_31.1) (by exact nd) rfl (unk_of rfl) (fun x_25 hx_29 => lcp (js := [18]) (E1 := [.d (.dict [(.none, .list (script.map .int))]), .o none (drD q_21.2), .d (PyData.int pounds_7), .d (PyData.int hours_8), .d (PyData.int melts_9), .d ((eT PyData.int) wants_17), .d (PyData.int begin_23), .d ((eT PyData.int) most_24), .u, .u, .u, .u, .u, .u, .u, .u, .u, .u, .d (PyData.int x_25), .u, .u, .u, .u]) (by simp) (jg_name 18 (by exact nd)) (jts_one (jt_c (cj_eqI (j2d (je_sum rfl X.m_sum (je_fb (je_lc0 (enc := (eP2 PyData.int PyData.int)) (dec := PyData.int) [("ice", 21), ("lack", 22)] (fun x_26 : (Int × Int) => x_26.2) (ji_list (je_fz (je_slL' (enc := (eP2 PyData.int PyData.int)) (xs := (law_ice x_25 hours_8 melts_9 most_24)) (je_call' (d := (eL (eP2 PyData.int PyData.int)) (law_ice x_25 hours_8 melts_9 most_24)) (ok_law_ice X) (x_25, hours_8, melts_9, most_24) X.o_law_ice.m X.o_law_ice.F.kp X.o_law_ice.b (ja_cons (je_var 18) (ja_cons (je_var 3) (ja_cons (je_var 4) (ja_cons (je_var 7) ja_nil)))) (hs_31.2 x_25 hx_29)) (jo_some (je_var 6)) jo_none))) (by exact nd) rfl (unk_of rfl) (fun x_26 hx_27 => lcp (js := [21, 22]) (E1 := [.d (.dict [(.none, .list (script.map .int))]), .o none (drD q_21.2), .d (PyData.int pounds_7), .d (PyData.int hours_8), .d (PyData.int melts_9), .d ((eT PyData.int) wants_17), .d (PyData.int begin_23), .d ((eT PyData.int) most_24), .u, .u, .u, .u, .u, .u, .u, .u, .u, .u, .d (PyData.int x_25), .u, .u, .d (PyData.int x_26.1), .d (PyData.int x_26.2)]) (by simp) (jg_tup (jgs_cons (jg_name 21 (by exact nd)) (jgs_cons (jg_name 22 (by exact nd)) jgs_nil))) jts_nil (by walk_at "le") fun hc_28 => (je_var 22))))) je_int)))) (by walk_at "le") fun hc_30 => (je_var 18))) rfl) ?_
    refine jb_let (F := fun good_32 : (List Int) => [.d (.dict [(.none, .list (script.map .int))]), .o none (drD q_21.2), .d (PyData.int pounds_7), .d (PyData.int hours_8), .d (PyData.int melts_9), .d ((eT PyData.int) wants_17), .d (PyData.int begin_23), .d ((eT PyData.int) most_24), .d ((eL PyData.int) good_32), .u, .u, .u, .u, .u, .u, .u, .u, .u, .u, .u, .u, .u, .u]) (v := ((((rgI (1 : Int) (61 : Int)).filter fun x_25 : Int => (decide (((cutL (law_ice x_25 hours_8 melts_9 most_24) (some begin_23) none).map fun x_26 : (Int × Int) => x_26.2).sum = (0 : Int)))).map fun x_25 : Int => x_25) : (List Int))) fun good_32 e_good_32 => ?_
    have hok := let_ok hok good_32 e_good_32
    obtain ⟨hs_34, hok⟩ := hok
    refine jb_ifr (jt_not (jt_v (je_call' (ok_same X 0) ((eO PyData.int) (fewest_pounds hours_8 melts_9 most_24 begin_23), (eO PyData.int) (if (!good_32.isEmpty) = true then (some (gI good_32 (0 : Int))) else (none : (Option Int)))) X.o_same.m X.o_same.F.kp X.o_same.b (ja_cons (je_call' (d := (eO PyData.int) (fewest_pounds hours_8 melts_9 most_24 begin_23)) (ok_fewest_pounds X) (hours_8, melts_9, most_24, begin_23) X.o_fewest_pounds.m X.o_fewest_pounds.F.kp X.o_fewest_pounds.b (ja_cons (je_var 3) (ja_cons (je_var 4) (ja_cons (je_var 7) (ja_cons (je_var 6) ja_nil)))) hs_34.1) (ja_cons (je_ifc (u := (some (gI good_32 (0 : Int)))) (w := (none : (Option Int))) (eO PyData.int) (jt_tL (je_b (je_var 8))) (fun hc_33 => (je_ixL' (enc := PyData.int) (j2d (je_var 8) je_int) (hs_34.2 hc_33))) (fun hc_33 => je_non)) ja_nil)) ((sp_o sp_int (fun _ => by rfl)) (fewest_pounds hours_8 melts_9 most_24 begin_23) (if (!good_32.isEmpty) = true then (some (gI good_32 (0 : Int))) else (none : (Option Int)))) (hq := same_q (sm_o sm_int (fun _ => ⟨by simp [sameD], by simp [sameD]⟩)) (fewest_pounds hours_8 melts_9 most_24 begin_23) (if (!good_32.isEmpty) = true then (some (gI good_32 (0 : Int))) else (none : (Option Int))))))) (fun hc_35 => ?_) (fun hc_35 => ?_)
    · have hok := hok.1 hc_35
      have hs_36 := hok
      exact jb_ret je_bl (by walk_at "le")
    · have hok := hok.2 hc_35
      refine jb_pre fun q_37 e_q_37 => ?_
      have hok := let_ok hok q_37 e_q_37
      refine jb_pre fun m_42 e_m_42 => ?_
      have hok := let_ok hok m_42 e_m_42
      obtain ⟨hs_43, hok⟩ := hok
      refine jb_cons (js_set 9 nd (je_tupL (xs := m_42.1.map PyData.int) rfl X.m_tuple (je_fb (je_lcDq (enc := PyData.int) m_42 [("k", 10)] (fun s_39 : Dr => [.d (.dict [(.none, .list (script.map .int))]), .o none (drD s_39), .d (PyData.int pounds_7), .d (PyData.int hours_8), .d (PyData.int melts_9), .d ((eT PyData.int) wants_17), .d (PyData.int begin_23), .d ((eT PyData.int) most_24), .d ((eL PyData.int) good_32), .u, .u, .u, .u, .u, .u, .u, .u, .u, .u, .u, .u, .u, .u]) PyData.int (fun (s_39 : Dr) (x_38 : Int) => (Let (nxt s_39 (20 : Int)) fun q_40 : (Int × Dr) => (q_40.1, q_40.2))) q_37.2 e_m_42 (ji_range1 rfl X.m_range (je_add (j2d je_int (je_callO' 1 (d := .int q_37.1) (e2 := [.d (.dict [(.none, .list (script.map .int))]), .o none (drD q_37.2), .d (PyData.int pounds_7), .d (PyData.int hours_8), .d (PyData.int melts_9), .d ((eT PyData.int) wants_17), .d (PyData.int begin_23), .d ((eT PyData.int) most_24), .d ((eL PyData.int) good_32), .u, .u, .u, .u, .u, .u, .u, .u, .u, .u, .u, .u, .u, .u]) (ok_next X) (q_21.2, (4 : Int)) X.o_next.m X.o_next.F.kp X.o_next.b (ja_cons je_int ja_nil) (show drN (4 : Int) from ⟨by decide, by decide⟩) (hq := by subst e_q_37; rfl) (he := by subst e_q_37; rfl)))) hs_43) (by exact nd) rfl (fun _ => unk_of rfl) (fun s_39 x_38 hx_41 => lcd_let (w := (nxt s_39 (20 : Int))) fun q_40 e_q_40 => lcd (js := [10]) (E1 := [.d (.dict [(.none, .list (script.map .int))]), .o none (drD s_39), .d (PyData.int pounds_7), .d (PyData.int hours_8), .d (PyData.int melts_9), .d ((eT PyData.int) wants_17), .d (PyData.int begin_23), .d ((eT PyData.int) most_24), .d ((eL PyData.int) good_32), .u, .d (PyData.int x_38), .u, .u, .u, .u, .u, .u, .u, .u, .u, .u, .u, .u]) (E2 := [.d (.dict [(.none, .list (script.map .int))]), .o none (drD q_40.2), .d (PyData.int pounds_7), .d (PyData.int hours_8), .d (PyData.int melts_9), .d ((eT PyData.int) wants_17), .d (PyData.int begin_23), .d ((eT PyData.int) most_24), .d ((eL PyData.int) good_32), .u, .d (PyData.int x_38), .u, .u, .u, .u, .u, .u, .u, .u, .u, .u, .u, .u]) (by simp) (jg_name 10 (by exact nd)) (je_callO' 1 (d := .int q_40.1) (e2 := [.d (.dict [(.none, .list (script.map .int))]), .o none (drD q_40.2), .d (PyData.int pounds_7), .d (PyData.int hours_8), .d (PyData.int melts_9), .d ((eT PyData.int) wants_17), .d (PyData.int begin_23), .d ((eT PyData.int) most_24), .d ((eL PyData.int) good_32), .u, .d (PyData.int x_38), .u, .u, .u, .u, .u, .u, .u, .u, .u, .u, .u, .u]) (ok_next X) (s_39, (20 : Int)) X.o_next.m X.o_next.F.kp X.o_next.b (ja_cons je_int ja_nil) (show drN (20 : Int) from ⟨by decide, by decide⟩) (hq := by subst e_q_40; rfl) (he := by subst e_q_40; rfl)) (by walk_at "le")))))) ?_
      refine jb_let (F := fun rooms_44 : (List Int) => [.d (.dict [(.none, .list (script.map .int))]), .o none (drD m_42.2), .d (PyData.int pounds_7), .d (PyData.int hours_8), .d (PyData.int melts_9), .d ((eT PyData.int) wants_17), .d (PyData.int begin_23), .d ((eT PyData.int) most_24), .d ((eL PyData.int) good_32), .d ((eT PyData.int) rooms_44), .u, .u, .u, .u, .u, .u, .u, .u, .u, .u, .u, .u, .u]) (v := (m_42.1 : (List Int))) fun rooms_44 e_rooms_44 => ?_
      have hok := let_ok hok rooms_44 e_rooms_44
      refine jb_pre fun q_45 e_q_45 => ?_
      have hok := let_ok hok q_45 e_q_45
      refine jb_pre fun m_50 e_m_50 => ?_
      have hok := let_ok hok m_50 e_m_50
      obtain ⟨hs_51, hok⟩ := hok
      refine jb_cons (js_parN [10, 11] (jns_cons 10 nd (jns_cons 11 nd jns_nil)) (jao_d (je_callO' 1 (d := .int q_45.1) (e2 := [.d (.dict [(.none, .list (script.map .int))]), .o none (drD q_45.2), .d (PyData.int pounds_7), .d (PyData.int hours_8), .d (PyData.int melts_9), .d ((eT PyData.int) wants_17), .d (PyData.int begin_23), .d ((eT PyData.int) most_24), .d ((eL PyData.int) good_32), .d ((eT PyData.int) rooms_44), .u, .u, .u, .u, .u, .u, .u, .u, .u, .u, .u, .u, .u]) (ok_next X) (m_42.2, (rooms_44.length : Int)) X.o_next.m X.o_next.F.kp X.o_next.b (ja_cons (je_lenT' rfl X.m_len (je_b (je_var 9))) ja_nil) hs_51 (hq := by subst e_q_45; rfl) (he := by subst e_q_45; rfl)) (jao_d (je_tupL (xs := m_50.1.map PyData.int) rfl X.m_tuple (je_fb (je_lcDq (enc := PyData.int) m_50 [("room", 19)] (fun s_47 : Dr => [.d (.dict [(.none, .list (script.map .int))]), .o none (drD s_47), .d (PyData.int pounds_7), .d (PyData.int hours_8), .d (PyData.int melts_9), .d ((eT PyData.int) wants_17), .d (PyData.int begin_23), .d ((eT PyData.int) most_24), .d ((eL PyData.int) good_32), .d ((eT PyData.int) rooms_44), .u, .u, .u, .u, .u, .u, .u, .u, .u, .u, .u, .u, .u]) PyData.int (fun (s_47 : Dr) (x_46 : Int) => (Let (nxt s_47 (12 : Int)) fun q_48 : (Int × Dr) => (q_48.1, q_48.2))) q_45.2 e_m_50 (ji_tup (je_var 9)) (by exact nd) rfl (fun _ => unk_of rfl) (fun s_47 x_46 hx_49 => lcd_let (w := (nxt s_47 (12 : Int))) fun q_48 e_q_48 => lcd (js := [19]) (E1 := [.d (.dict [(.none, .list (script.map .int))]), .o none (drD s_47), .d (PyData.int pounds_7), .d (PyData.int hours_8), .d (PyData.int melts_9), .d ((eT PyData.int) wants_17), .d (PyData.int begin_23), .d ((eT PyData.int) most_24), .d ((eL PyData.int) good_32), .d ((eT PyData.int) rooms_44), .u, .u, .u, .u, .u, .u, .u, .u, .u, .d (PyData.int x_46), .u, .u, .u]) (E2 := [.d (.dict [(.none, .list (script.map .int))]), .o none (drD q_48.2), .d (PyData.int pounds_7), .d (PyData.int hours_8), .d (PyData.int melts_9), .d ((eT PyData.int) wants_17), .d (PyData.int begin_23), .d ((eT PyData.int) most_24), .d ((eL PyData.int) good_32), .d ((eT PyData.int) rooms_44), .u, .u, .u, .u, .u, .u, .u, .u, .u, .d (PyData.int x_46), .u, .u, .u]) (by simp) (jg_name 19 (by exact nd)) (je_callO' 1 (d := .int q_48.1) (e2 := [.d (.dict [(.none, .list (script.map .int))]), .o none (drD q_48.2), .d (PyData.int pounds_7), .d (PyData.int hours_8), .d (PyData.int melts_9), .d ((eT PyData.int) wants_17), .d (PyData.int begin_23), .d ((eT PyData.int) most_24), .d ((eL PyData.int) good_32), .d ((eT PyData.int) rooms_44), .u, .u, .u, .u, .u, .u, .u, .u, .u, .d (PyData.int x_46), .u, .u, .u]) (ok_next X) (s_47, (12 : Int)) X.o_next.m X.o_next.F.kp X.o_next.b (ja_cons je_int ja_nil) (show drN (12 : Int) from ⟨by decide, by decide⟩) (hq := by subst e_q_48; rfl) (he := by subst e_q_48; rfl)) (by walk_at "le"))))) jao_nil)) (hw := by walk_at "hw")) ?_
      refine jb_let (F := fun k_52 : Int => [.d (.dict [(.none, .list (script.map .int))]), .o none (drD m_50.2), .d (PyData.int pounds_7), .d (PyData.int hours_8), .d (PyData.int melts_9), .d ((eT PyData.int) wants_17), .d (PyData.int begin_23), .d ((eT PyData.int) most_24), .d ((eL PyData.int) good_32), .d ((eT PyData.int) rooms_44), .d (PyData.int k_52), .d ((eT PyData.int) m_50.1), .u, .u, .u, .u, .u, .u, .u, .u, .u, .u, .u]) (v := (q_45.1 : Int)) fun k_52 e_k_52 => ?_
      have hok := let_ok hok k_52 e_k_52
      refine jb_let (F := fun bears_53 : (List Int) => [.d (.dict [(.none, .list (script.map .int))]), .o none (drD m_50.2), .d (PyData.int pounds_7), .d (PyData.int hours_8), .d (PyData.int melts_9), .d ((eT PyData.int) wants_17), .d (PyData.int begin_23), .d ((eT PyData.int) most_24), .d ((eL PyData.int) good_32), .d ((eT PyData.int) rooms_44), .d (PyData.int k_52), .d ((eT PyData.int) bears_53), .u, .u, .u, .u, .u, .u, .u, .u, .u, .u, .u]) (v := (m_50.1 : (List Int))) fun bears_53 e_bears_53 => ?_
      have hok := let_ok hok bears_53 e_bears_53
      obtain ⟨hs_54, hok⟩ := hok
      refine jb_ifr (jt_not (jt_v (je_call' (ok_same X 0) (PyData.int (hears rooms_44 k_52), PyData.int (law_hears rooms_44 k_52)) X.o_same.m X.o_same.F.kp X.o_same.b (ja_cons (je_call' (d := PyData.int (hears rooms_44 k_52)) (ok_hears X) (rooms_44, k_52) X.o_hears.m X.o_hears.F.kp X.o_hears.b (ja_cons (je_var 9) (ja_cons (je_var 10) ja_nil)) hs_54.1) (ja_cons (je_call' (d := PyData.int (law_hears rooms_44 k_52)) (ok_law_hears X) (rooms_44, k_52) X.o_law_hears.m X.o_law_hears.F.kp X.o_law_hears.b (ja_cons (je_var 9) (ja_cons (je_var 10) ja_nil)) hs_54.2) ja_nil)) (sp_int (hears rooms_44 k_52) (law_hears rooms_44 k_52)) (hq := same_q sm_int (hears rooms_44 k_52) (law_hears rooms_44 k_52))))) (fun hc_55 => ?_) (fun hc_55 => ?_)
      · have hok := hok.1 hc_55
        have hs_56 := hok
        exact jb_ret je_bl (by walk_at "le")
      · have hok := hok.2 hc_55
        obtain ⟨hs_60, hok⟩ := hok
        refine jb_ifr (jt_not (jt_v (je_call' (ok_same X 1) ((eT PyData.int) (sleepers rooms_44 bears_53), (eT PyData.int) (((rgI 0 (rooms_44.length : Int)).filter fun x_57 : Int => (decide ((law_hears rooms_44 x_57) ≤ (gI bears_53 x_57)))).map fun x_57 : Int => x_57)) X.o_same.m X.o_same.F.kp X.o_same.b (ja_cons (je_call' (d := (eT PyData.int) (sleepers rooms_44 bears_53)) (ok_sleepers X) (rooms_44, bears_53) X.o_sleepers.m X.o_sleepers.F.kp X.o_sleepers.b (ja_cons (je_var 9) (ja_cons (je_var 11) ja_nil)) hs_60.1) (ja_cons (je_tupL (xs := (((rgI 0 (rooms_44.length : Int)).filter fun x_57 : Int => (decide ((law_hears rooms_44 x_57) ≤ (gI bears_53 x_57)))).map fun x_57 : Int => x_57).map PyData.int) rfl X.m_tuple (je_fb (je_lc1 (enc := PyData.int) (dec := PyData.int) [("j", 20)] (fun x_57 : Int => (decide ((law_hears rooms_44 x_57) ≤ (gI bears_53 x_57)))) (fun x_57 : Int => x_57) (ji_range1 rfl X.m_range (je_lenT' rfl X.m_len (je_b (je_var 9))) hs_60.2.1) (by exact nd) rfl (unk_of rfl) (fun x_57 hx_58 => lcp (js := [20]) (E1 := [.d (.dict [(.none, .list (script.map .int))]), .o none (drD m_50.2), .d (PyData.int pounds_7), .d (PyData.int hours_8), .d (PyData.int melts_9), .d ((eT PyData.int) wants_17), .d (PyData.int begin_23), .d ((eT PyData.int) most_24), .d ((eL PyData.int) good_32), .d ((eT PyData.int) rooms_44), .d (PyData.int k_52), .d ((eT PyData.int) bears_53), .u, .u, .u, .u, .u, .u, .u, .u, .d (PyData.int x_57), .u, .u]) (by simp) (jg_name 20 (by exact nd)) (jts_one (jt_c (cj_le (j2d (je_call' (d := PyData.int (law_hears rooms_44 x_57)) (ok_law_hears X) (rooms_44, x_57) X.o_law_hears.m X.o_law_hears.F.kp X.o_law_hears.b (ja_cons (je_var 9) (ja_cons (je_var 20) ja_nil)) (hs_60.2.2 x_57 hx_58).1) (je_ixT' (enc := PyData.int) (j2d (je_var 11) (je_var 20)) (hs_60.2.2 x_57 hx_58).2))))) (by walk_at "le") fun hc_59 => (je_var 20))))) ja_nil)) ((sp_t sp_int) (sleepers rooms_44 bears_53) (((rgI 0 (rooms_44.length : Int)).filter fun x_57 : Int => (decide ((law_hears rooms_44 x_57) ≤ (gI bears_53 x_57)))).map fun x_57 : Int => x_57)) (hq := same_q (sm_t sm_int) (sleepers rooms_44 bears_53) (((rgI 0 (rooms_44.length : Int)).filter fun x_57 : Int => (decide ((law_hears rooms_44 x_57) ≤ (gI bears_53 x_57)))).map fun x_57 : Int => x_57))))) (fun hc_61 => ?_) (fun hc_61 => ?_)
        · have hok := hok.1 hc_61
          have hs_62 := hok
          exact jb_ret je_bl (by walk_at "le")
        · have hok := hok.2 hc_61
          refine jb_cons (js_set 12 nd (je_fz (je_lst (ja_cons (je_tup ja_nil) ja_nil)))) ?_
          refine jb_let (F := fun orders_64 : (List (List Int)) => [.d (.dict [(.none, .list (script.map .int))]), .o none (drD m_50.2), .d (PyData.int pounds_7), .d (PyData.int hours_8), .d (PyData.int melts_9), .d ((eT PyData.int) wants_17), .d (PyData.int begin_23), .d ((eT PyData.int) most_24), .d ((eL PyData.int) good_32), .d ((eT PyData.int) rooms_44), .d (PyData.int k_52), .d ((eT PyData.int) bears_53), .d ((eL (eT PyData.int)) orders_64), .u, .u, .u, .u, .u, .u, .u, .u, .u, .u]) (v := (([([] : (List Int))] : (List (List Int))) : (List (List Int)))) fun orders_64 e_orders_64 => ?_
          have hok := let_ok hok orders_64 e_orders_64
          obtain ⟨hf_92, hok⟩ := hok
          refine jb_cons (js_forN (enc := PyData.int) (fun l : (List (List Int)) => [.d (.dict [(.none, .list (script.map .int))]), .o none (drD m_50.2), .d (PyData.int pounds_7), .d (PyData.int hours_8), .d (PyData.int melts_9), .d ((eT PyData.int) wants_17), .d (PyData.int begin_23), .d ((eT PyData.int) most_24), .d ((eL PyData.int) good_32), .d ((eT PyData.int) rooms_44), .d (PyData.int k_52), .d ((eT PyData.int) bears_53), .d ((eL (eT PyData.int)) l), .u, .u, .u, .u, .u, .u, .u, .u, .u, .u]) (law_s_88 rooms_44) orders_64 (ji_tup (je_var 9)) (by walk_at "le") (fun i_91 x_67 l_66 hx_89 hl_90 => ?_)) ?_
          · have hok := hf_92 i_91 x_67 l_66 hx_89 hl_90
            unfold law_s_88_ok at hok
            unfold law_s_88
            refine ⟨[13], [.d (.dict [(.none, .list (script.map .int))]), .o none (drD m_50.2), .d (PyData.int pounds_7), .d (PyData.int hours_8), .d (PyData.int melts_9), .d ((eT PyData.int) wants_17), .d (PyData.int begin_23), .d ((eT PyData.int) most_24), .d ((eL PyData.int) good_32), .d ((eT PyData.int) rooms_44), .d (PyData.int k_52), .d ((eT PyData.int) bears_53), .d ((eL (eT PyData.int)) l_66), .d (PyData.int x_67), .u, .u, .u, .u, .u, .u, .u, .u, .u], (jg_name 13 (by exact nd)), ?_⟩
            refine jn_cons (js_set 14 nd (je_fz (je_lst ja_nil))) ?_
            refine jn_let (F := fun longer_69 : (List (List Int)) => [.d (.dict [(.none, .list (script.map .int))]), .o none (drD m_50.2), .d (PyData.int pounds_7), .d (PyData.int hours_8), .d (PyData.int melts_9), .d ((eT PyData.int) wants_17), .d (PyData.int begin_23), .d ((eT PyData.int) most_24), .d ((eL PyData.int) good_32), .d ((eT PyData.int) rooms_44), .d (PyData.int k_52), .d ((eT PyData.int) bears_53), .d ((eL (eT PyData.int)) l_66), .d (PyData.int x_67), .d ((eL (eT PyData.int)) longer_69), .u, .u, .u, .u, .u, .u, .u, .u]) (v := (([] : (List (List Int))) : (List (List Int)))) fun longer_69 e_longer_69 => ?_
            have hok := let_ok hok longer_69 e_longer_69
            obtain ⟨hf_83, hok⟩ := hok
            refine jn_cons (js_forN (enc := (eT PyData.int)) (fun l : (List (List Int)) => [.d (.dict [(.none, .list (script.map .int))]), .o none (drD m_50.2), .d (PyData.int pounds_7), .d (PyData.int hours_8), .d (PyData.int melts_9), .d ((eT PyData.int) wants_17), .d (PyData.int begin_23), .d ((eT PyData.int) most_24), .d ((eL PyData.int) good_32), .d ((eT PyData.int) rooms_44), .d (PyData.int k_52), .d ((eT PyData.int) bears_53), .d ((eL (eT PyData.int)) l_66), .d (PyData.int x_67), .d ((eL (eT PyData.int)) l), .u, .u, .u, .u, .u, .u, .u, .u]) (law_s_79 rooms_44) longer_69 (ji_list (je_var 12)) (by walk_at "le") (fun i_82 x_72 l_71 hx_80 hl_81 => ?_)) ?_
            · have hok := hf_83 i_82 x_72 l_71 hx_80 hl_81
              unfold law_s_79_ok at hok
              unfold law_s_79
              refine ⟨[15], [.d (.dict [(.none, .list (script.map .int))]), .o none (drD m_50.2), .d (PyData.int pounds_7), .d (PyData.int hours_8), .d (PyData.int melts_9), .d ((eT PyData.int) wants_17), .d (PyData.int begin_23), .d ((eT PyData.int) most_24), .d ((eL PyData.int) good_32), .d ((eT PyData.int) rooms_44), .d (PyData.int k_52), .d ((eT PyData.int) bears_53), .d ((eL (eT PyData.int)) l_66), .d (PyData.int x_67), .d ((eL (eT PyData.int)) l_71), .d ((eT PyData.int) x_72), .u, .u, .u, .u, .u, .u, .u], (jg_name 15 (by exact nd)), ?_⟩
              obtain ⟨hs_76, hok⟩ := hok
              refine jn_cons (js_set 14 nd (je_fz (je_catL' (enc := (eT PyData.int)) (j2d (je_var 14) (je_fz (je_lc1 (enc := PyData.int) (dec := (eT PyData.int)) [("j", 20)] (fun x_73 : Int => (!inB x_73 x_72)) (fun x_73 : Int => (x_72 ++ ([x_73] : (List Int)))) (ji_range1 rfl X.m_range (je_lenT' rfl X.m_len (je_b (je_var 9))) hs_76.1) (by exact nd) rfl (unk_of rfl) (fun x_73 hx_74 => lcp (js := [20]) (E1 := [.d (.dict [(.none, .list (script.map .int))]), .o none (drD m_50.2), .d (PyData.int pounds_7), .d (PyData.int hours_8), .d (PyData.int melts_9), .d ((eT PyData.int) wants_17), .d (PyData.int begin_23), .d ((eT PyData.int) most_24), .d ((eL PyData.int) good_32), .d ((eT PyData.int) rooms_44), .d (PyData.int k_52), .d ((eT PyData.int) bears_53), .d ((eL (eT PyData.int)) l_66), .d (PyData.int x_67), .d ((eL (eT PyData.int)) l_71), .d ((eT PyData.int) x_72), .u, .u, .u, .u, .d (PyData.int x_73), .u, .u]) (by simp) (jg_name 20 (by exact nd)) (jts_one (jt_c (cj_notInTB (enc := PyData.int) (x := x_73) (ys := x_72) (j2d (je_var 20) (je_var 15)) fl_int eqe_int))) (by walk_at "le") fun hc_75 => (je_catT' (enc := PyData.int) (j2d (je_var 15) (je_tup (ja_cons (je_var 20) ja_nil))) ((hs_76.2.1 x_73 hx_74) hc_75)))))) hs_76.2.2))) ?_
              refine jn_let (F := fun longer_77 : (List (List Int)) => [.d (.dict [(.none, .list (script.map .int))]), .o none (drD m_50.2), .d (PyData.int pounds_7), .d (PyData.int hours_8), .d (PyData.int melts_9), .d ((eT PyData.int) wants_17), .d (PyData.int begin_23), .d ((eT PyData.int) most_24), .d ((eL PyData.int) good_32), .d ((eT PyData.int) rooms_44), .d (PyData.int k_52), .d ((eT PyData.int) bears_53), .d ((eL (eT PyData.int)) l_66), .d (PyData.int x_67), .d ((eL (eT PyData.int)) longer_77), .d ((eT PyData.int) x_72), .u, .u, .u, .u, .u, .u, .u]) (v := ((l_71 ++ (((rgI 0 (rooms_44.length : Int)).filter fun x_73 : Int => (!inB x_73 x_72)).map fun x_73 : Int => (x_72 ++ ([x_73] : (List Int))))) : (List (List Int)))) fun longer_77 e_longer_77 => ?_
              have hok := let_ok hok longer_77 e_longer_77
              exact jn_nil (by walk_at "le")
            refine jn_let (F := fun l : (List (List Int)) => [.d (.dict [(.none, .list (script.map .int))]), .o none (drD m_50.2), .d (PyData.int pounds_7), .d (PyData.int hours_8), .d (PyData.int melts_9), .d ((eT PyData.int) wants_17), .d (PyData.int begin_23), .d ((eT PyData.int) most_24), .d ((eL PyData.int) good_32), .d ((eT PyData.int) rooms_44), .d (PyData.int k_52), .d ((eT PyData.int) bears_53), .d ((eL (eT PyData.int)) l_66), .d (PyData.int x_67), .d ((eL (eT PyData.int)) l), .u, .u, .u, .u, .u, .u, .u, .u]) fun l_84 e_l_84 => ?_
            have hok := let_ok hok l_84 e_l_84
            refine jn_cons (js_set 12 nd (je_var 14)) ?_
            refine jn_let (F := fun orders_86 : (List (List Int)) => [.d (.dict [(.none, .list (script.map .int))]), .o none (drD m_50.2), .d (PyData.int pounds_7), .d (PyData.int hours_8), .d (PyData.int melts_9), .d ((eT PyData.int) wants_17), .d (PyData.int begin_23), .d ((eT PyData.int) most_24), .d ((eL PyData.int) good_32), .d ((eT PyData.int) rooms_44), .d (PyData.int k_52), .d ((eT PyData.int) bears_53), .d ((eL (eT PyData.int)) orders_86), .d (PyData.int x_67), .d ((eL (eT PyData.int)) l_84), .u, .u, .u, .u, .u, .u, .u, .u]) (v := (l_84 : (List (List Int)))) fun orders_86 e_orders_86 => ?_
            have hok := let_ok hok orders_86 e_orders_86
            exact jn_nil (by walk_at "le")
          refine jb_let (F := fun l : (List (List Int)) => [.d (.dict [(.none, .list (script.map .int))]), .o none (drD m_50.2), .d (PyData.int pounds_7), .d (PyData.int hours_8), .d (PyData.int melts_9), .d ((eT PyData.int) wants_17), .d (PyData.int begin_23), .d ((eT PyData.int) most_24), .d ((eL PyData.int) good_32), .d ((eT PyData.int) rooms_44), .d (PyData.int k_52), .d ((eT PyData.int) bears_53), .d ((eL (eT PyData.int)) l), .u, .u, .u, .u, .u, .u, .u, .u, .u, .u]) fun l_93 e_l_93 => ?_
          have hok := let_ok hok l_93 e_l_93
          refine jb_cons (js_setO 16 nd (je_lst ja_nil)) ?_
          refine jb_let (F := fun ranked_95 : (List (Int × (List Int))) => [.d (.dict [(.none, .list (script.map .int))]), .o none (drD m_50.2), .d (PyData.int pounds_7), .d (PyData.int hours_8), .d (PyData.int melts_9), .d ((eT PyData.int) wants_17), .d (PyData.int begin_23), .d ((eT PyData.int) most_24), .d ((eL PyData.int) good_32), .d ((eT PyData.int) rooms_44), .d (PyData.int k_52), .d ((eT PyData.int) bears_53), .d ((eL (eT PyData.int)) l_93), .u, .u, .u, .o none ((eL (eP2 PyData.int (eT PyData.int))) ranked_95), .u, .u, .u, .u, .u, .u]) (v := (([] : (List (Int × (List Int)))) : (List (Int × (List Int))))) fun ranked_95 e_ranked_95 => ?_
          have hok := let_ok hok ranked_95 e_ranked_95
          obtain ⟨hf_114, hok⟩ := hok
          refine jb_cons (js_forN (enc := (eT PyData.int)) (fun l : (List (Int × (List Int))) => [.d (.dict [(.none, .list (script.map .int))]), .o none (drD m_50.2), .d (PyData.int pounds_7), .d (PyData.int hours_8), .d (PyData.int melts_9), .d ((eT PyData.int) wants_17), .d (PyData.int begin_23), .d ((eT PyData.int) most_24), .d ((eL PyData.int) good_32), .d ((eT PyData.int) rooms_44), .d (PyData.int k_52), .d ((eT PyData.int) bears_53), .d ((eL (eT PyData.int)) l_93), .u, .u, .u, .o none ((eL (eP2 PyData.int (eT PyData.int))) l), .u, .u, .u, .u, .u, .u]) (law_s_110 rooms_44) ranked_95 (ji_list (je_var 12)) (by walk_at "le") (fun i_113 x_98 l_97 hx_111 hl_112 => ?_)) ?_
          · have hok := hf_114 i_113 x_98 l_97 hx_111 hl_112
            unfold law_s_110_ok at hok
            unfold law_s_110
            refine ⟨[15], [.d (.dict [(.none, .list (script.map .int))]), .o none (drD m_50.2), .d (PyData.int pounds_7), .d (PyData.int hours_8), .d (PyData.int melts_9), .d ((eT PyData.int) wants_17), .d (PyData.int begin_23), .d ((eT PyData.int) most_24), .d ((eL PyData.int) good_32), .d ((eT PyData.int) rooms_44), .d (PyData.int k_52), .d ((eT PyData.int) bears_53), .d ((eL (eT PyData.int)) l_93), .u, .u, .d ((eT PyData.int) x_98), .o none ((eL (eP2 PyData.int (eT PyData.int))) l_97), .u, .u, .u, .u, .u, .u], (jg_name 15 (by exact nd)), ?_⟩
            obtain ⟨hs_102, hok⟩ := hok
            refine jn_cons (js_set 17 nd (je_tupL (xs := (x_98.map fun x_99 : Int => (gI rooms_44 x_99)).map PyData.int) rfl X.m_tuple (je_fb (je_lc0 (enc := PyData.int) (dec := PyData.int) [("j", 20)] (fun x_99 : Int => (gI rooms_44 x_99)) (ji_tup (je_var 15)) (by exact nd) rfl (unk_of rfl) (fun x_99 hx_100 => lcp (js := [20]) (E1 := [.d (.dict [(.none, .list (script.map .int))]), .o none (drD m_50.2), .d (PyData.int pounds_7), .d (PyData.int hours_8), .d (PyData.int melts_9), .d ((eT PyData.int) wants_17), .d (PyData.int begin_23), .d ((eT PyData.int) most_24), .d ((eL PyData.int) good_32), .d ((eT PyData.int) rooms_44), .d (PyData.int k_52), .d ((eT PyData.int) bears_53), .d ((eL (eT PyData.int)) l_93), .u, .u, .d ((eT PyData.int) x_98), .o none ((eL (eP2 PyData.int (eT PyData.int))) l_97), .u, .u, .u, .d (PyData.int x_99), .u, .u]) (by simp) (jg_name 20 (by exact nd)) jts_nil (by walk_at "le") fun hc_101 => (je_ixT' (enc := PyData.int) (j2d (je_var 9) (je_var 20)) (hs_102 x_99 hx_100))))))) ?_
            refine jn_let (F := fun told_103 : (List Int) => [.d (.dict [(.none, .list (script.map .int))]), .o none (drD m_50.2), .d (PyData.int pounds_7), .d (PyData.int hours_8), .d (PyData.int melts_9), .d ((eT PyData.int) wants_17), .d (PyData.int begin_23), .d ((eT PyData.int) most_24), .d ((eL PyData.int) good_32), .d ((eT PyData.int) rooms_44), .d (PyData.int k_52), .d ((eT PyData.int) bears_53), .d ((eL (eT PyData.int)) l_93), .u, .u, .d ((eT PyData.int) x_98), .o none ((eL (eP2 PyData.int (eT PyData.int))) l_97), .d ((eT PyData.int) told_103), .u, .u, .u, .u, .u]) (v := ((x_98.map fun x_99 : Int => (gI rooms_44 x_99)) : (List Int))) fun told_103 e_told_103 => ?_
            have hok := let_ok hok told_103 e_told_103
            obtain ⟨hs_107, hok⟩ := hok
            refine jn_cons (js_expr (je_append' (enc := (eP2 PyData.int (eT PyData.int))) (xs := l_97) (x := ((pyMax PyData.int ((rgI 0 (told_103.length : Int)).map fun x_104 : Int => (law_hears told_103 x_104))), told_103)) 16 (je_tup (ja_cons (je_maxL (enc := PyData.int) rfl X.m_max (je_fb (je_lc0 (enc := PyData.int) (dec := PyData.int) [("j", 20)] (fun x_104 : Int => (law_hears told_103 x_104)) (ji_range1 rfl X.m_range (je_lenT' rfl X.m_len (je_b (je_var 17))) hs_107.1) (by exact nd) rfl (unk_of rfl) (fun x_104 hx_105 => lcp (js := [20]) (E1 := [.d (.dict [(.none, .list (script.map .int))]), .o none (drD m_50.2), .d (PyData.int pounds_7), .d (PyData.int hours_8), .d (PyData.int melts_9), .d ((eT PyData.int) wants_17), .d (PyData.int begin_23), .d ((eT PyData.int) most_24), .d ((eL PyData.int) good_32), .d ((eT PyData.int) rooms_44), .d (PyData.int k_52), .d ((eT PyData.int) bears_53), .d ((eL (eT PyData.int)) l_93), .u, .u, .d ((eT PyData.int) x_98), .o none ((eL (eP2 PyData.int (eT PyData.int))) l_97), .d ((eT PyData.int) told_103), .u, .u, .d (PyData.int x_104), .u, .u]) (by simp) (jg_name 20 (by exact nd)) jts_nil (by walk_at "le") fun hc_106 => (je_call' (d := PyData.int (law_hears told_103 x_104)) (ok_law_hears X) (told_103, x_104) X.o_law_hears.m X.o_law_hears.F.kp X.o_law_hears.b (ja_cons (je_var 17) (ja_cons (je_var 20) ja_nil)) (hs_107.2.1 x_104 hx_105))))) alk_int hs_107.2.2.1) (ja_cons (je_var 17) ja_nil))) hs_107.2.2.2)) ?_
            refine jn_let (F := fun ranked_108 : (List (Int × (List Int))) => [.d (.dict [(.none, .list (script.map .int))]), .o none (drD m_50.2), .d (PyData.int pounds_7), .d (PyData.int hours_8), .d (PyData.int melts_9), .d ((eT PyData.int) wants_17), .d (PyData.int begin_23), .d ((eT PyData.int) most_24), .d ((eL PyData.int) good_32), .d ((eT PyData.int) rooms_44), .d (PyData.int k_52), .d ((eT PyData.int) bears_53), .d ((eL (eT PyData.int)) l_93), .u, .u, .d ((eT PyData.int) x_98), .o none ((eL (eP2 PyData.int (eT PyData.int))) ranked_108), .d ((eT PyData.int) told_103), .u, .u, .u, .u, .u]) (v := ((l_97 ++ [((pyMax PyData.int ((rgI 0 (told_103.length : Int)).map fun x_104 : Int => (law_hears told_103 x_104))), told_103)]) : (List (Int × (List Int))))) fun ranked_108 e_ranked_108 => ?_
            have hok := let_ok hok ranked_108 e_ranked_108
            exact jn_nil (by walk_at "le")
          refine jb_let (F := fun l : (List (Int × (List Int))) => [.d (.dict [(.none, .list (script.map .int))]), .o none (drD m_50.2), .d (PyData.int pounds_7), .d (PyData.int hours_8), .d (PyData.int melts_9), .d ((eT PyData.int) wants_17), .d (PyData.int begin_23), .d ((eT PyData.int) most_24), .d ((eL PyData.int) good_32), .d ((eT PyData.int) rooms_44), .d (PyData.int k_52), .d ((eT PyData.int) bears_53), .d ((eL (eT PyData.int)) l_93), .u, .u, .u, .o none ((eL (eP2 PyData.int (eT PyData.int))) l), .u, .u, .u, .u, .u, .u]) fun l_115 e_l_115 => ?_
          have hok := let_ok hok l_115 e_l_115
          have hs_116 := hok
          exact jb_ret (je_call' (ok_same X 2) ((eP2 PyData.int (eT PyData.int)) (quietest rooms_44), (eP2 PyData.int (eT PyData.int)) (pyMin (eP2 PyData.int (eT PyData.int)) l_115)) X.o_same.m X.o_same.F.kp X.o_same.b (ja_cons (je_call' (d := (eP2 PyData.int (eT PyData.int)) (quietest rooms_44)) (ok_quietest X) (rooms_44) X.o_quietest.m X.o_quietest.F.kp X.o_quietest.b (ja_cons (je_var 9) ja_nil) hs_116.1) (ja_cons (je_minL (enc := (eP2 PyData.int (eT PyData.int))) rfl X.m_min (je_varB 16) (alk_p2 alk_int (alk_t alk_int)) hs_116.2) ja_nil)) ((sp_p2 sp_int (sp_t sp_int)) (quietest rooms_44) (pyMin (eP2 PyData.int (eT PyData.int)) l_115)) (hq := same_q (sm_p2 sm_int (sm_t sm_int)) (quietest rooms_44) (pyMin (eP2 PyData.int (eT PyData.int)) l_115))) (by walk_at "le")
end
end K13
namespace K13
open PySem L2 PySem.Spec PyProof.Rows J
theorem ediv_uniq {a b q r : Int} (h : a = b * q + r) (h0 : 0 ≤ r) (h1 : r < b) : a / b = q := by
  subst h
  rw [Int.add_comm, Int.add_mul_ediv_left _ _ (by omega : b ≠ 0), Int.ediv_eq_zero_of_lt h0 h1]; omega
theorem fold_inv {S α : Type} (P : S → Prop) {f g : S → α → S} : ∀ (xs : List α) (s : S), P s → (∀ x ∈ xs, ∀ s, P s → f s x = g s x ∧ P (g s x)) → xs.foldl f s = xs.foldl g s
  | [], _, _, _ => rfl
  | x :: xs, s, h, k => by
    obtain ⟨e, p⟩ := k x (by simp) s h
    rw [List.foldl_cons, List.foldl_cons, e]
    exact fold_inv P xs _ p fun y hy => k y (by simp [hy])
/-! ### ice -/
theorem melt_eq {x m : Int} (hx : 0 ≤ x) (hm : 0 < m) : max 0 (x - -(Int.fdiv (-x) m)) = x - Int.fdiv (x + m - 1) m ∧ 0 ≤ x - Int.fdiv (x + m - 1) m := by
  rw [Int.fdiv_eq_ediv_of_nonneg _ (by omega), Int.fdiv_eq_ediv_of_nonneg _ (by omega)]
  have h1 := Int.mul_ediv_add_emod (x + m - 1) m
  have h2 := Int.emod_nonneg (x + m - 1) (by omega : m ≠ 0)
  have h3 := Int.emod_lt_of_pos (x + m - 1) hm
  generalize hq : (x + m - 1) / m = q at *
  generalize (x + m - 1) % m = r at *
  have e : (-x) / m = -q := ediv_uniq (r := m - 1 - r) (by rw [Int.mul_neg]; omega) (by omega) (by omega)
  rw [e]
  have hle : q ≤ x := by
    by_cases h : x < q
    · have := Int.mul_le_mul_of_nonneg_left (show x + 1 ≤ q by omega) (Int.le_of_lt hm)
      have h5 := Int.mul_le_mul_of_nonneg_right (show 1 ≤ m by omega) hx
      rw [Int.mul_add] at this
      omega
    · omega
  omega
theorem batch_eq {k h : Int} (hk : 0 ≤ k) (hh : 0 < h) : decide (Int.fmod (k + 1) h = 0) = decide (Int.fdiv k h < Int.fdiv (k + 1) h) := by
  rw [Int.fmod_eq_emod_of_nonneg _ (by omega), Int.fdiv_eq_ediv_of_nonneg _ (by omega), Int.fdiv_eq_ediv_of_nonneg _ (by omega)]
  have h1 := Int.mul_ediv_add_emod (k + 1) h
  have h2 := Int.emod_nonneg (k + 1) (by omega : h ≠ 0)
  have h3 := Int.emod_lt_of_pos (k + 1) hh
  generalize (k + 1) / h = q at *
  generalize (k + 1) % h = r at *
  rw [Bool.eq_iff_iff, decide_eq_true_eq, decide_eq_true_eq]
  by_cases z : r = 0
  · rw [ediv_uniq (a := k) (b := h) (q := q - 1) (r := h - 1) (by rw [Int.mul_sub]; omega) (by omega) (by omega)]
    omega
  · rw [ediv_uniq (a := k) (b := h) (q := q) (r := r - 1) (by omega) (by omega) (by omega)]
    omega
def NN (xs : List Int) : Prop := ∀ x ∈ xs, 0 ≤ x
theorem gI_nn {xs : List Int} (h : NN xs) {k : Int} (hk : k ∈ rgI 0 (xs.length : Int)) : 0 ≤ gI xs k := by
  have := rgI_mem_iff.mp hk
  exact h _ (gI_mem ⟨by omega, this.2⟩)
theorem step_eq {p h m : Int} {w : List Int} (hp : 0 ≤ p) (hh : 0 < h) (hm : 0 < m) (hw : NN w) {k : Int} (hk : k ∈ rgI 0 (w.length : Int)) (l : Int × List (Int × Int)) (hl : 0 ≤ l.1) :
    hours_of_s_26 p h m l (k, gI w k) = law_ice_s_19 p h m w l k ∧ 0 ≤ (law_ice_s_19 p h m w l k).1 := by
  have h0 := (rgI_mem_iff.mp hk).1
  have hg := gI_nn hw hk
  unfold hours_of_s_26 law_ice_s_19 hours_of_t_18 hours_of_e_19
  simp only [Let]
  rw [batch_eq h0 hh]
  generalize gI w k = g at *
  have e1 : l.1 - min l.1 g = max 0 (l.1 - g) := by omega
  have e2 : g - min l.1 g = max 0 (g - l.1) := by omega
  rw [e1, e2]
  obtain ⟨e3, e4⟩ := melt_eq (x := max 0 (l.1 - g)) (m := m) (by omega) hm
  rw [e3]
  generalize max 0 (l.1 - g) - Int.fdiv (max 0 (l.1 - g) + m - 1) m = z at *
  by_cases c : decide (Int.fdiv k h < Int.fdiv (k + 1) h) = true
  · simp only [c, if_true]; exact ⟨trivial, by omega⟩
  · simp only [c, if_false]; exact ⟨by simp, by simp; omega⟩
theorem ice_eq {p h m : Int} {w : List Int} (hp : 0 ≤ p) (hh : 0 < h) (hm : 0 < m) (hw : NN w) : hours_of p h m w = law_ice p h m w := by
  unfold hours_of law_ice
  simp only [Let]
  rw [enumL_eq, List.foldl_map]
  exact congrArg (·.2) (fold_inv (fun l : Int × List (Int × Int) => 0 ≤ l.1) _ ((0 : Int), ([] : List (Int × Int))) (Int.le_refl 0) fun x hx l hl => step_eq hp hh hm hw hx l hl)
theorem first_eq (p : Int → Bool) : ∀ (xs : List Int), (if (!(xs.filter p).isEmpty) = true then some (gI (xs.filter p) 0) else none) = xs.find? p
  | [] => rfl
  | x :: xs => by
    rw [List.find?_cons]
    cases q : p x with
    | true => rw [List.filter_cons_of_pos q]; simp only [List.isEmpty_cons, Bool.not_false, if_true]; exact congrArg some (gI_nat (x :: _) 0)
    | false => rw [List.filter_cons_of_neg (by simp [q])]; exact first_eq p xs
theorem few_eq {h m b : Int} {w : List Int} (hh : 0 < h) (hm : 0 < m) (hw : NN w) : fewest_pounds h m w b = (rgI 1 61).find? fun x => decide (((cutL (law_ice x h m w) (some b) none).map fun x : Int × Int => x.2).sum = 0) := by
  unfold fewest_pounds
  rw [forR_find (p := fun x => decide (((cutL (hours_of x h m w) (some b) none).map fun x : Int × Int => x.2).sum = 0)) (g := fun x => some x) () (fun x => rfl)]
  have e : (rgI 1 (C_MOST + 1)).find? (fun x => decide (((cutL (hours_of x h m w) (some b) none).map fun x : Int × Int => x.2).sum = 0)) = (rgI 1 61).find? fun x => decide (((cutL (law_ice x h m w) (some b) none).map fun x : Int × Int => x.2).sum = 0) := by
    show (rgI 1 61).find? _ = _
    have key : ∀ (xs : List Int) (f g : Int → Bool), (∀ x ∈ xs, f x = g x) → xs.find? f = xs.find? g := by
      intro xs f g hfg
      induction xs with
      | nil => rfl
      | cons x xs ih => rw [List.find?_cons, List.find?_cons, hfg x (by simp), ih fun y hy => hfg y (by simp [hy])]
    refine key _ _ _ fun x hx => ?_
    have := rgI_mem_iff.mp hx
    rw [ice_eq (by omega) hh hm hw]
  rw [e]
  cases (rgI 1 61).find? (fun x => decide (((cutL (law_ice x h m w) (some b) none).map fun x : Int × Int => x.2).sum = 0)) <;> rfl
/-! ### hearing -/
theorem heard_eq {l d : Int} (h0 : 0 ≤ d) (h1 : d ≤ 3) : heard_from l d = Int.fdiv l (gI [(1 : Int), 2, 4, 8, 16] d) := by
  have hc : d = 0 ∨ d = 1 ∨ d = 2 ∨ d = 3 := by omega
  have r0 : rgI 0 0 = [] := by decide +kernel
  have r1 : rgI 0 1 = [0] := by decide +kernel
  have r2 : rgI 0 2 = [0, 1] := by decide +kernel
  have r3 : rgI 0 3 = [0, 1, 2] := by decide +kernel
  have g0 : gI [(1 : Int), 2, 4, 8, 16] 0 = 1 := by decide +kernel
  have g1 : gI [(1 : Int), 2, 4, 8, 16] 1 = 2 := by decide +kernel
  have g2 : gI [(1 : Int), 2, 4, 8, 16] 2 = 4 := by decide +kernel
  have g3 : gI [(1 : Int), 2, 4, 8, 16] 3 = 8 := by decide +kernel
  unfold heard_from heard_from_s_7
  simp only [Let]
  rcases hc with rfl | rfl | rfl | rfl
  · rw [r0, g0, Int.fdiv_eq_ediv_of_nonneg _ (by decide)]; simp
  · rw [r1, g1]; rfl
  · rw [r2, g2]
    simp only [List.foldl_cons, List.foldl_nil]
    rw [Int.fdiv_eq_ediv_of_nonneg _ (by decide), Int.fdiv_eq_ediv_of_nonneg _ (by decide), Int.fdiv_eq_ediv_of_nonneg _ (by decide)]; omega
  · rw [r3, g3]
    simp only [List.foldl_cons, List.foldl_nil]
    rw [Int.fdiv_eq_ediv_of_nonneg _ (by decide), Int.fdiv_eq_ediv_of_nonneg _ (by decide), Int.fdiv_eq_ediv_of_nonneg _ (by decide), Int.fdiv_eq_ediv_of_nonneg _ (by decide)]; omega
theorem filter_map_enum {xs : List Int} (p : Int × Int → Bool) (f : Int × Int → Int) : ((enumL xs).filter p).map f = ((rgI 0 (xs.length : Int)).filter fun k => p (k, gI xs k)).map fun k => f (k, gI xs k) := by
  rw [enumL_eq, List.filter_map, List.map_map]
  rfl
theorem hears_eq {r : List Int} {k : Int} (h4 : r.length ≤ 4) (hk : 0 ≤ k ∧ k < r.length) : hears r k = law_hears r k := by
  unfold hears law_hears
  rw [filter_map_enum]
  refine congrArg List.sum (List.map_congr_left fun j hj => ?_)
  have hj' := rgI_mem_iff.mp (List.mem_filter.mp hj).1
  show heard_from (gI r j) (iabs (k - j)) = _
  have e : iabs (k - j) = iabs (j - k) := by unfold iabs; split <;> split <;> omega
  rw [e]
  refine heard_eq (iabs_nn _) ?_
  unfold iabs
  split <;> omega
theorem hears_ok_of (r : List Int) (k : Int) (hk : -1000 ≤ k ∧ k ≤ 1000) (h4 : r.length ≤ 4) : hears_ok r k := fun x hx _ => by
  rw [enumL_eq] at hx
  obtain ⟨j, hj, rfl⟩ := List.mem_map.mp hx
  have := rgI_mem_iff.mp hj
  unfold heard_from_ok
  refine ⟨?_, fun _ _ _ _ _ => let_p fun _ _ => trivial, let_p fun _ _ => trivial⟩
  unfold rg1 iabs
  show _ ∧ _
  dsimp only
  split <;> omega
theorem lhears_ok_of {r : List Int} {k : Int} (h4 : r.length ≤ 4) (hk : 0 ≤ k ∧ k < r.length) : law_hears_ok r k := by
  refine ⟨⟨by omega, by omega⟩, fun x hx _ => ?_⟩
  have := rgI_mem_iff.mp hx
  have b : 0 ≤ iabs (x - k) ∧ iabs (x - k) ≤ 3 := ⟨iabs_nn _, by unfold iabs; split <;> omega⟩
  refine ⟨⟨by omega, this.2⟩, ⟨by omega, by show _ < 5; omega⟩, ?_⟩
  generalize iabs (x - k) = d at b
  have hc : d = 0 ∨ d = 1 ∨ d = 2 ∨ d = 3 := by omega
  rcases hc with rfl | rfl | rfl | rfl <;> exact ⟨by decide +kernel, by decide +kernel⟩
theorem sleep_eq {r b : List Int} (h4 : r.length ≤ 4) : sleepers r b = (((rgI 0 (r.length : Int)).filter fun x => decide (law_hears r x ≤ gI b x)).map fun x => x) := by
  unfold sleepers
  congr 1
  refine List.filter_congr fun x hx => ?_
  rw [hears_eq h4 (rgI_mem_iff.mp hx)]
/-! ### orders -/
def stp (n : Int) (l : List (List Int)) : List (List Int) := l.foldl (fun a o => a ++ ((rgI 0 n).filter fun x => !inB x o).map fun x => o ++ [x]) []
theorem s88 (r : List Int) (l : List (List Int)) (x : Int) : law_s_88 r l x = stp (r.length : Int) l := rfl
def ords (n : Nat) : List (List Int) := (List.range n).foldl (fun l _ => stp (n : Int) l) [[]]
theorem fold_const {α β γ : Type} (f : β → β) : ∀ (xs : List α) (ys : List γ) (b : β), xs.length = ys.length → xs.foldl (fun l _ => f l) b = ys.foldl (fun l _ => f l) b
  | [], [], _, _ => rfl
  | [], _ :: _, _, h => by simp at h
  | _ :: _, [], _, h => by simp at h
  | x :: xs, y :: ys, b, h => by rw [List.foldl_cons, List.foldl_cons]; exact fold_const f xs ys _ (by simpa using h)
theorem ords_eq (r : List Int) : r.foldl (law_s_88 r) [[]] = ords r.length :=
  fold_const (stp (r.length : Int)) r (List.range r.length) [[]] (by rw [List.length_range])
theorem n4 {n : Nat} (h1 : 1 ≤ n) (h4 : n ≤ 4) : n = 1 ∨ n = 2 ∨ n = 3 ∨ n = 4 := by omega
def pmI (n : Nat) : List (List Int) := (pmL n n).map (·.map fun k : Nat => (k : Int))
theorem pm_ords {n : Nat} (h1 : 1 ≤ n) (h4 : n ≤ 4) : (∀ o ∈ pmI n, o ∈ ords n) ∧ (∀ o ∈ ords n, o ∈ pmI n) ∧ (∀ o ∈ ords n, o.length = n ∧ ∀ x ∈ o, 0 ≤ x ∧ x < (n : Int)) ∧ (pmI n).length < 64 ∧ pmI n ≠ [] ∧ (ords n).length ≤ 24 ∧ permB n = true := by
  rcases n4 h1 h4 with rfl | rfl | rfl | rfl <;> decide +kernel
theorem perms_eq (r : List Int) : perms r = (pmI r.length).map fun o => o.map fun x => gI r x := by
  unfold perms pmI
  rw [List.map_map]
  refine List.map_congr_left fun ix _ => ?_
  show _ = (ix.map _).map _
  rw [List.map_map]
  refine List.map_congr_left fun k _ => ?_
  show _ = gI r (k : Int)
  rw [gI_nat]
abbrev enF : Int × List Int → PyData := eP2 PyData.int (eT PyData.int)
theorem tri_F : Tri enF := tri_p2 alk_int (alk_t alk_int) eqe_int (eqe_t eqe_int) tri_int tri_tI
def Fh (o : List Int) : Int × List Int := (pyMax PyData.int ((rgI 0 (o.length : Int)).map fun x => hears o x), o)
def Fl (o : List Int) : Int × List Int := (pyMax PyData.int ((rgI 0 (o.length : Int)).map fun x => law_hears o x), o)
theorem fold_app {α β : Type} (f : α → β) : ∀ (xs : List α) (l : List β), xs.foldl (fun l x => l ++ [f x]) l = l ++ xs.map f
  | [], l => by simp
  | x :: xs, l => by rw [List.foldl_cons, fold_app f xs]; simp
theorem quiet_mid (r : List Int) : quietest r = pyMin enF ((srtSetL (perms r)).map Fh) := by
  unfold quietest
  simp only [Let]
  show pyMin enF ((srtSetL (perms r)).foldl (fun l x => l ++ [Fh x]) []) = _
  rw [fold_app]; rfl
theorem mem_srt {x : List Int} {xss : List (List Int)} : x ∈ srtSetL xss ↔ x ∈ xss := by
  unfold srtSetL
  rw [(pySort_perm _ _).mem_iff, ddL_mem]
theorem pyMin_same {xs ys : List (Int × List Int)} (h : ∀ y, y ∈ xs ↔ y ∈ ys) (hne : xs ≠ []) : pyMin enF xs = pyMin enF ys := by
  have hy : ys ≠ [] := fun e => by
    cases xs with
    | nil => exact hne rfl
    | cons a b => have := (h a).mp (by simp); rw [e] at this; cases this
  exact pyMin_eq tri_F ((h _).mpr (pyMin_mem hy)) fun y hy' => pyMin_le y ((h y).mp hy')
def told (r o : List Int) : List Int := o.map fun x => gI r x
theorem mem_told {r : List Int} (h1 : 1 ≤ r.length) (h4 : r.length ≤ 4) (t : List Int) : t ∈ perms r ↔ ∃ o ∈ ords r.length, told r o = t := by
  obtain ⟨a, b, _⟩ := pm_ords h1 h4
  rw [perms_eq, List.mem_map]
  exact ⟨fun ⟨o, ho, e⟩ => ⟨o, a o ho, e⟩, fun ⟨o, ho, e⟩ => ⟨o, b o ho, e⟩⟩
theorem Fh_eq {t : List Int} (h4 : t.length ≤ 4) : Fh t = Fl t := by
  unfold Fh Fl
  congr 2
  exact List.map_congr_left fun x hx => hears_eq h4 (rgI_mem_iff.mp hx)
theorem perms_len {r : List Int} (h1 : 1 ≤ r.length) (h4 : r.length ≤ 4) : ∀ t ∈ perms r, t.length = r.length := fun t ht => by
  obtain ⟨o, ho, rfl⟩ := (mem_told h1 h4 t).mp ht
  obtain ⟨_, _, c, _⟩ := pm_ords h1 h4
  unfold told
  rw [List.length_map]; exact (c o ho).1
theorem perms_ne {r : List Int} (h1 : 1 ≤ r.length) (h4 : r.length ≤ 4) : perms r ≠ [] := fun e => by
  obtain ⟨_, _, _, _, c, _⟩ := pm_ords h1 h4
  rw [perms_eq, List.map_eq_nil_iff] at e
  exact c e
theorem quiet_eq {r : List Int} (h1 : 1 ≤ r.length) (h4 : r.length ≤ 4) : quietest r = pyMin enF ((ords r.length).map fun o => Fl (told r o)) := by
  rw [quiet_mid]
  refine pyMin_same (fun y => ?_) (fun e => ?_)
  · rw [List.mem_map, List.mem_map]
    constructor
    · rintro ⟨t, ht, rfl⟩
      have ht := mem_srt.mp ht
      obtain ⟨o, ho, rfl⟩ := (mem_told h1 h4 t).mp ht
      exact ⟨o, ho, (Fh_eq (by rw [perms_len h1 h4 _ ht]; exact h4)).symm⟩
    · rintro ⟨o, ho, rfl⟩
      have ht := (mem_told h1 h4 (told r o)).mpr ⟨o, ho, rfl⟩
      exact ⟨_, mem_srt.mpr ht, Fh_eq (by rw [perms_len h1 h4 _ ht]; exact h4)⟩
  · rw [List.map_eq_nil_iff] at e
    cases q : perms r with
    | nil => exact perms_ne h1 h4 q
    | cons a b =>
      have : a ∈ srtSetL (perms r) := mem_srt.mpr (by rw [q]; simp)
      rw [e] at this; cases this
theorem ranked_eq (r : List Int) (l : List (List Int)) : l.foldl (law_s_110 r) [] = l.map fun o => Fl (told r o) := by
  show l.foldl (fun a o => a ++ [Fl (told r o)]) [] = _
  rw [fold_app]; rfl
end K13
namespace K13
open PySem L2 PySem.Spec PyProof.Rows J
theorem hours_len (p h m : Int) : ∀ (xs : List (Int × Int)) (l : Int × List (Int × Int)), (xs.foldl (hours_of_s_26 p h m) l).2.length = l.2.length + xs.length
  | [], l => rfl
  | x :: xs, l => by
    rw [List.foldl_cons, hours_len p h m xs]
    show (l.2 ++ [_]).length + _ = _
    rw [List.length_append, List.length_singleton, List.length_cons]; omega
theorem law_len (p h m : Int) (w : List Int) : ∀ (xs : List Int) (l : Int × List (Int × Int)), (xs.foldl (law_ice_s_19 p h m w) l).2.length = l.2.length + xs.length
  | [], l => rfl
  | x :: xs, l => by
    rw [List.foldl_cons, law_len p h m w xs]
    show (l.2 ++ [_]).length + _ = _
    rw [List.length_append, List.length_singleton, List.length_cons]; omega
def Sm (x : Int) : Prop := 1 ≤ x ∧ x ≤ 100
theorem cdiv_of {a b : Int} (h : Sm b) : CDivN a b := ⟨by unfold Sm at h; omega, by unfold Sm at h; omega⟩
theorem hours_ok_of {p h m : Int} {w : List Int} (hh : Sm h) (hm : Sm m) (hl : w.length ≤ 100) : hours_of_ok p h m w := by
  refine let_p fun f hf => let_p fun c hc => ⟨fun i x l hx e => ?_, let_p fun _ _ => trivial⟩
  have hlen : l.2.length ≤ 100 := by
    rw [e, hours_len, List.length_take, enumL_eq, List.length_map, rgI_len, ← hf]
    simp only [List.length_nil]; omega
  refine let_p fun _ _ => let_p fun _ _ => ⟨cdiv_of hm, let_p fun _ _ => ⟨by unfold Sm at hh; omega, fun _ => let_p fun _ _ => trivial, fun _ => trivial, let_p fun _ _ => ⟨by show _ < 16777216; omega, let_p fun _ _ => trivial⟩⟩⟩
theorem lice_ok_of {p h m : Int} {w : List Int} (hh : Sm h) (hm : Sm m) (hl : w.length ≤ 100) : law_ice_ok p h m w := by
  refine let_p fun c hc => let_p fun f hf => ⟨⟨by omega, by omega⟩, fun i x l hx e => ?_, let_p fun _ _ => trivial⟩
  have hlen : l.2.length ≤ 100 := by
    rw [e, law_len, List.length_take, rgI_len, ← hf]
    simp only [List.length_nil]; omega
  have hx' := rgI_mem_iff.mp (List.mem_of_getElem? hx)
  have ir : inR w.length x := ⟨by omega, hx'.2⟩
  exact ⟨ir, let_p fun _ _ => ⟨ir, let_p fun _ _ => ⟨cdiv_of hm, let_p fun _ _ => ⟨⟨cdiv_of hh, cdiv_of hh⟩, let_p fun _ _ => ⟨by show _ < 16777216; omega, let_p fun _ _ => trivial⟩⟩⟩⟩⟩
theorem few_ok_of {h m b : Int} {w : List Int} (hh : Sm h) (hm : Sm m) (hl : w.length ≤ 100) : fewest_pounds_ok h m w b := by
  refine ⟨by unfold rg2 C_MOST; decide, fun i x l hx _ => ⟨hours_ok_of hh hm hl, fun _ => trivial, fun _ => trivial⟩, fun _ _ => trivial⟩
theorem quiet_ok_of {r : List Int} (h1 : 1 ≤ r.length) (h4 : r.length ≤ 4) : quietest_ok r := by
  obtain ⟨_, _, _, p4, p5, _, p7⟩ := pm_ords h1 h4
  have hpl : (perms r).length < 64 := by rw [perms_eq, List.length_map]; exact p4
  have hln : ∀ t ∈ srtSetL (perms r), 1 ≤ t.length ∧ t.length ≤ 4 := fun t ht => by
    rw [perms_len h1 h4 t (mem_srt.mp ht)]; exact ⟨h1, h4⟩
  have hsl : (srtSetL (perms r)).length ≤ 64 := by
    unfold srtSetL
    rw [pySort_len]
    have : ∀ xs : List (List Int), (ddL xs).length ≤ xs.length := by
      intro xs
      induction xs with
      | nil => exact Nat.le_refl _
      | cons x xs ih =>
        unfold ddL
        split
        · exact Nat.le_succ_of_le ih
        · rw [List.length_cons, List.length_cons]; omega
    exact Nat.le_trans (this _) (Nat.le_of_lt hpl)
  have fe : ∀ xs : List (List Int), xs.foldl quietest_s_12 [] = xs.map Fh := fun xs => by
    show xs.foldl (fun l x => l ++ [Fh x]) [] = _
    rw [fold_app]; rfl
  refine let_p fun f hf => ⟨⟨p7, hpl, fun x hx e => ?_⟩, fun i x l hx e => ?_, let_p fun l hl => ?_⟩
  · have := perms_len h1 h4 x hx
    rw [e] at this
    simp only [List.length_nil] at this
    omega
  · obtain ⟨a, b⟩ := hln x (List.mem_of_getElem? hx)
    refine ⟨⟨⟨by omega, by omega⟩, fun k hk => ?_, fun e2 => ?_, ?_⟩, let_p fun _ _ => trivial⟩
    · have := rgI_mem_iff.mp hk
      exact hears_ok_of x k (by omega) b
    · have := congrArg List.length e2
      rw [List.length_map, rgI_len] at this
      simp only [List.length_nil] at this
      omega
    · rw [e, ← hf, fe, List.length_map, List.length_take]
      show _ < 16777216
      omega
  · rw [← hl, ← hf, fe]
    intro e
    rw [List.map_eq_nil_iff] at e
    cases q : perms r with
    | nil => exact perms_ne h1 h4 q
    | cons a b =>
      have : a ∈ srtSetL (perms r) := mem_srt.mpr (by rw [q]; simp)
      rw [e] at this; cases this
/-! ### draws -/
theorem nx (d : Dr) {m : Int} (h : 0 < m) : 0 ≤ (nxt d m).1 ∧ (nxt d m).1 < m := ⟨nxt_lo h, nxt_hi h⟩
theorem drawn {α : Type} {m : Int} (h : 0 < m) (d : Dr) (xs : List α) : ∀ y ∈ (mapS (fun (s : Dr) (_ : α) => Let (nxt s m) fun q => (q.1, q.2)) d xs).1, 0 ≤ y ∧ y < m := fun y hy => by
  obtain ⟨s', x, _, rfl⟩ := mapS_in _ xs d y hy
  exact nx s' h
theorem rg_small {n : Int} (h : 0 ≤ n ∧ n < 100) : rg1 n := ⟨by omega, by omega⟩
theorem stp_row {r : List Int} (h1 : 1 ≤ r.length) (h4 : r.length ≤ 4) : ∀ i, i ≤ r.length → ∀ t ∈ (r.take i).foldl (law_s_88 r) [[]], t.length ≤ 100 := by
  intro i hi
  have e : (r.take i).foldl (law_s_88 r) [[]] = (List.range i).foldl (fun l _ => stp (r.length : Int) l) [[]] :=
    fold_const (stp (r.length : Int)) (r.take i) (List.range i) [[]] (by rw [List.length_range, List.length_take]; omega)
  rw [e]
  clear e
  generalize r.length = n at *
  have key : ∀ (n : Int) (k : Nat), ∀ t ∈ (List.range k).foldl (fun l _ => stp n l) [[]], t.length ≤ k := by
    intro n k
    induction k with
    | zero => intro t ht; simp at ht; rw [ht]; exact Nat.le_refl _
    | succ k ih =>
      intro t ht
      rw [List.range_succ, List.foldl_append] at ht
      simp only [List.foldl_cons, List.foldl_nil] at ht
      unfold stp at ht
      rw [foldl_flat, List.nil_append, List.mem_flatMap] at ht
      obtain ⟨o, ho, h⟩ := ht
      obtain ⟨x, _, rfl⟩ := List.mem_map.mp h
      have := ih o ho
      rw [List.length_append, List.length_singleton]; omega
  intro t ht
  have := key n i t ht
  omega
theorem stp_many {r : List Int} (h1 : 1 ≤ r.length) (h4 : r.length ≤ 4) : ∀ i, i ≤ r.length → ((r.take i).foldl (law_s_88 r) [[]]).length ≤ 24 := by
  intro i hi
  have e : (r.take i).foldl (law_s_88 r) [[]] = (List.range i).foldl (fun l _ => stp (r.length : Int) l) [[]] :=
    fold_const (stp (r.length : Int)) (r.take i) (List.range i) [[]] (by rw [List.length_range, List.length_take]; omega)
  rw [e]
  clear e
  generalize r.length = n at *
  have key : ∀ n : Nat, n ≤ 4 → ∀ i : Nat, i ≤ n → ((List.range i).foldl (fun l _ => stp (n : Int) l) [[]]).length ≤ 24 := by decide +kernel
  exact key n h4 i hi
theorem stp_len (r : List Int) : ∀ (xs : List (List Int)) (l : List (List Int)), (xs.foldl (law_s_79 r) l).length ≤ l.length + xs.length * r.length
  | [], l => by simp
  | x :: xs, l => by
    rw [List.foldl_cons, List.length_cons]
    refine Nat.le_trans (stp_len r xs _) ?_
    show (l ++ _).length + _ ≤ _
    rw [List.length_append, List.length_map, Nat.add_mul]
    have := List.length_filter_le (fun x_73 : Int => !inB x_73 x) (rgI 0 (r.length : Int))
    rw [rgI_len] at this
    omega
structure Ga (p h m : Int) (w : List Int) : Prop where
  gp : 0 ≤ p
  gh : Sm h
  gm : Sm m
  gw : NN w
  gl : w.length ≤ 8
theorem law_holds : ∀ ns : List Int, ns.length ≤ 63 → law_ok ns ∧ law ns = true := fun ns _ => by
  have ices : ∀ {p h m : Int} {w : List Int}, Ga p h m w → hours_of p h m w = law_ice p h m w := fun {p h m w} G => ice_eq G.gp (by have := G.gh; unfold Sm at this; omega) (by have := G.gm; unfold Sm at this; omega) G.gw
  have fews : ∀ {h m b p : Int} {w : List Int}, Ga p h m w → fewest_pounds h m w b = if (!((rgI 1 61).filter fun x => decide (((cutL (law_ice x h m w) (some b) none).map fun x : Int × Int => x.2).sum = 0)).isEmpty) = true then some (gI ((rgI 1 61).filter fun x => decide (((cutL (law_ice x h m w) (some b) none).map fun x : Int × Int => x.2).sum = 0)) 0) else none := fun {h m b p w} G => by
    rw [first_eq]
    exact few_eq (by have := G.gh; unfold Sm at this; omega) (by have := G.gm; unfold Sm at this; omega) G.gw
  have mk : ∀ (q3 q4 q5 q10 : Int × Dr) (d0 : Dr) (m15 : List Int × Dr), nxt d0 11 = q3 → nxt q3.2 3 = q4 → nxt q4.2 5 = q5 → nxt q5.2 9 = q10 → (mapS (fun (s_12 : Dr) (x_11 : Int) => (Let (nxt s_12 (6 : Int)) fun q_13 : (Int × Dr) => (q_13.1, q_13.2))) q10.2 (rgI 0 q10.1)) = m15 →
      Ga (1 + q3.1) (1 + q4.1) (1 + q5.1) m15.1 ∧ rg1 q10.1 := fun q3 q4 q5 q10 d0 m15 e3 e4 e5 e10 em => by
    have b3 := nx d0 (m := 11) (by decide)
    have b4 := nx q3.2 (m := 3) (by decide)
    have b5 := nx q4.2 (m := 5) (by decide)
    have b10 := nx q5.2 (m := 9) (by decide)
    rw [e3] at b3; rw [e4] at b4; rw [e5] at b5; rw [e10] at b10
    refine ⟨⟨by omega, ⟨by omega, by omega⟩, ⟨by omega, by omega⟩, fun x hx => ?_, ?_⟩, by constructor <;> omega⟩
    · rw [← em] at hx
      exact (drawn (by decide) _ _ x hx).1
    · rw [← em, mapS_count, rgI_len]; omega
  have sub : ∀ {p h m : Int} {w : List Int}, Ga p h m w → Ga p h m (cutL w none (some 5)) := fun {p h m w} G => ⟨G.gp, G.gh, G.gm, fun x hx => by
      rw [show (5 : Int) = ((5 : Nat) : Int) from rfl, cut_to] at hx
      exact G.gw x (List.mem_of_mem_take hx), Nat.le_trans (cutL_len _ _ _) G.gl⟩
  have mkr : ∀ (q37 : Int × Dr) (d : Dr) (m42 : List Int × Dr), nxt d 4 = q37 → (mapS (fun (s_39 : Dr) (x_38 : Int) => (Let (nxt s_39 (20 : Int)) fun q_40 : (Int × Dr) => (q_40.1, q_40.2))) q37.2 (rgI 0 ((1 : Int) + q37.1))) = m42 →
      1 ≤ m42.1.length ∧ m42.1.length ≤ 4 ∧ rg1 (1 + q37.1) := fun q37 d m42 e em => by
    have b := nx d (m := 4) (by decide)
    rw [e] at b
    have : m42.1.length = (1 + q37.1).toNat := by rw [← em, mapS_count, rgI_len, Int.sub_zero]
    refine ⟨by omega, by omega, by constructor <;> omega⟩
  constructor
  · unfold law_ok
    refine let_p fun d0 hd0 => let_p fun q3 h3 => let_p fun q4 h4 => let_p fun q5 h5 => let_p fun pn hp => let_p fun hr hh => let_p fun ml hm => let_p fun q10 h10 => let_p fun m15 h15 => ?_
    obtain ⟨G, r10⟩ := mk q3 q4 q5 q10 d0 m15 h3 h4 h5 h10 h15
    subst hp hh hm
    have G5 := sub G
    have l5 := G5.gl
    have l8 := G.gl
    refine ⟨r10, let_p fun wn hwn => ?_⟩
    subst hwn
    refine ⟨⟨hours_ok_of G.gh G.gm (by omega), lice_ok_of G.gh G.gm (by omega)⟩, fun _ => trivial, fun _ => let_p fun q21 h21 => let_p fun bg hbg => let_p fun mo hmo => ?_⟩
    subst hmo
    refine ⟨⟨by unfold rg2; decide, fun x hx => lice_ok_of G.gh G.gm (by omega)⟩, let_p fun gd hgd => ⟨⟨few_ok_of G.gh G.gm (by omega), fun hne => ?_⟩, fun _ => trivial, fun _ => let_p fun q37 h37 => let_p fun m42 h42 => ?_⟩⟩
    · cases gd with
      | nil => simp at hne
      | cons a b => exact ⟨by simp; omega, by simp⟩
    obtain ⟨n1, n4, rr⟩ := mkr q37 _ m42 h37 h42
    refine ⟨rr, let_p fun rm hrm => let_p fun q45 h45 => let_p fun m50 h50 => ?_⟩
    subst hrm
    have b45 := nx m42.2 (m := (m42.1.length : Int)) (by omega)
    rw [h45] at b45
    refine ⟨⟨by omega, by omega⟩, let_p fun k hk => let_p fun br hbr => ?_⟩
    have lb : br.length = m42.1.length := by rw [← hbr, ← h50, mapS_count]
    subst hk
    refine ⟨⟨hears_ok_of _ _ (by omega) n4, lhears_ok_of n4 b45⟩, fun _ => trivial, fun _ => ⟨⟨⟨⟨by omega, by omega⟩, fun x hx => ?_⟩, ⟨by omega, by omega⟩, fun x hx => ?_⟩, fun _ => trivial, fun _ => let_p fun os hos => ⟨fun i x l hx e => ?_, let_p fun l93 h93 => let_p fun rk hrk => ⟨fun i x l hx e => ?_, let_p fun l115 h115 => ⟨quiet_ok_of n1 n4, ?_⟩⟩⟩⟩⟩
    · have := rgI_mem_iff.mp hx
      exact ⟨hears_ok_of _ _ (by omega) n4, by unfold J.inR; omega⟩
    · have := rgI_mem_iff.mp hx
      exact ⟨lhears_ok_of n4 this, by unfold J.inR; omega⟩
    · have hi : i ≤ m42.1.length := by have := (List.getElem?_eq_some_iff.mp hx).1; omega
      rw [← hos] at e
      have w1 := stp_row n1 n4 i hi
      have w2 := stp_many n1 n4 i hi
      rw [← e] at w1 w2
      refine let_p fun lg hlg => ⟨fun j y l2 hy e2 => ?_, let_p fun _ _ => let_p fun _ _ => trivial⟩
      have wy := w1 y (List.mem_of_getElem? hy)
      have l2l := stp_len m42.1 (l.take j) lg
      rw [← e2, ← hlg, List.length_take] at l2l
      have l2b : l2.length ≤ 200 := by
        refine Nat.le_trans l2l ?_
        simp only [List.length_nil, Nat.zero_add]
        exact Nat.le_trans (Nat.mul_le_mul (Nat.le_trans (Nat.min_le_right _ _) w2) n4) (by decide)
      have fl := List.length_filter_le (fun x_73 : Int => !inB x_73 y) (rgI 0 (m42.1.length : Int))
      rw [rgI_len] at fl
      refine ⟨⟨⟨by omega, by omega⟩, fun z _ _ => ?_, ?_⟩, let_p fun _ _ => trivial⟩
      · show _ + 1 ≤ 16777216; omega
      · rw [List.length_map]; show _ ≤ 16777216; omega
    · rw [← hos, ords_eq] at h93
      obtain ⟨_, _, pc, _, _, p6, _⟩ := pm_ords n1 n4
      have hx2 := List.mem_of_getElem? hx
      rw [← h93] at hx2
      obtain ⟨c1, c2⟩ := pc x hx2
      have lr : l.length ≤ 24 := by
        rw [e, ← hrk, ranked_eq, List.length_map, List.length_take, ← h93]; omega
      refine ⟨fun y hy => by have := c2 y hy; unfold J.inR; omega, let_p fun tl htl => ?_⟩
      have ltl : tl.length = m42.1.length := by rw [← htl, List.length_map]; exact c1
      refine ⟨⟨⟨by omega, by omega⟩, fun y hy => lhears_ok_of (by omega) (rgI_mem_iff.mp hy), fun e2 => ?_, by show _ < 16777216; omega⟩, let_p fun _ _ => trivial⟩
      have := congrArg List.length e2
      rw [List.length_map, rgI_len] at this
      simp only [List.length_nil] at this
      omega
    · rw [← hos, ords_eq] at h93
      rw [← h115, ← hrk, ranked_eq, ← h93]
      obtain ⟨pa, _, _, _, p5, _, _⟩ := pm_ords n1 n4
      intro e
      rw [List.map_eq_nil_iff] at e
      cases q : pmI m42.1.length with
      | nil => exact p5 q
      | cons a b => have := pa a (by rw [q]; simp); rw [e] at this; cases this
  · unfold law
    refine let_b fun d0 hd0 => let_b fun q3 h3 => let_b fun q4 h4 => let_b fun q5 h5 => let_b fun pn hp => let_b fun hr hh => let_b fun ml hm => let_b fun q10 h10 => let_b fun m15 h15 => let_b fun wn hwn => ?_
    obtain ⟨G, r10⟩ := mk q3 q4 q5 q10 d0 m15 h3 h4 h5 h10 h15
    subst hp hh hm hwn
    rw [ices G]
    simp only [decide_true, Bool.not_true, Bool.false_eq_true, if_false]
    refine let_b fun q21 h21 => let_b fun bg hbg => let_b fun mo hmo => let_b fun gd hgd => ?_
    subst hmo
    rw [List.map_id'] at hgd
    rw [fews (sub G), ← hgd]
    simp only [decide_true, Bool.not_true, Bool.false_eq_true, if_false]
    refine let_b fun q37 h37 => let_b fun m42 h42 => let_b fun rm hrm => let_b fun q45 h45 => let_b fun m50 h50 => let_b fun k hk => let_b fun br hbr => ?_
    obtain ⟨n1, n4, rr⟩ := mkr q37 _ m42 h37 h42
    subst hrm hk
    have b45 := nx m42.2 (m := (m42.1.length : Int)) (by omega)
    rw [h45] at b45
    rw [hears_eq n4 b45, sleep_eq n4]
    simp only [decide_true, Bool.not_true, Bool.false_eq_true, if_false]
    refine let_b fun os hos => let_b fun l93 h93 => let_b fun rk hrk => let_b fun l115 h115 => ?_
    rw [← hos, ords_eq] at h93
    rw [← h115, ← hrk, ranked_eq, ← h93, quiet_eq n1 n4]
    simp
end K13
namespace K13
open PySem L2 PySem.Spec PyProof.Rows J
theorem all_mk {l : PySem.W.OpenLaw} {w : World} {K : PySem.W.Frag} {h : Heap} {mg : Str → Option Value} {fa : Addr} (hlaw : ∀ ns : List Int, ns.length ≤ 63 → law_ok ns ∧ law ns = true) (KX : K.In h) (G : h.Ns mainGlobals mg) (hfa : mg "law" = some (.ref fa))
    {f0 : Addr} {od0 an0 : Option Addr} {sl0 : Array (Option Value)} {oc0 kV0 dc0 pm0 cd0 ct0 : Value}
    (a0 : PySem.W.nsIn K mainGlobals "_law_draw" = some (some (.ref f0))) (l0 : K.lookup f0 = some ⟨oc0, od0, .func (PySem.W.fnOf "_law_draw" "_law_draw" (defArgs (topS 11)) (defBody (topS 11)) (defScope (topS 11)) .none kV0 dc0 pm0 an0 cd0 ct0), sl0⟩) (c0 : PySem.W.codeIn K cd0 "_law_draw" = true) (k0 : PySem.W.keepIn K (.ref f0) = true)
    {f1 : Addr} {od1 an1 : Option Addr} {sl1 : Array (Option Value)} {oc1 kV1 dc1 pm1 cd1 ct1 : Value}
    (a1 : PySem.W.nsIn K mainGlobals "_law_next" = some (some (.ref f1))) (l1 : K.lookup f1 = some ⟨oc1, od1, .func (PySem.W.fnOf "_law_next" "_law_next" (defArgs (topS 12)) (defBody (topS 12)) (defScope (topS 12)) .none kV1 dc1 pm1 an1 cd1 ct1), sl1⟩) (c1 : PySem.W.codeIn K cd1 "_law_next" = true) (k1 : PySem.W.keepIn K (.ref f1) = true)
    {f2 : Addr} {od2 an2 : Option Addr} {sl2 : Array (Option Value)} {oc2 kV2 dc2 pm2 cd2 ct2 : Value}
    (a2 : PySem.W.nsIn K mainGlobals "_law_same" = some (some (.ref f2))) (l2 : K.lookup f2 = some ⟨oc2, od2, .func (PySem.W.fnOf "_law_same" "_law_same" (defArgs (topS 13)) (defBody (topS 13)) (defScope (topS 13)) .none kV2 dc2 pm2 an2 cd2 ct2), sl2⟩) (c2 : PySem.W.codeIn K cd2 "_law_same" = true) (k2 : PySem.W.keepIn K (.ref f2) = true)
    {f3 : Addr} {od3 an3 : Option Addr} {sl3 : Array (Option Value)} {oc3 kV3 dc3 pm3 cd3 ct3 : Value}
    (a3 : PySem.W.nsIn K mainGlobals "hours_of" = some (some (.ref f3))) (l3 : K.lookup f3 = some ⟨oc3, od3, .func (PySem.W.fnOf "hours_of" "hours_of" (defArgs (topS 3)) (defBody (topS 3)) (defScope (topS 3)) .none kV3 dc3 pm3 an3 cd3 ct3), sl3⟩) (c3 : PySem.W.codeIn K cd3 "hours_of" = true) (k3 : PySem.W.keepIn K (.ref f3) = true)
    {f4 : Addr} {od4 an4 : Option Addr} {sl4 : Array (Option Value)} {oc4 kV4 dc4 pm4 cd4 ct4 : Value}
    (a4 : PySem.W.nsIn K mainGlobals "_law_ice" = some (some (.ref f4))) (l4 : K.lookup f4 = some ⟨oc4, od4, .func (PySem.W.fnOf "_law_ice" "_law_ice" (defArgs (topS 14)) (defBody (topS 14)) (defScope (topS 14)) .none kV4 dc4 pm4 an4 cd4 ct4), sl4⟩) (c4 : PySem.W.codeIn K cd4 "_law_ice" = true) (k4 : PySem.W.keepIn K (.ref f4) = true)
    {f5 : Addr} {od5 an5 : Option Addr} {sl5 : Array (Option Value)} {oc5 kV5 dc5 pm5 cd5 ct5 : Value}
    (a5 : PySem.W.nsIn K mainGlobals "fewest_pounds" = some (some (.ref f5))) (l5 : K.lookup f5 = some ⟨oc5, od5, .func (PySem.W.fnOf "fewest_pounds" "fewest_pounds" (defArgs (topS 4)) (defBody (topS 4)) (defScope (topS 4)) .none kV5 dc5 pm5 an5 cd5 ct5), sl5⟩) (c5 : PySem.W.codeIn K cd5 "fewest_pounds" = true) (k5 : PySem.W.keepIn K (.ref f5) = true)
    {f6 : Addr} {od6 an6 : Option Addr} {sl6 : Array (Option Value)} {oc6 kV6 dc6 pm6 cd6 ct6 : Value}
    (a6 : PySem.W.nsIn K mainGlobals "heard_from" = some (some (.ref f6))) (l6 : K.lookup f6 = some ⟨oc6, od6, .func (PySem.W.fnOf "heard_from" "heard_from" (defArgs (topS 6)) (defBody (topS 6)) (defScope (topS 6)) .none kV6 dc6 pm6 an6 cd6 ct6), sl6⟩) (c6 : PySem.W.codeIn K cd6 "heard_from" = true) (k6 : PySem.W.keepIn K (.ref f6) = true)
    {f7 : Addr} {od7 an7 : Option Addr} {sl7 : Array (Option Value)} {oc7 kV7 dc7 pm7 cd7 ct7 : Value}
    (a7 : PySem.W.nsIn K mainGlobals "hears" = some (some (.ref f7))) (l7 : K.lookup f7 = some ⟨oc7, od7, .func (PySem.W.fnOf "hears" "hears" (defArgs (topS 7)) (defBody (topS 7)) (defScope (topS 7)) .none kV7 dc7 pm7 an7 cd7 ct7), sl7⟩) (c7 : PySem.W.codeIn K cd7 "hears" = true) (k7 : PySem.W.keepIn K (.ref f7) = true)
    {f8 : Addr} {od8 an8 : Option Addr} {sl8 : Array (Option Value)} {oc8 kV8 dc8 pm8 cd8 ct8 : Value}
    (a8 : PySem.W.nsIn K mainGlobals "_law_hears" = some (some (.ref f8))) (l8 : K.lookup f8 = some ⟨oc8, od8, .func (PySem.W.fnOf "_law_hears" "_law_hears" (defArgs (topS 15)) (defBody (topS 15)) (defScope (topS 15)) .none kV8 dc8 pm8 an8 cd8 ct8), sl8⟩) (c8 : PySem.W.codeIn K cd8 "_law_hears" = true) (k8 : PySem.W.keepIn K (.ref f8) = true)
    {f9 : Addr} {od9 an9 : Option Addr} {sl9 : Array (Option Value)} {oc9 kV9 dc9 pm9 cd9 ct9 : Value}
    (a9 : PySem.W.nsIn K mainGlobals "sleepers" = some (some (.ref f9))) (l9 : K.lookup f9 = some ⟨oc9, od9, .func (PySem.W.fnOf "sleepers" "sleepers" (defArgs (topS 9)) (defBody (topS 9)) (defScope (topS 9)) .none kV9 dc9 pm9 an9 cd9 ct9), sl9⟩) (c9 : PySem.W.codeIn K cd9 "sleepers" = true) (k9 : PySem.W.keepIn K (.ref f9) = true)
    {f10 : Addr} {od10 an10 : Option Addr} {sl10 : Array (Option Value)} {oc10 kV10 dc10 pm10 cd10 ct10 : Value}
    (a10 : PySem.W.nsIn K mainGlobals "quietest" = some (some (.ref f10))) (l10 : K.lookup f10 = some ⟨oc10, od10, .func (PySem.W.fnOf "quietest" "quietest" (defArgs (topS 8)) (defBody (topS 8)) (defScope (topS 8)) .none kV10 dc10 pm10 an10 cd10 ct10), sl10⟩) (c10 : PySem.W.codeIn K cd10 "quietest" = true) (k10 : PySem.W.keepIn K (.ref f10) = true)
    {f11 : Addr} {od11 an11 : Option Addr} {sl11 : Array (Option Value)} {oc11 kV11 dc11 pm11 cd11 ct11 : Value}
    (a11 : PySem.W.nsIn K mainGlobals "law" = some (some (.ref f11))) (l11 : K.lookup f11 = some ⟨oc11, od11, .func (PySem.W.fnOf "law" "law" (defArgs (topS 16)) (defBody (topS 16)) (defScope (topS 16)) .none kV11 dc11 pm11 an11 cd11 ct11), sl11⟩) (c11 : PySem.W.codeIn K cd11 "law" = true) (k11 : PySem.W.keepIn K (.ref f11) = true)
    (z_abs : PySem.W.nsIn K mainGlobals "abs" = some none)
    (z_all : PySem.W.nsIn K mainGlobals "all" = some none)
    (z_bool : PySem.W.nsIn K mainGlobals "bool" = some none)
    (z_enumerate : PySem.W.nsIn K mainGlobals "enumerate" = some none)
    (z_int : PySem.W.nsIn K mainGlobals "int" = some none)
    (z_isinstance : PySem.W.nsIn K mainGlobals "isinstance" = some none)
    (z_len : PySem.W.nsIn K mainGlobals "len" = some none)
    (z_list : PySem.W.nsIn K mainGlobals "list" = some none)
    (z_max : PySem.W.nsIn K mainGlobals "max" = some none)
    (z_min : PySem.W.nsIn K mainGlobals "min" = some none)
    (z_range : PySem.W.nsIn K mainGlobals "range" = some none)
    (z_set : PySem.W.nsIn K mainGlobals "set" = some none)
    (z_sorted : PySem.W.nsIn K mainGlobals "sorted" = some none)
    (z_str : PySem.W.nsIn K mainGlobals "str" = some none)
    (z_sum : PySem.W.nsIn K mainGlobals "sum" = some none)
    (z_tuple : PySem.W.nsIn K mainGlobals "tuple" = some none)
    (g_permutations : PySem.W.nsIn K mainGlobals "permutations" = some (some (.type "itertools.permutations")))
    {t_MOST : Tok} (g_MOST : PySem.W.nsIn K mainGlobals "MOST" = some (some (.int 60 t_MOST)))
    : ∃ fd : FuncData, (∀ (s : Shared) (v : Value), BindsTo s fd ⟨[v], []⟩ [("script", v)]) ∧ ∀ base : Heap, K.In base → base.Ns mainGlobals mg → FnOk l.prog w K mg base CX0 10 fa fd ["script"] (spLawJ K) := by
  have e := hfa.symm.trans (PySem.W.mg_of KX G a11)
  cases e
  have F0 := fun_mk (st := topS 11) l0 c0 k0
  have b0 := F0.binds (ps := ["script"]) fun _ _ _ _ _ _ us hl => match us, hl with | [_], _ => rfl
  have F1 := fun_mk (st := topS 12) l1 c1 k1
  have b1 := F1.binds (ps := ["draw", "many"]) fun _ _ _ _ _ _ us hl => match us, hl with | [_, _], _ => rfl
  have F2 := fun_mk (st := topS 13) l2 c2 k2
  have b2 := F2.binds (ps := ["actual", "due"]) fun _ _ _ _ _ _ us hl => match us, hl with | [_, _], _ => rfl
  have F3 := fun_mk (st := topS 3) l3 c3 k3
  have b3 := F3.binds (ps := ["pounds", "hours", "melts", "wants"]) fun _ _ _ _ _ _ us hl => match us, hl with | [_, _, _, _], _ => rfl
  have F4 := fun_mk (st := topS 14) l4 c4 k4
  have b4 := F4.binds (ps := ["pounds", "hours", "melts", "wants"]) fun _ _ _ _ _ _ us hl => match us, hl with | [_, _, _, _], _ => rfl
  have F5 := fun_mk (st := topS 4) l5 c5 k5
  have b5 := F5.binds (ps := ["hours", "melts", "wants", "start"]) fun _ _ _ _ _ _ us hl => match us, hl with | [_, _, _, _], _ => rfl
  have F6 := fun_mk (st := topS 6) l6 c6 k6
  have b6 := F6.binds (ps := ["loud", "far"]) fun _ _ _ _ _ _ us hl => match us, hl with | [_, _], _ => rfl
  have F7 := fun_mk (st := topS 7) l7 c7 k7
  have b7 := F7.binds (ps := ["rooms", "room"]) fun _ _ _ _ _ _ us hl => match us, hl with | [_, _], _ => rfl
  have F8 := fun_mk (st := topS 15) l8 c8 k8
  have b8 := F8.binds (ps := ["rooms", "k"]) fun _ _ _ _ _ _ us hl => match us, hl with | [_, _], _ => rfl
  have F9 := fun_mk (st := topS 9) l9 c9 k9
  have b9 := F9.binds (ps := ["rooms", "bears"]) fun _ _ _ _ _ _ us hl => match us, hl with | [_, _], _ => rfl
  have F10 := fun_mk (st := topS 8) l10 c10 k10
  have b10 := F10.binds (ps := ["rooms"]) fun _ _ _ _ _ _ us hl => match us, hl with | [_], _ => rfl
  have F11 := fun_mk (st := topS 16) l11 c11 k11
  have b11 := F11.binds (ps := ["script"]) fun _ _ _ _ _ _ us hl => match us, hl with | [_], _ => rfl
  let X : Txt K mg := {
    f_draw := f0, d_draw := _, o_draw := ⟨F0, PySem.W.mg_of KX G a0, b0⟩,
    f_next := f1, d_next := _, o_next := ⟨F1, PySem.W.mg_of KX G a1, b1⟩,
    f_same := f2, d_same := _, o_same := ⟨F2, PySem.W.mg_of KX G a2, b2⟩,
    f_hours_of := f3, d_hours_of := _, o_hours_of := ⟨F3, PySem.W.mg_of KX G a3, b3⟩,
    f_law_ice := f4, d_law_ice := _, o_law_ice := ⟨F4, PySem.W.mg_of KX G a4, b4⟩,
    f_fewest_pounds := f5, d_fewest_pounds := _, o_fewest_pounds := ⟨F5, PySem.W.mg_of KX G a5, b5⟩,
    f_heard_from := f6, d_heard_from := _, o_heard_from := ⟨F6, PySem.W.mg_of KX G a6, b6⟩,
    f_hears := f7, d_hears := _, o_hears := ⟨F7, PySem.W.mg_of KX G a7, b7⟩,
    f_law_hears := f8, d_law_hears := _, o_law_hears := ⟨F8, PySem.W.mg_of KX G a8, b8⟩,
    f_sleepers := f9, d_sleepers := _, o_sleepers := ⟨F9, PySem.W.mg_of KX G a9, b9⟩,
    f_quietest := f10, d_quietest := _, o_quietest := ⟨F10, PySem.W.mg_of KX G a10, b10⟩,
    f_law := fa, d_law := _, o_law := ⟨F11, PySem.W.mg_of KX G a11, b11⟩,
    m_abs := PySem.W.mg_none_of KX G z_abs,
    m_all := PySem.W.mg_none_of KX G z_all,
    m_bool := PySem.W.mg_none_of KX G z_bool,
    m_enumerate := PySem.W.mg_none_of KX G z_enumerate,
    m_int := PySem.W.mg_none_of KX G z_int,
    m_isinstance := PySem.W.mg_none_of KX G z_isinstance,
    m_len := PySem.W.mg_none_of KX G z_len,
    m_list := PySem.W.mg_none_of KX G z_list,
    m_max := PySem.W.mg_none_of KX G z_max,
    m_min := PySem.W.mg_none_of KX G z_min,
    m_range := PySem.W.mg_none_of KX G z_range,
    m_set := PySem.W.mg_none_of KX G z_set,
    m_sorted := PySem.W.mg_none_of KX G z_sorted,
    m_str := PySem.W.mg_none_of KX G z_str,
    m_sum := PySem.W.mg_none_of KX G z_sum,
    m_tuple := PySem.W.mg_none_of KX G z_tuple,
    m_permutations := PySem.W.mg_of KX G g_permutations,
    v_MOST := glb_int (PySem.W.mg_of KX G g_MOST) }
  exact ⟨X.d_law, fun s v => .of_eq rfl, fun base _ _ => law_top (ok_law X) hlaw⟩
end K13

open PySem PySem.W PyProof.Rows in
theorem PySem.Challenge.cw_hoteldays_k13_whole_ice_and_corridors_holds : PySem.Challenge.rw_hoteldays_k13_whole_ice_and_corridors.Holds := by
  w_on; o_law; k_head; (case hw => w_witness2)
  k_fill
  refine J.walkJ (l := PySem.Challenge.rw_hoteldays_k13_whole_ice_and_corridors) (k := 10) rfl rfl ⟨rfl, by decide, by decide⟩ (fun w h Y => PySem.W.kIn_of Y) ?F
  case F =>
    intro w mg fa h KX G hmg
    refine' K13.all_mk K13.law_holds KX G hmg ?a0 ?l0 ?c0 ?k0 ?a1 ?l1 ?c1 ?k1 ?a2 ?l2 ?c2 ?k2 ?a3 ?l3 ?c3 ?k3 ?a4 ?l4 ?c4 ?k4 ?a5 ?l5 ?c5 ?k5 ?a6 ?l6 ?c6 ?k6 ?a7 ?l7 ?c7 ?k7 ?a8 ?l8 ?c8 ?k8 ?a9 ?l9 ?c9 ?k9 ?a10 ?l10 ?c10 ?k10 ?a11 ?l11 ?c11 ?k11 ?z_abs ?z_all ?z_bool ?z_enumerate ?z_int ?z_isinstance ?z_len ?z_list ?z_max ?z_min ?z_range ?z_set ?z_sorted ?z_str ?z_sum ?z_tuple ?g_permutations ?g_MOST
    (case a0 => k_is)
    (case l0 => k_is)
    (case c0 => k_is)
    (case k0 => k_is)
    (case a1 => k_is)
    (case l1 => k_is)
    (case c1 => k_is)
    (case k1 => k_is)
    (case a2 => k_is)
    (case l2 => k_is)
    (case c2 => k_is)
    (case k2 => k_is)
    (case a3 => k_is)
    (case l3 => k_is)
    (case c3 => k_is)
    (case k3 => k_is)
    (case a4 => k_is)
    (case l4 => k_is)
    (case c4 => k_is)
    (case k4 => k_is)
    (case a5 => k_is)
    (case l5 => k_is)
    (case c5 => k_is)
    (case k5 => k_is)
    (case a6 => k_is)
    (case l6 => k_is)
    (case c6 => k_is)
    (case k6 => k_is)
    (case a7 => k_is)
    (case l7 => k_is)
    (case c7 => k_is)
    (case k7 => k_is)
    (case a8 => k_is)
    (case l8 => k_is)
    (case c8 => k_is)
    (case k8 => k_is)
    (case a9 => k_is)
    (case l9 => k_is)
    (case c9 => k_is)
    (case k9 => k_is)
    (case a10 => k_is)
    (case l10 => k_is)
    (case c10 => k_is)
    (case k10 => k_is)
    (case a11 => k_is)
    (case l11 => k_is)
    (case c11 => k_is)
    (case k11 => k_is)
    (case z_abs => k_is)
    (case z_all => k_is)
    (case z_bool => k_is)
    (case z_enumerate => k_is)
    (case z_int => k_is)
    (case z_isinstance => k_is)
    (case z_len => k_is)
    (case z_list => k_is)
    (case z_max => k_is)
    (case z_min => k_is)
    (case z_range => k_is)
    (case z_set => k_is)
    (case z_sorted => k_is)
    (case z_str => k_is)
    (case z_sum => k_is)
    (case z_tuple => k_is)
    (case g_permutations => k_is)
    (case g_MOST => k_is)
#print axioms PySem.Challenge.cw_hoteldays_k13_whole_ice_and_corridors_holds
