import PyProof.Rows.All
import Wide.All
import OpenK.AllK
import Wide.FinOn
import HandS.ForMost
import HandS.ForExc
import KE.SortData
import KE.DataMinMax
import KE.DataCmp
import HandS.TupAny
import HandS.TupMul
import HandS.TupLen
import HandS.Deep
import HandS.Conv
import HandS.Zip
import HandS.Style
import KE.GoesEnum
import KE.GoesMore
import HandS.IsInst
import HandS.Text
import HandS.TupLe
import KE.KTupSum
import PyProof.P3In
import PyProof.StrOps2
import HandS.RevRange
import HandS.TupSets
import HandS.SetFor
import HandS.Gcd
import PySem.Challenge.RW_hoteldays_k18_whole_tasters_and_hats
set_option Elab.async false
set_option linter.all false
set_option maxRecDepth 100000
set_option maxHeartbeats 4000000
namespace J
open PySem L2 PySem.Spec PyProof.Rows

/-! ### data in a heap -/
def kD : Key → PyData
  | .inl i => .int i
  | .inr x => .str x
abbrev LN : Nat := 16777216
theorem lnS {n : Nat} (h : n ≤ LN) : n ≤ sizeLine := by rw [sizeLine_eq]; exact h
theorem lnS' {n : Nat} (h : n < LN) : n < sizeLine := by rw [sizeLine_eq]; exact h
/-- a text that may stand -/
def sOk (x : Str) : Prop := PyData.strOk x = true ∧ x.length ≤ LN
def tD (k : List Key) : PyData := .tuple (k.map kD)
mutual
inductive Rp (K : PySem.W.Frag) (C : Hp) : V → PyData → Prop
  | non : Rp K C .non .none
  | bl (b : Bool) : Rp K C (.bl b) (.bool b)
  | int (i : Int) : Rp K C (.int i) (.int i)
  | str {x : Str} : sOk x → Rp K C (.str x) (.str x)
  | lst {a : Addr} {vs : List V} {ds : List PyData} : C a = some (.lst vs) → vs.length ≤ LN → Rps K C vs ds → Rp K C (.ref a) (.list ds)
  | tup {a : Addr} {vs : List V} {ds : List PyData} : SqT K C a vs → vs.length ≤ LN → Rps K C vs ds → Rp K C (.ref a) (.tuple ds)
  | scr {a : Addr} {vs : List V} {ds : List PyData} : SqL K C a vs → vs.length ≤ LN → Rps K C vs ds → Rp K C (.ref a) (.dict [(.none, .list ds)])
  | dK {a : Addr} {kvs : List (Key × V)} {es : List (PyData × PyData)} : C a = some (.dK kvs) → kvs.length ≤ LN → RpK K C kvs es → Rp K C (.ref a) (.dict es)
  | dT {a : Addr} {kvs : List (List Key × V)} {es : List (PyData × PyData)} : C a = some (.dT kvs) → kvs.length ≤ LN → RpT K C kvs es → Rp K C (.ref a) (.dict es)
inductive Rps (K : PySem.W.Frag) (C : Hp) : List V → List PyData → Prop
  | nil : Rps K C [] []
  | cons {v : V} {vs : List V} {d : PyData} {ds : List PyData} : Rp K C v d → Rps K C vs ds → Rps K C (v :: vs) (d :: ds)
inductive RpK (K : PySem.W.Frag) (C : Hp) : List (Key × V) → List (PyData × PyData) → Prop
  | nil : RpK K C [] []
  | cons {k : Key} {v : V} {r : List (Key × V)} {d : PyData} {es : List (PyData × PyData)} : Rp K C v d → RpK K C r es → RpK K C ((k, v) :: r) ((kD k, d) :: es)
inductive RpT (K : PySem.W.Frag) (C : Hp) : List (List Key × V) → List (PyData × PyData) → Prop
  | nil : RpT K C [] []
  | cons {k : List Key} {v : V} {r : List (List Key × V)} {d : PyData} {es : List (PyData × PyData)} : Rp K C v d → RpT K C r es → RpT K C ((k, v) :: r) ((tD k, d) :: es)
end
abbrev Ex (H H' : Hp) : Prop := ∀ a o, H a = some o → H' a = some o
theorem Ex.refl (H : Hp) : Ex H H := fun _ _ h => h
theorem Ex.trans {H H1 H2 : Hp} (a : Ex H H1) (b : Ex H1 H2) : Ex H H2 := fun x o h => b x o (a x o h)
theorem Ex.new {H : Hp} {p : Addr} {o : HO} (h : H p = none) : Ex H (upd H p o) := fun a u e => by
  rw [upd_ne (ne_of_none e h)]; exact e
theorem Ex.rd {H H' : Hp} {a : Addr} {u : HO} (e : Ex H H') (h : Rd H a u) : Rd H' a u := by
  rcases h with h | ⟨o, h⟩
  · exact Or.inl (e a _ h)
  · exact Or.inr ⟨o, e a _ h⟩
theorem Ex.l {K : PySem.W.Frag} {H H' : Hp} {a : Addr} {xs : List V} (e : Ex H H') (h : SqL K H a xs) : SqL K H' a xs := by
  rcases h with h | h
  · exact Or.inl (e.rd h)
  · exact Or.inr h
theorem Ex.t {K : PySem.W.Frag} {H H' : Hp} {a : Addr} {xs : List V} (e : Ex H H') (h : SqT K H a xs) : SqT K H' a xs := by
  rcases h with h | h
  · exact Or.inl (e.rd h)
  · exact Or.inr h
mutual
theorem Rp.mono {K : PySem.W.Frag} {C C' : Hp} (e : Ex C C') : ∀ {v : V} {d : PyData}, Rp K C v d → Rp K C' v d
  | _, _, .non => .non
  | _, _, .bl b => .bl b
  | _, _, .int i => .int i
  | _, _, .str h => .str h
  | _, _, .lst h l r => .lst (e _ _ h) l (Rps.mono e r)
  | _, _, .tup h l r => .tup (e.t h) l (Rps.mono e r)
  | _, _, .scr h l r => .scr (e.l h) l (Rps.mono e r)
  | _, _, .dK h l r => .dK (e _ _ h) l (RpK.mono e r)
  | _, _, .dT h l r => .dT (e _ _ h) l (RpT.mono e r)
theorem Rps.mono {K : PySem.W.Frag} {C C' : Hp} (e : Ex C C') : ∀ {v : List V} {d : List PyData}, Rps K C v d → Rps K C' v d
  | _, _, .nil => .nil
  | _, _, .cons h r => .cons (Rp.mono e h) (Rps.mono e r)
theorem RpK.mono {K : PySem.W.Frag} {C C' : Hp} (e : Ex C C') : ∀ {v : List (Key × V)} {d : List (PyData × PyData)}, RpK K C v d → RpK K C' v d
  | _, _, .nil => .nil
  | _, _, .cons h r => .cons (Rp.mono e h) (RpK.mono e r)
theorem RpT.mono {K : PySem.W.Frag} {C C' : Hp} (e : Ex C C') : ∀ {v : List (List Key × V)} {d : List (PyData × PyData)}, RpT K C v d → RpT K C' v d
  | _, _, .nil => .nil
  | _, _, .cons h r => .cons (Rp.mono e h) (RpT.mono e r)
end
section
variable {K : PySem.W.Frag} {C : Hp}
theorem Rps.len : ∀ {vs : List V} {ds : List PyData}, Rps K C vs ds → vs.length = ds.length
  | _, _, .nil => rfl
  | _, _, .cons _ r => by simp only [List.length_cons, r.len]
theorem Rps.get : ∀ {vs : List V} {ds : List PyData} {i : Nat} {v : V}, Rps K C vs ds → vs[i]? = some v → ∃ d, ds[i]? = some d ∧ Rp K C v d
  | _, _, 0, _, .cons h _, e => by simp at e; subst e; exact ⟨_, rfl, h⟩
  | _, _, i + 1, _, .cons _ r, e => by
    obtain ⟨d, h1, h2⟩ := r.get (i := i) (by simpa using e)
    exact ⟨d, by simpa using h1, h2⟩
theorem Rps.getD : ∀ {vs : List V} {ds : List PyData} {i : Nat} {d : PyData}, Rps K C vs ds → ds[i]? = some d → ∃ v, vs[i]? = some v ∧ Rp K C v d
  | _, _, 0, _, .cons h _, e => by simp at e; subst e; exact ⟨_, rfl, h⟩
  | _, _, i + 1, _, .cons _ r, e => by
    obtain ⟨d, h1, h2⟩ := r.getD (i := i) (by simpa using e)
    exact ⟨d, by simpa using h1, h2⟩
theorem Rps.append : ∀ {vs ws : List V} {ds es : List PyData}, Rps K C vs ds → Rps K C ws es → Rps K C (vs ++ ws) (ds ++ es)
  | _, _, _, _, .nil, s => s
  | _, _, _, _, .cons h r, s => .cons h (r.append s)
theorem Rps.take : ∀ {vs : List V} {ds : List PyData} (n : Nat), Rps K C vs ds → Rps K C (vs.take n) (ds.take n)
  | _, _, 0, _ => .nil
  | _, _, _ + 1, .nil => .nil
  | _, _, n + 1, .cons h r => .cons h (r.take n)
theorem Rps.drop : ∀ {vs : List V} {ds : List PyData} (n : Nat), Rps K C vs ds → Rps K C (vs.drop n) (ds.drop n)
  | _, _, 0, r => r
  | _, _, _ + 1, .nil => .nil
  | _, _, n + 1, .cons _ r => r.drop n
theorem Rps.set : ∀ {vs : List V} {ds : List PyData} {v : V} {d : PyData} (i : Nat), Rps K C vs ds → Rp K C v d → Rps K C (vs.set i v) (ds.set i d)
  | _, _, _, _, _, .nil, _ => .nil
  | _, _, _, _, 0, .cons _ r, q => .cons q r
  | _, _, _, _, i + 1, .cons h r, q => .cons h (Rps.set i r q)
theorem Rps.int : ∀ {vs : List V} {ns : List Int}, Rps K C vs (ns.map .int) → vs = ns.map V.int
  | _, [], .nil => rfl
  | _, n :: ns, .cons h r => by cases h; rw [List.map_cons, r.int]
theorem Rps.ints : ∀ {ns : List Int}, Rps K C (ns.map V.int) (ns.map .int)
  | [] => .nil
  | n :: ns => .cons (.int n) Rps.ints
theorem Rps.bls : ∀ {vs : List V} {ns : List Bool}, Rps K C vs (ns.map .bool) → vs = ns.map V.bl
  | _, [], .nil => rfl
  | _, n :: ns, .cons h r => by cases h; rw [List.map_cons, r.bls]
theorem Rps.strs : ∀ {vs : List V} {ns : List Str}, Rps K C vs (ns.map .str) → vs = ns.map V.str
  | _, [], .nil => rfl
  | _, n :: ns, .cons h r => by cases h; rw [List.map_cons, r.strs]
theorem Rps.ofStrs : ∀ {ns : List Str}, (∀ x ∈ ns, sOk x) → Rps K C (ns.map V.str) (ns.map .str)
  | [], _ => .nil
  | n :: ns, h => .cons (.str (h n (by simp))) (Rps.ofStrs fun x hx => h x (by simp [hx]))
theorem Rps.ok : ∀ {ns : List Str} {vs : List V}, Rps K C vs (ns.map .str) → ∀ x ∈ ns, sOk x
  | [], _, .nil => by simp
  | n :: ns, _, .cons h r => fun x hx => by
    cases h with
    | str h =>
    rcases List.mem_cons.mp hx with rfl | hx
    · exact h
    · exact r.ok x hx
end
/- no dict within -/
mutual
def pure0 : PyData → Bool
  | .none => true
  | .bool _ => true
  | .int _ => true
  | .str _ => true
  | .list xs => pureAll xs
  | .tuple xs => pureAll xs
  | .dict _ => false
def pureAll : List PyData → Bool
  | [] => true
  | x :: xs => pure0 x && pureAll xs
end
mutual
theorem Rp.dp {K : PySem.W.Frag} {C : Hp} : ∀ {v : V} {d : PyData}, Rp K C v d → pure0 d = true → Dp K C v d
  | _, _, .non, _ => .non
  | _, _, .bl b, _ => .bl b
  | _, _, .int i, _ => .int i
  | _, _, .str (x := x) _, _ => .str x
  | _, _, .lst h _ r, q => .lst (.inl (.inl h)) (Rps.dps r (by simpa [pure0] using q))
  | _, _, .tup h _ r, q => .tup h (Rps.dps r (by simpa [pure0] using q))
  | _, _, .scr h _ r, q => by simp [pure0] at q
  | _, _, .dK h _ r, q => by simp [pure0] at q
  | _, _, .dT h _ r, q => by simp [pure0] at q
theorem Rps.dps {K : PySem.W.Frag} {C : Hp} : ∀ {v : List V} {d : List PyData}, Rps K C v d → pureAll d = true → DpAll K C v d
  | _, _, .nil, _ => .nil
  | _, _, .cons h r, q => by
    rw [pureAll, Bool.and_eq_true] at q
    exact .cons (Rp.dp h q.1) (Rps.dps r q.2)
end

/-- no dict within, nested at most n deep -/
def shN : Nat → PyData → Bool
  | _, .none => true
  | _, .bool _ => true
  | _, .int _ => true
  | _, .str _ => true
  | n + 1, .list xs => xs.all (shN n)
  | n + 1, .tuple xs => xs.all (shN n)
  | 0, .list _ => false
  | 0, .tuple _ => false
  | _, .dict _ => false
theorem depthAll_le : ∀ {n : Nat} {xs : List PyData}, (∀ x ∈ xs, x.depth ≤ n) → PyData.depthAll xs ≤ n
  | n, [], _ => by simp [PyData.depthAll]
  | n, x :: xs, h => by
    rw [PyData.depthAll]
    exact Nat.max_le.mpr ⟨h x (by simp), depthAll_le fun y hy => h y (by simp [hy])⟩
theorem pureAll_of : ∀ {xs : List PyData}, (∀ x ∈ xs, pure0 x = true) → pureAll xs = true
  | [], _ => rfl
  | x :: xs, h => by
    rw [pureAll, h x (by simp), pureAll_of fun y hy => h y (by simp [hy])]; rfl
theorem shN_of : ∀ {n : Nat} {d : PyData}, shN n d = true → pure0 d = true ∧ d.depth ≤ n
  | _, .none, _ => ⟨rfl, by simp [PyData.depth]⟩
  | _, .bool _, _ => ⟨rfl, by simp [PyData.depth]⟩
  | _, .int _, _ => ⟨rfl, by simp [PyData.depth]⟩
  | _, .str _, _ => ⟨rfl, by simp [PyData.depth]⟩
  | n + 1, .list xs, h => by
    have h' : ∀ x ∈ xs, shN n x = true := by simpa [shN] using h
    exact ⟨by rw [pure0]; exact pureAll_of fun x hx => (shN_of (h' x hx)).1, by rw [PyData.depth]; have := depthAll_le fun x hx => (shN_of (h' x hx)).2; omega⟩
  | n + 1, .tuple xs, h => by
    have h' : ∀ x ∈ xs, shN n x = true := by simpa [shN] using h
    exact ⟨by rw [pure0]; exact pureAll_of fun x hx => (shN_of (h' x hx)).1, by rw [PyData.depth]; have := depthAll_le fun x hx => (shN_of (h' x hx)).2; omega⟩
  | 0, .list _, h => by simp [shN] at h
  | 0, .tuple _, h => by simp [shN] at h
  | 0, .dict _, h => by simp [shN] at h
  | n + 1, .dict _, h => by simp [shN] at h
mutual
theorem Rp.can {K : PySem.W.Frag} {C : Hp} : ∀ {v : V} {d : PyData}, Rp K C v d → pure0 d = true → d.canLay0 = true
  | _, _, .non, _ => rfl
  | _, _, .bl b, _ => rfl
  | _, _, .int i, _ => rfl
  | _, _, .str h, _ => h.1
  | _, _, .lst h _ r, q => by rw [PyData.canLay0]; exact Rps.can r (by simpa [pure0] using q)
  | _, _, .tup h _ r, q => by rw [PyData.canLay0]; exact Rps.can r (by simpa [pure0] using q)
  | _, _, .scr h _ r, q => by simp [pure0] at q
  | _, _, .dK h _ r, q => by simp [pure0] at q
  | _, _, .dT h _ r, q => by simp [pure0] at q
theorem Rps.can {K : PySem.W.Frag} {C : Hp} : ∀ {v : List V} {d : List PyData}, Rps K C v d → pureAll d = true → PyData.canLayAll0 d = true
  | _, _, .nil, _ => rfl
  | _, _, .cons h r, q => by
    rw [pureAll, Bool.and_eq_true] at q
    rw [PyData.canLayAll0, Rp.can h q.1, Rps.can r q.2]; rfl
end
theorem Rp.shaped {K : PySem.W.Frag} {C : Hp} {v : V} {d : PyData} (h : Rp K C v d) (s : shN 64 d = true) : SeqAt.shaped d = true := by
  obtain ⟨p, q⟩ := shN_of s
  unfold SeqAt.shaped
  rw [h.can p, decide_eq_true q]; rfl
theorem Rp.dp' {K : PySem.W.Frag} {C : Hp} {v : V} {d : PyData} (h : Rp K C v d) (s : shN 64 d = true) : Dp K C v d := h.dp (shN_of s).1

/-- the size that everything has -/
def lenOk : PyData → Prop
  | .list ds => ds.length ≤ LN
  | .tuple ds => ds.length ≤ LN
  | .dict es => es.length ≤ LN
  | .str x => sOk x
  | _ => True
theorem RpK.len {K : PySem.W.Frag} {C : Hp} : ∀ {vs : List (Key × V)} {ds : List (PyData × PyData)}, RpK K C vs ds → vs.length = ds.length
  | _, _, .nil => rfl
  | _, _, .cons _ r => by simp only [List.length_cons, r.len]
theorem RpT.len {K : PySem.W.Frag} {C : Hp} : ∀ {vs : List (List Key × V)} {ds : List (PyData × PyData)}, RpT K C vs ds → vs.length = ds.length
  | _, _, .nil => rfl
  | _, _, .cons _ r => by simp only [List.length_cons, r.len]
theorem Rp.lenOk {K : PySem.W.Frag} {C : Hp} {v : V} {d : PyData} (h : Rp K C v d) : lenOk d := by
  cases h with
  | lst _ l r => show _ ≤ LN; rw [← r.len]; exact l
  | tup _ l r => show _ ≤ LN; rw [← r.len]; exact l
  | scr _ l r => show 1 ≤ LN; decide
  | dK _ l r => show _ ≤ LN; rw [← r.len]; exact l
  | dT _ l r => show _ ≤ LN; rw [← r.len]; exact l
  | str h => exact h
  | _ => trivial

/-! ### the environment: what is known of each slot -/
inductive Sl where
  /-- nothing is known -/
  | u
  /-- the datum, for ever -/
  | d (x : PyData)
  /-- the datum, an object of the def's own that may be changed (its address, where that is told) -/
  | o (q : Option Addr) (x : PyData)
abbrev Env' := List Sl
/-- the object that bears a datum that may change -/
def Ow (K : PySem.W.Frag) (C : Hp) (ho : Option HO) : PyData → Prop
  | .list ds => ∃ vs, ho = some (.lst vs) ∧ vs.length ≤ LN ∧ Rps K C vs ds
  | .dict es => (∃ kvs, ho = some (.dK kvs) ∧ kvs.length ≤ LN ∧ RpK K C kvs es) ∨ (∃ kvs, ho = some (.dT kvs) ∧ kvs.length ≤ LN ∧ RpT K C kvs es)
  | _ => False
theorem Ow.mono {K : PySem.W.Frag} {C C' : Hp} {ho : Option HO} (e : Ex C C') {d : PyData} (h : Ow K C ho d) : Ow K C' ho d := by
  cases d with
  | list ds => obtain ⟨vs, a, l, r⟩ := h; exact ⟨vs, a, l, r.mono e⟩
  | dict es =>
    rcases h with ⟨vs, a, l, r⟩ | ⟨vs, a, l, r⟩
    · exact .inl ⟨vs, a, l, r.mono e⟩
    · exact .inr ⟨vs, a, l, r.mono e⟩
  | _ => exact h.elim
theorem Ow.there {K : PySem.W.Frag} {C : Hp} {ho : Option HO} {d : PyData} (h : Ow K C ho d) : ho ≠ none := by
  cases d with
  | list ds => obtain ⟨vs, rfl, l, r⟩ := h; simp
  | dict es => rcases h with ⟨vs, rfl, l, r⟩ | ⟨vs, rfl, l, r⟩ <;> simp
  | _ => exact h.elim
/-- an owned object that is added to the frozen ones -/
theorem Ow.frz {K : PySem.W.Frag} {C : Hp} {p : Addr} {o : HO} {d : PyData} (h : Ow K C (some o) d) (hp : C p = none) : Rp K (upd C p o) (.ref p) d := by
  cases d with
  | list ds => obtain ⟨vs, e, l, r⟩ := h; cases e; exact .lst upd_same l (r.mono (Ex.new hp))
  | dict es =>
    rcases h with ⟨vs, e, l, r⟩ | ⟨vs, e, l, r⟩
    · cases e; exact .dK upd_same l (r.mono (Ex.new hp))
    · cases e; exact .dT upd_same l (r.mono (Ex.new hp))
  | _ => exact h.elim
structure EnvC (K : PySem.W.Frag) (R C : Hp) (env : Env') (σ : L2.St) (H : Hp) : Prop where
  len : env.length = σ.length
  cH : Ex C H
  rH : Ex R H
  rc : ∀ p, R p ≠ none → C p = none
  dat : ∀ (i : Nat) (x : PyData), env[i]? = some (.d x) → ∃ v : V, σ[i]? = some (some v) ∧ Rp K C v x
  own : ∀ (i : Nat) (q : Option Addr) (x : PyData), env[i]? = some (.o q x) → ∃ p : Addr, σ[i]? = some (some (.ref p)) ∧ (∀ p', q = some p' → p' = p) ∧ C p = none ∧ R p = none ∧ Ow K C (H p) x
  apart : ∀ (i j : Nat) (q q' : Option Addr) (x y : PyData) (p : Addr), env[i]? = some (.o q x) → env[j]? = some (.o q' y) → σ[i]? = some (some (.ref p)) → σ[j]? = some (some (.ref p)) → i = j
section
variable {K : PySem.W.Frag} {R C C' H H' : Hp} {env env' : Env'} {σ : L2.St}
/-- a new object, known for ever -/
theorem EnvC.new {p : Addr} {o : HO} (E : EnvC K R C env σ H) (hp : H p = none) : EnvC K R (upd C p o) env σ (upd H p o) := by
  have cp : C p = none := by
    cases q : C p with
    | none => rfl
    | some u => rw [E.cH _ _ q] at hp; cases hp
  have rp : R p = none := by
    cases q : R p with
    | none => rfl
    | some u => rw [E.rH _ _ q] at hp; cases hp
  refine ⟨E.len, fun a u e => ?_, fun a u e => ?_, fun a e => ?_, fun i x e => ?_, fun i k x e => ?_, E.apart⟩
  · by_cases h : a = p
    · subst h; rw [upd_same] at e ⊢; exact e
    · rw [upd_ne h] at e ⊢; exact E.cH _ _ e
  · rw [upd_ne (ne_of_none e rp)]; exact E.rH _ _ e
  · have ha : a ≠ p := fun h => by subst h; exact e rp
    rw [upd_ne ha]; exact E.rc _ e
  · obtain ⟨v, h1, h2⟩ := E.dat i x e
    exact ⟨v, h1, h2.mono (Ex.new cp)⟩
  · obtain ⟨q, h1, h0, h2, h3, h4⟩ := E.own i k x e
    have hq : q ≠ p := fun h => by subst h; exact h4.there hp
    exact ⟨q, h1, h0, by rw [upd_ne hq]; exact h2, h3, by rw [upd_ne hq]; exact h4.mono (Ex.new cp)⟩
/-- a new object, not yet given to anybody -/
theorem EnvC.newO {p : Addr} {o : HO} (E : EnvC K R C env σ H) (hp : H p = none) : EnvC K R C env σ (upd H p o) := by
  refine ⟨E.len, E.cH.trans (Ex.new hp), E.rH.trans (Ex.new hp), E.rc, E.dat, fun i k x e => ?_, E.apart⟩
  obtain ⟨q, h1, h0, h2, h3, h4⟩ := E.own i k x e
  have hq : q ≠ p := fun h => by subst h; exact h4.there hp
  exact ⟨q, h1, h0, h2, h3, by rw [upd_ne hq]; exact h4⟩
theorem EnvC.cN (E : EnvC K R C env σ H) {p : Addr} (hp : H p = none) : C p = none := by
  cases q : C p with
  | none => rfl
  | some u => rw [E.cH _ _ q] at hp; cases hp
theorem EnvC.rN (E : EnvC K R C env σ H) {p : Addr} (hp : H p = none) : R p = none := by
  cases q : R p with
  | none => rfl
  | some u => rw [E.rH _ _ q] at hp; cases hp
/-- a slot that is not owned may forget -/
inductive SlLe : Sl → Sl → Prop
  | u {s : Sl} : SlLe .u s
  | r {s : Sl} : SlLe s s
/-- env' knows less than env -/
def Le (env' env : Env') : Prop := env'.length = env.length ∧ ∀ (i : Nat) (s : Sl), env'[i]? = some s → s = .u ∨ env[i]? = some s
theorem Le.refl (env : Env') : Le env env := ⟨rfl, fun _ _ h => .inr h⟩
theorem Le.trans {a b c : Env'} (h : Le a b) (k : Le b c) : Le a c := ⟨h.1.trans k.1, fun i s e => by
  rcases h.2 i s e with z | z
  · exact .inl z
  · exact k.2 i s z⟩
theorem EnvC.le (E : EnvC K R C env σ H) (l : Le env' env) : EnvC K R C env' σ H := by
  refine ⟨l.1.trans E.len, E.cH, E.rH, E.rc, fun i x e => ?_, fun i k x e => ?_, fun i j k k' x y p e1 e2 s1 s2 => ?_⟩
  · rcases l.2 i _ e with z | z
    · cases z
    · exact E.dat i x z
  · rcases l.2 i _ e with z | z
    · cases z
    · exact E.own i k x z
  · rcases l.2 i _ e1 with z | z
    · cases z
    · rcases l.2 j _ e2 with z' | z'
      · cases z'
      · exact E.apart i j k k' x y p z z' s1 s2
/-- the slot i set to a datum known for ever -/
theorem EnvC.set {v : V} {x : PyData} (E : EnvC K R C env σ H) (i : Nat) (r : Rp K C v x) : EnvC K R C (env.set i (.d x)) (σ.set i (some v)) H := by
  refine ⟨by simp [E.len], E.cH, E.rH, E.rc, fun j y e => ?_, fun j w y e => ?_, fun j k w w' y z p e1 e2 s1 s2 => ?_⟩
  · by_cases h : i = j
    · subst h
      rw [List.getElem?_set_self'] at e ⊢
      cases q : env[i]? with
      | none => rw [q] at e; cases e
      | some w =>
        rw [q] at e
        have hl : i < σ.length := by rw [← E.len]; exact (List.getElem?_eq_some_iff.mp q).1
        rw [List.getElem?_eq_getElem hl]
        simp at e; subst e
        exact ⟨v, by simp, r⟩
    · rw [List.getElem?_set_ne h] at e ⊢; exact E.dat j y e
  · by_cases h : i = j
    · subst h
      rw [List.getElem?_set_self'] at e
      cases q : env[i]? <;> rw [q] at e <;> simp at e
    · rw [List.getElem?_set_ne h] at e ⊢; exact E.own j w y e
  · have h1 : i ≠ j := fun h => by
      subst h; rw [List.getElem?_set_self'] at e1
      cases q : env[i]? <;> rw [q] at e1 <;> simp at e1
    have h2 : i ≠ k := fun h => by
      subst h; rw [List.getElem?_set_self'] at e2
      cases q : env[i]? <;> rw [q] at e2 <;> simp at e2
    rw [List.getElem?_set_ne h1] at e1 s1
    rw [List.getElem?_set_ne h2] at e2 s2
    exact E.apart j k w w' y z p e1 e2 s1 s2
/-- not an object that the environment owns -/
def NotOwn (env : Env') (σ : L2.St) (p : Addr) : Prop := ∀ (i : Nat) (k : Option Addr) (x : PyData), env[i]? = some (.o k x) → σ[i]? ≠ some (some (.ref p))
theorem EnvC.notOwn (E : EnvC K R C env σ H) {p : Addr} (hp : H p = none) : NotOwn env σ p := fun i k x e s => by
  obtain ⟨q, h1, h0, h2, h3, h4⟩ := E.own i k x e
  rw [h1] at s; cases s
  exact h4.there hp
/-- the slot i set to an object of its own -/
theorem EnvC.setO {p : Addr} {x : PyData} (E : EnvC K R C env σ H) (i : Nat) (cp : C p = none) (rp : R p = none) (no : NotOwn env σ p) (ow : Ow K C (H p) x) : EnvC K R C (env.set i (.o none x)) (σ.set i (some (.ref p))) H := by
  refine ⟨by simp [E.len], E.cH, E.rH, E.rc, fun j y e => ?_, fun j w y e => ?_, fun j k w w' y z q e1 e2 s1 s2 => ?_⟩
  · by_cases h : i = j
    · subst h
      rw [List.getElem?_set_self'] at e
      cases q : env[i]? <;> rw [q] at e <;> simp at e
    · rw [List.getElem?_set_ne h] at e ⊢; exact E.dat j y e
  · by_cases h : i = j
    · subst h
      rw [List.getElem?_set_self'] at e ⊢
      cases q : env[i]? with
      | none => rw [q] at e; cases e
      | some w2 =>
        rw [q] at e
        have hl : i < σ.length := by rw [← E.len]; exact (List.getElem?_eq_some_iff.mp q).1
        rw [List.getElem?_eq_getElem hl]
        simp at e; obtain ⟨e', e⟩ := e; subst e; subst e'
        exact ⟨p, by simp, fun _ z => (by cases z), cp, rp, ow⟩
    · rw [List.getElem?_set_ne h] at e ⊢; exact E.own j w y e
  · by_cases h1 : i = j
    · by_cases h2 : i = k
      · exact h1.symm.trans h2
      · subst h1
        rw [List.getElem?_set_ne h2] at e2 s2
        rw [List.getElem?_set_self'] at s1
        cases qq : σ[i]? with
        | none => rw [qq] at s1; cases s1
        | some w2 => rw [qq] at s1; simp at s1; subst s1; exact absurd s2 (no k _ z e2)
    · by_cases h2 : i = k
      · subst h2
        rw [List.getElem?_set_ne h1] at e1 s1
        rw [List.getElem?_set_self'] at s2
        cases qq : σ[i]? with
        | none => rw [qq] at s2; cases s2
        | some w2 => rw [qq] at s2; simp at s2; subst s2; exact absurd s1 (no j _ y e1)
      · rw [List.getElem?_set_ne h1] at e1 s1
        rw [List.getElem?_set_ne h2] at e2 s2
        exact E.apart j k w w' y z q e1 e2 s1 s2
/-- the object that slot i owns is changed -/
theorem EnvC.mutO {p : Addr} {x y : PyData} {o : HO} {i : Nat} {k0 : Option Addr} (E : EnvC K R C env σ H) (e : env[i]? = some (.o k0 x)) (s : σ[i]? = some (some (.ref p))) (cp : C p = none) (rp : R p = none) (ow : Ow K C (some o) y) : EnvC K R C (env.set i (.o k0 y)) σ (upd H p o) := by
  have hi : i < env.length := (List.getElem?_eq_some_iff.mp e).1
  refine ⟨by simp [E.len], fun a u q => by rw [upd_ne (ne_of_none q cp)]; exact E.cH _ _ q, fun a u q => by rw [upd_ne (ne_of_none q rp)]; exact E.rH _ _ q, E.rc, fun j z q => ?_, fun j w z q => ?_, fun j k w w' y' z q e1 e2 s1 s2 => ?_⟩
  · by_cases h : i = j
    · subst h; rw [List.getElem?_set_self hi] at q; cases q
    · rw [List.getElem?_set_ne h] at q; exact E.dat j z q
  · by_cases h : i = j
    · subst h; rw [List.getElem?_set_self hi] at q; cases q
      obtain ⟨p2, s2, h0, _⟩ := E.own i _ x e
      rw [s] at s2; cases s2
      exact ⟨p, s, h0, cp, rp, by rw [upd_same]; exact ow⟩
    · rw [List.getElem?_set_ne h] at q
      obtain ⟨q', h1, h0, h2, h3, h4⟩ := E.own j w z q
      have hq : q' ≠ p := fun hh => by subst hh; exact h (E.apart i j _ _ x z q' e q s h1)
      exact ⟨q', h1, h0, h2, h3, by rw [upd_ne hq]; exact h4⟩
  · have f1 : ∃ k'' y'', env[j]? = some (.o k'' y'') := by
      by_cases h : i = j
      · subst h; exact ⟨_, x, e⟩
      · rw [List.getElem?_set_ne h] at e1; exact ⟨_, _, e1⟩
    have f2 : ∃ k'' y'', env[k]? = some (.o k'' y'') := by
      by_cases h : i = k
      · subst h; exact ⟨_, x, e⟩
      · rw [List.getElem?_set_ne h] at e2; exact ⟨_, _, e2⟩
    obtain ⟨_, _, f1⟩ := f1
    obtain ⟨_, _, f2⟩ := f2
    exact E.apart j k _ _ _ _ q f1 f2 s1 s2
/-- an object that is owned by the environment's slot i is from now on known for ever -/
theorem EnvC.frz {x : PyData} {i : Nat} {k0 : Option Addr} (E : EnvC K R C env σ H) (e : env[i]? = some (.o k0 x)) : ∃ C', Ex C C' ∧ EnvC K R C' (env.set i (.d x)) σ H := by
  obtain ⟨p, s, _, cp, rp, ow⟩ := E.own i _ x e
  have hi : i < env.length := (List.getElem?_eq_some_iff.mp e).1
  cases ho : H p with
  | none => rw [ho] at ow; exact absurd rfl ow.there
  | some o =>
    rw [ho] at ow
    refine ⟨upd C p o, Ex.new cp, by simp [E.len], fun a u q => ?_, E.rH, fun a q => ?_, fun j z q => ?_, fun j w z q => ?_, fun j k w w' y' z q e1 e2 s1 s2 => ?_⟩
    · by_cases h : a = p
      · subst h; rw [upd_same] at q; cases q; exact ho
      · rw [upd_ne h] at q; exact E.cH _ _ q
    · have ha : a ≠ p := fun h => by subst h; exact q rp
      rw [upd_ne ha]; exact E.rc _ q
    · by_cases h : i = j
      · subst h; rw [List.getElem?_set_self hi] at q; cases q
        exact ⟨_, s, ow.frz cp⟩
      · rw [List.getElem?_set_ne h] at q
        obtain ⟨v, h1, h2⟩ := E.dat j z q
        exact ⟨v, h1, h2.mono (Ex.new cp)⟩
    · by_cases h : i = j
      · subst h; rw [List.getElem?_set_self hi] at q; cases q
      · rw [List.getElem?_set_ne h] at q
        obtain ⟨q', h1, h0, h2, h3, h4⟩ := E.own j w z q
        have hq : q' ≠ p := fun hh => by subst hh; exact h (E.apart i j _ _ x z q' e q s h1)
        exact ⟨q', h1, h0, by rw [upd_ne hq]; exact h2, h3, h4.mono (Ex.new cp)⟩
    · have h1 : i ≠ j := fun h => by subst h; rw [List.getElem?_set_self hi] at e1; cases e1
      have h2 : i ≠ k := fun h => by subst h; rw [List.getElem?_set_self hi] at e2; cases e2
      rw [List.getElem?_set_ne h1] at e1
      rw [List.getElem?_set_ne h2] at e2
      exact E.apart j k w w' y' z q e1 e2 s1 s2
end
end J
namespace J
open PySem L2 PySem.Spec PyProof.Rows

/-! ### where one stands -/
structure TC where
  P : Program
  w : World
  K : PySem.W.Frag
  mg : Str → Option Value
  base : Heap
  N : List Str
  sc : Scope
  fn : Str → Bool
  k : Nat
structure CT (X : Cx) (T : TC) : Prop where
  P : X.prog = T.P
  w : X.w = T.w
  K : X.K = T.K
  mg : X.mg = T.mg
  base : X.base = T.base
  N : X.N = T.N
  sc : X.env.scope = T.sc
  calm : X.calm = true
  room : Room T.k X.A
  fn : ∀ x, T.fn x = true → X.fn x = true
  xe : X.xe = fun _ _ => False
abbrev TC.blk (T : TC) (scope : Scope) : TC := { T with sc := relS scope T.sc, fn := fun x => scope.names.lookup x == some .cell }
theorem CT.blk {X : Cx} {T : TC} (h : CT X T) (scope : Scope) (s : Shared) (H : Hp) (C : Addr) (cl : List (Str × Addr)) (fp : List Addr) : CT (X.blk s H scope (compEnvC scope cl C X.env) fp) (T.blk scope) where
  P := h.P
  w := h.w
  K := h.K
  mg := h.mg
  base := h.base
  N := h.N
  sc := by show relS scope X.env.scope = relS scope T.sc; rw [h.sc]
  calm := h.calm
  room := h.room
  fn := fun x e => e
  xe := rfl
theorem CT.pass {X : Cx} {T : TC} (h : CT X T) : PassesOwn (model X.prog X.w) X.A X.env X.xe := by rw [h.xe]; exact PassesOwn.never

/-! ### readings of data -/
inductive Re where
  | d (x : PyData) | o (x : PyData) | b (x : PyData)
def Rr (K : PySem.W.Frag) (R C H : Hp) (env : Env') (σ : L2.St) (v : V) : Re → Prop
  | .d x => Rp K C v x
  | .o x => ∃ p, v = .ref p ∧ C p = none ∧ R p = none ∧ NotOwn env σ p ∧ Ow K C (H p) x
  | .b x => Rp K C v x ∨ ∃ (i : Nat) (k : Option Addr), env[i]? = some (.o k x) ∧ σ[i]? = some (some v)
def tJ (K : PySem.W.Frag) (env env' : Env') (r : Re) : TE := fun σ H Q => ∃ R C, EnvC K R C env σ H ∧ ∀ v C' H', Ex C C' → EnvC K R C' env' σ H' → Rr K R C' H' env' σ v r → Q v H'
/-- in env the expression e gives r, and leaves env' -/
def JE (T : TC) (e : Expr) (env env' : Env') (r : Re) : Prop := ∀ X, CT X T → PE X e (tJ X.K env env' r)
theorem _root_.L2.PE.wk {X : Cx} {e : Expr} {t t' : TE} (h : PE X e t) (hh : ∀ σ H Q, t' σ H Q → t σ H Q) : PE X e t' := ⟨fun pins s σ H Q I q => h.run pins s σ H Q I (hh σ H Q q)⟩
theorem _root_.L2.PT.wk {X : Cx} {e : Expr} {t t' : TT} (h : PT X e t) (hh : ∀ σ H Q, t' σ H Q → t σ H Q) : PT X e t' := ⟨fun pins s σ H Q I q => h.run pins s σ H Q I (hh σ H Q q)⟩
theorem _root_.L2.PW.wk {X : Cx} {e : Expr} {t t' : TT} (h : PW X e t) (hh : ∀ σ H Q, t' σ H Q → t σ H Q) : PW X e t' := ⟨fun wh pins s σ H Q I q => h.run wh pins s σ H Q I (hh σ H Q q)⟩
theorem _root_.L2.PA.wk {X : Cx} {e : List Expr} {t t' : TA} (h : PA X e t) (hh : ∀ σ H Q, t' σ H Q → t σ H Q) : PA X e t' := ⟨fun ps pins s σ H Q I q => h.run ps pins s σ H Q I (hh σ H Q q)⟩
theorem _root_.L2.PS.wk {X : Cx} {e : Stmt} {t t' : TS} (h : PS X e t) (hh : ∀ D σ H, t' D σ H → t D σ H) : PS X e t' := ⟨fun pins s σ H D I q => h.run pins s σ H D I (hh D σ H q)⟩
theorem _root_.L2.PSs.wk {X : Cx} {e : List Stmt} {t t' : TS} (h : PSs X e t) (hh : ∀ D σ H, t' D σ H → t D σ H) : PSs X e t' := ⟨fun pins s σ H D I q => h.run pins s σ H D I (hh D σ H q)⟩
theorem _root_.L2.PI.wk {X : Cx} {g e : Expr} {t t' : TI} (h : PI X g e t) (hh : ∀ σ H R, t' σ H R → t σ H R) : PI X g e t' := ⟨fun pins s σ H R I q => h.run pins s σ H R I (hh σ H R q)⟩
theorem _root_.L2.PG.wk {X : Cx} {g : Expr} {t t' : TG} (h : PG X g t) (hh : ∀ v σ H Q, t' v σ H Q → t v σ H Q) : PG X g t' := ⟨fun pins s σ H v u Q I r q => h.run pins s σ H v u Q I r (hh v σ H Q q)⟩

section
variable {T : TC} {a b e : Expr} {env e0 e1 e2 e3 : Env'} {pos : Pos} {x y : PyData}
theorem je_b (h : JE T e e0 e1 (.d x)) : JE T e e0 e1 (.b x) := fun X hX => (h X hX).wk fun σ H Q ⟨R, C, E, k⟩ => ⟨R, C, E, fun v C' H' c E' r => k v C' H' c E' (.inl r)⟩
/-- a temporary object is known for ever -/
theorem je_fz (h : JE T e e0 e1 (.o x)) : JE T e e0 e1 (.d x) := fun X hX => (h X hX).wk fun σ H Q ⟨R, C, E, k⟩ => ⟨R, C, E, fun v C' H' c E' ⟨p, ev, cp, rp, no, ow⟩ => by
  subst ev
  cases ho : H' p with
  | none => rw [ho] at ow; exact absurd rfl ow.there
  | some o =>
    rw [ho] at ow
    refine k _ (upd C' p o) H' (c.trans (Ex.new cp)) ⟨E'.len, fun a u q => ?_, E'.rH, fun a q => ?_, fun i z q => ?_, fun i w z q => ?_, E'.apart⟩ (ow.frz cp)
    · by_cases h : a = p
      · subst h; rw [upd_same] at q; cases q; exact ho
      · rw [upd_ne h] at q; exact E'.cH _ _ q
    · have ha : a ≠ p := fun h => by subst h; exact q rp
      rw [upd_ne ha]; exact E'.rc _ q
    · obtain ⟨v, h1, h2⟩ := E'.dat i z q
      exact ⟨v, h1, h2.mono (Ex.new cp)⟩
    · obtain ⟨q', h1, h0, h2, h3, h4⟩ := E'.own i w z q
      have hq : q' ≠ p := fun h => by subst h; exact no i w z q h1
      exact ⟨q', h1, h0, by rw [upd_ne hq]; exact h2, h3, h4.mono (Ex.new cp)⟩⟩
theorem je_fb (h : JE T e e0 e1 (.o x)) : JE T e e0 e1 (.b x) := je_b (je_fz h)
theorem je_le (l : Le e0 env) (h : JE T e e0 e1 (.d x)) : JE T e env e1 (.d x) := fun X hX => (h X hX).wk fun σ H Q ⟨R, C, E, k⟩ => ⟨R, C, E.le l, k⟩
theorem je_is {r r' : Re} (h : JE T e e0 e1 r) (q : r = r') : JE T e e0 e1 r' := q ▸ h

/-! ### names, constants -/
def visB (sc : Scope) (x : Str) : Bool := match sc.names.lookup x with
  | some .local => true | some .cell => true | some .free => true | _ => false
theorem vis_of {sc : Scope} {x : Str} (h : visB sc x = true) : Vis sc x := by
  unfold visB at h
  unfold Vis
  split at h <;> first | exact .inl (by assumption) | exact .inr (.inl (by assumption)) | exact .inr (.inr (by assumption)) | cases h
theorem je_var (i : Nat) {x : Str} {d : PyData} (hN : T.N[i]? = some x := by rfl) (hv : visB T.sc x = true := by rfl) (he : env[i]? = some (.d d) := by rfl) (hd : (x == ("__debug__" : Str)) = false := by decide) (hcd : (x == ("__classdict__" : Str)) = false := by decide) :
    JE T (.Name x pos) env env (.d d) := fun X hX => (pe_var (by rw [hX.N]; exact hN) (by rw [hX.sc]; exact vis_of hv) hd hcd).wk fun σ H Q ⟨R, C, E, k⟩ => by
  obtain ⟨v, h1, h2⟩ := E.dat i d he
  exact ⟨v, h1, k v C H (Ex.refl C) E h2⟩
theorem je_varB (i : Nat) {x : Str} {d : PyData} (hN : T.N[i]? = some x := by rfl) (hv : visB T.sc x = true := by rfl) {k0 : Option Addr} (he : env[i]? = some (.o k0 d) := by rfl) (hd : (x == ("__debug__" : Str)) = false := by decide) (hcd : (x == ("__classdict__" : Str)) = false := by decide) :
    JE T (.Name x pos) env env (.b d) := fun X hX => (pe_var (by rw [hX.N]; exact hN) (by rw [hX.sc]; exact vis_of hv) hd hcd).wk fun σ H Q ⟨R, C, E, k⟩ => by
  obtain ⟨p, h1, h0, h2, h3, h4⟩ := E.own i _ d he
  exact ⟨_, h1, k _ C H (Ex.refl C) E (.inr ⟨i, _, he, h1⟩)⟩
theorem je_int {i j} : JE T (.Constant (.int i) j pos) env env (.d (.int i)) := fun X hX => pe_int.wk fun σ H Q ⟨R, C, E, k⟩ => k _ C H (Ex.refl C) E (.int i)
theorem je_bl {i j} : JE T (.Constant (.bool i) j pos) env env (.d (.bool i)) := fun X hX => pe_bl.wk fun σ H Q ⟨R, C, E, k⟩ => k _ C H (Ex.refl C) E (.bl i)
theorem je_non {j} : JE T (.Constant .none j pos) env env (.d .none) := fun X hX => pe_non.wk fun σ H Q ⟨R, C, E, k⟩ => k _ C H (Ex.refl C) E .non
theorem je_str {i j} (h : sOk i := by exact ⟨by decide +kernel, by decide +kernel⟩) : JE T (.Constant (.str i) j pos) env env (.d (.str i)) := fun X hX => pe_str.wk fun σ H Q ⟨R, C, E, k⟩ => k _ C H (Ex.refl C) E (.str h)
def glB (sc : Scope) (x : Str) : Bool := match sc.names.lookup x with
  | some .globalImplicit => true | _ => false
theorem gl_of {X : Cx} (hX : CT X T) {x : Str} (h : glB T.sc x = true) : Gl X x := by
  unfold Gl Env.kindOf
  rw [hX.sc]
  unfold glB at h
  split at h <;> first | assumption | cases h
/-- a module's constant -/
theorem je_glob {x : Str} {d : PyData} {v : V} {u : Value} (hg : glB T.sc x = true) (hm : T.mg x = some u) (r : RelV v u) (hr : ∀ C, Rp T.K C v d) (hd : (x == ("__debug__" : Str)) = false := by decide) : JE T (.Name x pos) env env (.d d) :=
  fun X hX => (pe_glob (gl_of hX hg) (by rw [hX.mg]; exact hm) r hd).wk fun σ H Q ⟨R, C, E, k⟩ => k _ C H (Ex.refl C) E (by show Rp _ _ _ _; rw [hX.K]; exact hr C)

/-! ### what is read -/
variable {K : PySem.W.Frag} {R C H : Hp} {σ : L2.St} {v : V}
theorem rb_lst {ds : List PyData} (E : EnvC K R C env σ H) (h : Rr K R C H env σ v (.b (.list ds))) : ∃ p vs, v = .ref p ∧ H p = some (.lst vs) ∧ vs.length ≤ LN ∧ Rps K C vs ds := by
  rcases h with h | ⟨i, k, h1, h2⟩
  · cases h with
    | lst q l r => exact ⟨_, _, rfl, E.cH _ _ q, l, r⟩
  · obtain ⟨p, h3, _, _, _, vs, h4, l, h5⟩ := E.own i _ _ h1
    rw [h2] at h3; cases h3
    exact ⟨_, _, rfl, h4, l, h5⟩
theorem rb_tup {ds : List PyData} (E : EnvC K R C env σ H) (h : Rr K R C H env σ v (.b (.tuple ds))) : ∃ p vs, v = .ref p ∧ SqT K H p vs ∧ SqT K C p vs ∧ vs.length ≤ LN ∧ Rps K C vs ds := by
  rcases h with h | ⟨i, k, h1, h2⟩
  · cases h with
    | tup q l r => exact ⟨_, _, rfl, E.cH.t q, q, l, r⟩
  · obtain ⟨p, h3, _, _, _, h4⟩ := E.own i _ _ h1
    exact h4.elim
theorem rb_int {i : Int} (E : EnvC K R C env σ H) (h : Rr K R C H env σ v (.b (.int i))) : v = .int i := by
  rcases h with h | ⟨i, k, h1, h2⟩
  · cases h; rfl
  · obtain ⟨p, h3, _, _, _, h4⟩ := E.own i _ _ h1
    exact h4.elim
theorem rb_bl {i : Bool} (E : EnvC K R C env σ H) (h : Rr K R C H env σ v (.b (.bool i))) : v = .bl i := by
  rcases h with h | ⟨i, k, h1, h2⟩
  · cases h; rfl
  · obtain ⟨p, h3, _, _, _, h4⟩ := E.own i _ _ h1
    exact h4.elim
theorem rb_str {i : Str} (E : EnvC K R C env σ H) (h : Rr K R C H env σ v (.b (.str i))) : v = .str i := by
  rcases h with h | ⟨i, k, h1, h2⟩
  · cases h; rfl
  · obtain ⟨p, h3, _, _, _, h4⟩ := E.own i _ _ h1
    exact h4.elim
theorem rb_dict {es : List (PyData × PyData)} (E : EnvC K R C env σ H) (h : Rr K R C H env σ v (.b (.dict es))) : ∃ p, v = .ref p ∧ ((∃ kvs, H p = some (.dK kvs) ∧ kvs.length ≤ LN ∧ RpK K C kvs es) ∨ (∃ kvs, H p = some (.dT kvs) ∧ kvs.length ≤ LN ∧ RpT K C kvs es) ∨ ∃ ds, es = [(.none, .list ds)]) := by
  rcases h with h | ⟨i, k, h1, h2⟩
  · cases h with
    | scr q l r => exact ⟨_, rfl, .inr (.inr ⟨_, rfl⟩)⟩
    | dK q l r => exact ⟨_, rfl, .inl ⟨_, E.cH _ _ q, l, r⟩⟩
    | dT q l r => exact ⟨_, rfl, .inr (.inl ⟨_, E.cH _ _ q, l, r⟩)⟩
  · obtain ⟨p, h3, _, _, _, h4⟩ := E.own i _ _ h1
    rw [h2] at h3; cases h3
    rcases h4 with h4 | h4
    · exact ⟨_, rfl, .inl h4⟩
    · exact ⟨_, rfl, .inr (.inl h4)⟩
/-- readable in the whole heap -/
theorem rb_rp {d : PyData} (E : EnvC K R C env σ H) (h : Rr K R C H env σ v (.b d)) : Rp K H v d := by
  rcases h with h | ⟨i, k, h1, h2⟩
  · exact h.mono E.cH
  · obtain ⟨p, h3, _, _, _, h4⟩ := E.own i _ _ h1
    rw [h2] at h3; cases h3
    cases d with
    | list ds => obtain ⟨vs, e, l, r⟩ := h4; exact .lst e l (r.mono E.cH)
    | dict es =>
      rcases h4 with ⟨vs, e, l, r⟩ | ⟨vs, e, l, r⟩
      · exact .dK e l (r.mono E.cH)
      · exact .dT e l (r.mono E.cH)
    | _ => exact h4.elim

/-! ### operators -/
/-- what a two-place operation makes of data -/
def Op2 (T : TC) (r : PySem.W.Frag → R2) (x y : PyData) (z : Re) : Prop := ∀ R C H env σ u v Q, EnvC T.K R C env σ H → Rp T.K C u x → Rr T.K R C H env σ v (.b y) →
  (∀ w C' H', Ex C C' → EnvC T.K R C' env σ H' → Rr T.K R C' H' env σ w z → Q w H') → r T.K u v H Q
def Op2B (T : TC) (r : PySem.W.Frag → R2) (x y : PyData) (z : Re) : Prop := ∀ R C H env σ u v Q, EnvC T.K R C env σ H → Rr T.K R C H env σ u (.b x) → Rr T.K R C H env σ v (.b y) →
  (∀ w C' H', Ex C C' → EnvC T.K R C' env σ H' → Rr T.K R C' H' env σ w z → Q w H') → r T.K u v H Q
theorem Op2B.to {r : PySem.W.Frag → R2} {z : Re} (h : Op2B T r x y z) : Op2 T r x y z := fun R C H env σ u v Q E hu hv k => h R C H env σ u v Q E (.inl hu) hv k
/-- how the two operands come: the left one known for ever, or the right one leaves the environment -/
def JE2 (T : TC) (a b : Expr) (e0 e2 : Env') (x y : PyData) : Prop := (∃ e1, JE T a e0 e1 (.d x) ∧ JE T b e1 e2 (.b y)) ∨ (JE T a e0 e2 (.b x) ∧ JE T b e2 e2 (.b y))
theorem op2_run {X : Cx} (hX : CT X T) {r : PySem.W.Frag → R2} {z : Re} (h : JE2 T a b e0 e2 x y) (ho : Op2B T r x y z) :
    ∃ ta tb, PE X a ta ∧ PE X b tb ∧ ∀ σ H Q, tJ X.K e0 e2 z σ H Q → tOp (r X.K) ta tb σ H Q := by
  rcases h with ⟨e1, ha, hb⟩ | ⟨ha, hb⟩
  · refine ⟨_, _, ha X hX, hb X hX, fun σ H Q ⟨R, C, E, k⟩ => ?_⟩
    refine ⟨R, C, E, fun u C1 H1 c1 E1 r1 => ⟨R, C1, E1, fun v C2 H2 c2 E2 r2 => ?_⟩⟩
    rw [hX.K] at *
    exact ho R C2 H2 e2 σ u v Q E2 (.inl (r1.mono c2)) r2 fun w C3 H3 c3 E3 r3 => k w C3 H3 ((c1.trans c2).trans c3) E3 r3
  · refine ⟨_, _, ha X hX, hb X hX, fun σ H Q ⟨R, C, E, k⟩ => ?_⟩
    refine ⟨R, C, E, fun u C1 H1 c1 E1 r1 => ⟨R, C1, E1, fun v C2 H2 c2 E2 r2 => ?_⟩⟩
    rw [hX.K] at *
    refine ho R C2 H2 e2 σ u v Q E2 ?_ r2 fun w C3 H3 c3 E3 r3 => k w C3 H3 ((c1.trans c2).trans c3) E3 r3
    rcases r1 with r1 | r1
    · exact .inl (r1.mono c2)
    · exact .inr r1
theorem j2 (ha : JE T a e0 e1 (.d x)) (hb : JE T b e1 e2 (.b y)) : JE2 T a b e0 e2 x y := .inl ⟨e1, ha, hb⟩
theorem j2d (ha : JE T a e0 e1 (.d x)) (hb : JE T b e1 e2 (.d y)) : JE2 T a b e0 e2 x y := .inl ⟨e1, ha, je_b hb⟩
theorem j2b (ha : JE T a e0 e2 (.b x)) (hb : JE T b e2 e2 (.b y)) : JE2 T a b e0 e2 x y := .inr ⟨ha, hb⟩
theorem j2bd (ha : JE T a e0 e2 (.b x)) (hb : JE T b e2 e2 (.d y)) : JE2 T a b e0 e2 x y := .inr ⟨ha, je_b hb⟩
theorem je_bin {op : Operator} {r : PySem.W.Frag → R2} {z : Re} (hr : ∀ X, CT X T → OpR X (binaryOp op) (r X.K)) (h : JE2 T a b e0 e2 x y) (ho : Op2B T r x y z) : JE T (.BinOp a op b pos) e0 e2 z := fun X hX => by
  obtain ⟨ta, tb, pa, pb, k⟩ := op2_run hX h ho
  exact (pe_op (hr X hX) pa pb).wk k
theorem op2_I0 {g : Int → Int → Int} {i j : Int} : Op2B T (fun _ => rI0 fun i j => .int (g i j)) (.int i) (.int j) (.d (.int (g i j))) := fun R C H env σ u v Q E hu hv k =>
  ⟨i, j, rb_int E hu, rb_int E hv, k _ C H (Ex.refl C) E (.int _)⟩
theorem op2_I {P : Int → Int → Prop} {g : Int → Int → Int} {i j : Int} (h : P i j) : Op2B T (fun _ => rI P fun i j => .int (g i j)) (.int i) (.int j) (.d (.int (g i j))) := fun R C H env σ u v Q E hu hv k =>
  ⟨i, j, rb_int E hu, rb_int E hv, h, k _ C H (Ex.refl C) E (.int _)⟩
theorem op2_B0 {g : Int → Int → Bool} {i j : Int} : Op2B T (fun _ => rI0 fun i j => .bl (g i j)) (.int i) (.int j) (.d (.bool (g i j))) := fun R C H env σ u v Q E hu hv k =>
  ⟨i, j, rb_int E hu, rb_int E hv, k _ C H (Ex.refl C) E (.bl _)⟩
theorem je_add {i j : Int} (h : JE2 T a b e0 e2 (.int i) (.int j)) : JE T (.BinOp a .Add b pos) e0 e2 (.d (.int (i + j))) := je_bin (fun X _ => op_add) h op2_I0
theorem je_sub {i j : Int} (h : JE2 T a b e0 e2 (.int i) (.int j)) : JE T (.BinOp a .Sub b pos) e0 e2 (.d (.int (i - j))) := je_bin (fun X _ => op_sub) h op2_I0
theorem je_mul {i j : Int} (h : JE2 T a b e0 e2 (.int i) (.int j)) (hc : CMul i j) : JE T (.BinOp a .Mult b pos) e0 e2 (.d (.int (i * j))) := je_bin (fun X _ => op_mul) h (op2_I hc)
theorem je_fdiv {i j : Int} (h : JE2 T a b e0 e2 (.int i) (.int j)) (hc : CDivN i j) : JE T (.BinOp a .FloorDiv b pos) e0 e2 (.d (.int (i.fdiv j))) := je_bin (fun X _ => op_fdivN) h (op2_I hc)
theorem je_mod {i j : Int} (h : JE2 T a b e0 e2 (.int i) (.int j)) (hc : j ≠ 0) : JE T (.BinOp a .Mod b pos) e0 e2 (.d (.int (i.fmod j))) := je_bin (fun X _ => op_modN) h (op2_I hc)
theorem je_pow {i j : Int} (h : JE2 T a b e0 e2 (.int i) (.int j)) (hc : CPow i j) : JE T (.BinOp a .Pow b pos) e0 e2 (.d (.int (i ^ j.toNat))) := je_bin (r := fun _ => rI CPow fun i j => .int (i ^ j.toNat)) (fun X _ => op_pow) h (op2_I (g := fun i j => i ^ j.toNat) hc)
theorem je_neg {i : Int} (ha : JE T a e0 e1 (.d (.int i))) : JE T (.UnaryOp .USub a pos) e0 e1 (.d (.int (-i))) := fun X hX => (pe_un un_neg (ha X hX)).wk fun σ H Q ⟨R, C, E, k⟩ =>
  ⟨R, C, E, fun v C' H' c E' r => by cases r; exact ⟨i, rfl, k _ C' H' c E' (.int _)⟩⟩
/-- a new object of the whole -/
theorem EnvC.freshO {ds : List PyData} {vs : List V} {p : Addr} (E : EnvC K R C env σ H) (hp : H p = none) (l : vs.length ≤ LN) (r : Rps K C vs ds) : EnvC K R C env σ (upd H p (.lst vs)) ∧ Rr K R C (upd H p (.lst vs)) env σ (.ref p) (.o (.list ds)) :=
  ⟨E.newO hp, p, rfl, E.cN hp, E.rN hp, E.notOwn hp, vs, by rw [upd_same], l, r⟩
theorem EnvC.freshT {ds : List PyData} {vs : List V} {p : Addr} (E : EnvC K R C env σ H) (hp : H p = none) (l : vs.length ≤ LN) (r : Rps K C vs ds) : Ex C (upd C p (.tup vs)) ∧ EnvC K R (upd C p (.tup vs)) env σ (upd H p (.tup vs)) ∧ Rr K R (upd C p (.tup vs)) (upd H p (.tup vs)) env σ (.ref p) (.d (.tuple ds)) :=
  ⟨Ex.new (E.cN hp), E.new hp, .tup (.inl (.inl upd_same)) l (r.mono (Ex.new (E.cN hp)))⟩
theorem je_catL {xs ys : List PyData} (h : JE2 T a b e0 e2 (.list xs) (.list ys)) (hl : xs.length + ys.length ≤ 16777216) : JE T (.BinOp a .Add b pos) e0 e2 (.o (.list (xs ++ ys))) :=
  je_bin (r := fun _ => rCat) (fun X _ => op_cat) h fun R C H env σ u v Q E hu hv k => by
    obtain ⟨p, vs, rfl, h1, l1, r1⟩ := rb_lst E hu
    obtain ⟨q, ws, rfl, h2, l2, r2⟩ := rb_lst E hv
    refine ⟨p, q, vs, ws, rfl, rfl, h1, h2, by rw [sizeLine_eq, r1.len, r2.len]; exact hl, fun t ht => ?_⟩
    obtain ⟨E', r⟩ := E.freshO ht (by rw [List.length_append, r1.len, r2.len]; exact hl) (r1.append r2)
    exact k _ C _ (Ex.refl C) E' r
theorem je_catT {xs ys : List PyData} (h : JE2 T a b e0 e2 (.tuple xs) (.tuple ys)) (hl : xs.length + ys.length ≤ 16777216) : JE T (.BinOp a .Add b pos) e0 e2 (.d (.tuple (xs ++ ys))) :=
  je_bin (r := rCatA) (fun X _ => op_catA) h fun R C H env σ u v Q E hu hv k => by
    obtain ⟨p, vs, rfl, h1, c1, l1, r1⟩ := rb_tup E hu
    obtain ⟨q, ws, rfl, h2, c2, l2, r2⟩ := rb_tup E hv
    refine ⟨p, q, vs, ws, rfl, rfl, h1, h2, by rw [sizeLine_eq, r1.len, r2.len]; exact hl, fun e => ?_, fun _ e => ?_, fun _ _ t ht => ?_⟩
    · subst e; cases r1; exact k _ C H (Ex.refl C) E (.tup c2 l2 r2)
    · subst e; cases r2; rw [List.append_nil] at k; exact k _ C H (Ex.refl C) E (.tup c1 l1 r1)
    · obtain ⟨c, E', r⟩ := E.freshT ht (by rw [List.length_append, r1.len, r2.len]; exact hl) (r1.append r2)
      exact k _ _ _ c E' r
/-! ### comparisons -/
/-- a comparison of two expressions gives c -/
def CJ (T : TC) (op : CmpOp) (a b : Expr) (e0 e2 : Env') (c : Bool) : Prop := ∀ X, CT X T → ∃ r ta tb, OpR X (compareOp op) r ∧ PE X a ta ∧ PE X b tb ∧ behindInMarks op b = false ∧ ∀ σ H Q, tJ X.K e0 e2 (.d (.bool c)) σ H Q → tOp r ta tb σ H Q
theorem cj_mk {op : CmpOp} {r : PySem.W.Frag → R2} {c : Bool} (hr : ∀ X, CT X T → OpR X (compareOp op) (r X.K)) (h : JE2 T a b e0 e2 x y) (ho : Op2B T r x y (.d (.bool c))) (hm : behindInMarks op b = false := by first | exact nomark _ | rfl) : CJ T op a b e0 e2 c := fun X hX => by
  obtain ⟨ta, tb, pa, pb, k⟩ := op2_run hX h ho
  exact ⟨_, ta, tb, hr X hX, pa, pb, hm, k⟩
theorem je_c {op : CmpOp} {c : Bool} (h : CJ T op a b e0 e2 c) : JE T (.Compare a [op] [b] pos) e0 e2 (.d (.bool c)) := fun X hX => by
  obtain ⟨r, ta, tb, hr, pa, pb, hm, k⟩ := h X hX
  exact (pe_cmpR hr pa pb hm).wk k
/-- the expression as a test comes out as c -/
def tTJ (K : PySem.W.Frag) (env env' : Env') (c : Bool) : TT := fun σ H Q => ∃ R C, EnvC K R C env σ H ∧ ∀ C' H', Ex C C' → EnvC K R C' env' σ H' → Q c H'
def JT (T : TC) (e : Expr) (env env' : Env') (c : Bool) : Prop := ∀ X, CT X T → PT X e (tTJ X.K env env' c)
theorem jt_c {op : CmpOp} {c : Bool} (h : CJ T op a b e0 e2 c) : JT T (.Compare a [op] [b] pos) e0 e2 c := fun X hX => by
  obtain ⟨r, ta, tb, hr, pa, pb, hm, k⟩ := h X hX
  refine (pt_cmpR hr pa pb hm).wk fun σ H Q ⟨R, C, E, q⟩ => ?_
  exact k σ H _ ⟨R, C, E, fun v C' H' c' E' r => by cases r; exact ⟨c, rfl, q C' H' c' E'⟩⟩
theorem cj_lt {i j : Int} (h : JE2 T a b e0 e2 (.int i) (.int j)) : CJ T .Lt a b e0 e2 (decide (i < j)) := cj_mk (fun X _ => op_lt) h (op2_B0 (g := fun i j => decide (i < j)))
theorem cj_le {i j : Int} (h : JE2 T a b e0 e2 (.int i) (.int j)) : CJ T .LtE a b e0 e2 (decide (i ≤ j)) := cj_mk (fun X _ => op_le) h (op2_B0 (g := fun i j => decide (i ≤ j)))
theorem cj_gt {i j : Int} (h : JE2 T a b e0 e2 (.int i) (.int j)) : CJ T .Gt a b e0 e2 (decide (j < i)) := cj_mk (fun X _ => op_gt) h (op2_B0 (g := fun i j => decide (j < i)))
theorem cj_ge {i j : Int} (h : JE2 T a b e0 e2 (.int i) (.int j)) : CJ T .GtE a b e0 e2 (decide (j ≤ i)) := cj_mk (fun X _ => op_ge) h (op2_B0 (g := fun i j => decide (j ≤ i)))
/-- the left one, then the right one, of any data without dicts -/
theorem cj_eqD (h : JE2 T a b e0 e2 x y) (sx : shN 64 x = true := by simp [shN]) (sy : shN 64 y = true := by simp [shN]) : CJ T .Eq a b e0 e2 (PyData.eqv x y) :=
  cj_mk (r := rEqD) (fun X hX => op_eqD hX.room.units) h fun R C H env σ u v Q E hu hv k =>
    ⟨x, y, (rb_rp E hu).dp' sx, (rb_rp E hv).dp' sy, (rb_rp E hu).shaped sx, (rb_rp E hv).shaped sy, k _ C H (Ex.refl C) E (.bl _)⟩
theorem cj_neD (h : JE2 T a b e0 e2 x y) (sx : shN 64 x = true := by simp [shN]) (sy : shN 64 y = true := by simp [shN]) : CJ T .NotEq a b e0 e2 (!PyData.eqv x y) :=
  cj_mk (r := rNeD) (fun X hX => op_neD hX.room.units) h fun R C H env σ u v Q E hu hv k =>
    ⟨x, y, (rb_rp E hu).dp' sx, (rb_rp E hv).dp' sy, (rb_rp E hu).shaped sx, (rb_rp E hv).shaped sy, k _ C H (Ex.refl C) E (.bl _)⟩
theorem cj_eqI {i j : Int} (h : JE2 T a b e0 e2 (.int i) (.int j)) : CJ T .Eq a b e0 e2 (decide (i = j)) :=
  cj_mk (r := fun _ => rEq) (fun X hX => op_eq) h fun R C H env σ u v Q E hu hv k => by
    have e1 := rb_int E hu; have e2 := rb_int E hv
    subst e1; subst e2
    exact ⟨rfl, k _ C H (Ex.refl C) E (by
      have : decide (V.int i = V.int j) = decide (i = j) := by simp
      rw [this]; exact .bl _)⟩
theorem cj_neI {i j : Int} (h : JE2 T a b e0 e2 (.int i) (.int j)) : CJ T .NotEq a b e0 e2 (!decide (i = j)) :=
  cj_mk (r := fun _ => rNe) (fun X hX => op_ne) h fun R C H env σ u v Q E hu hv k => by
    have e1 := rb_int E hu; have e2 := rb_int E hv
    subst e1; subst e2
    exact ⟨rfl, k _ C H (Ex.refl C) E (by
      have : decide (V.int i = V.int j) = decide (i = j) := by simp
      rw [this]; exact .bl _)⟩
theorem cj_eqS {i j : Str} (h : JE2 T a b e0 e2 (.str i) (.str j)) : CJ T .Eq a b e0 e2 (decide (i = j)) :=
  cj_mk (r := fun _ => rEq) (fun X hX => op_eq) h fun R C H env σ u v Q E hu hv k => by
    have e1 := rb_str E hu; have e2 := rb_str E hv
    subst e1; subst e2
    exact ⟨rfl, k _ C H (Ex.refl C) E (by
      have : decide (V.str i = V.str j) = decide (i = j) := by simp
      rw [this]; exact .bl _)⟩
theorem cj_neS {i j : Str} (h : JE2 T a b e0 e2 (.str i) (.str j)) : CJ T .NotEq a b e0 e2 (!decide (i = j)) :=
  cj_mk (r := fun _ => rNe) (fun X hX => op_ne) h fun R C H env σ u v Q E hu hv k => by
    have e1 := rb_str E hu; have e2 := rb_str E hv
    subst e1; subst e2
    exact ⟨rfl, k _ C H (Ex.refl C) E (by
      have : decide (V.str i = V.str j) = decide (i = j) := by simp
      rw [this]; exact .bl _)⟩
theorem cj_eqB {i j : Bool} (h : JE2 T a b e0 e2 (.bool i) (.bool j)) : CJ T .Eq a b e0 e2 (decide (i = j)) :=
  cj_mk (r := fun _ => rEq) (fun X hX => op_eq) h fun R C H env σ u v Q E hu hv k => by
    have e1 := rb_bl E hu; have e2 := rb_bl E hv
    subst e1; subst e2
    exact ⟨rfl, k _ C H (Ex.refl C) E (by
      have : decide (V.bl i = V.bl j) = decide (i = j) := by simp
      rw [this]; exact .bl _)⟩
theorem cj_neB {i j : Bool} (h : JE2 T a b e0 e2 (.bool i) (.bool j)) : CJ T .NotEq a b e0 e2 (!decide (i = j)) :=
  cj_mk (r := fun _ => rNe) (fun X hX => op_ne) h fun R C H env σ u v Q E hu hv k => by
    have e1 := rb_bl E hu; have e2 := rb_bl E hv
    subst e1; subst e2
    exact ⟨rfl, k _ C H (Ex.refl C) E (by
      have : decide (V.bl i = V.bl j) = decide (i = j) := by simp
      rw [this]; exact .bl _)⟩
def isNoneD : PyData → Bool
  | .none => true
  | _ => false
theorem rp_non {x : PyData} {v : V} (h : Rp K C v x) : decide (v = .non) = isNoneD x := by
  cases h <;> simp [isNoneD]
theorem je_isN {j pos'} (ha : JE T a e0 e1 (.b x)) : JE T (.Compare a [.Is] [.Constant .none j pos'] pos) e0 e1 (.d (.bool (isNoneD x))) := fun X hX => (pe_cmp (pc_isN (ha X hX)) rfl).wk fun σ H Q ⟨R, C, E, k⟩ =>
  ⟨R, C, E, fun v C' H' c E' r => by
    show Q (V.bl (decide (v = V.non))) H'
    rw [rp_non (rb_rp E' r)]
    exact k _ C' H' c E' (.bl _)⟩
theorem je_notN {j pos'} (ha : JE T a e0 e1 (.b x)) : JE T (.Compare a [.IsNot] [.Constant .none j pos'] pos) e0 e1 (.d (.bool (!isNoneD x))) := fun X hX => (pe_cmp (pc_notN (ha X hX)) rfl).wk fun σ H Q ⟨R, C, E, k⟩ =>
  ⟨R, C, E, fun v C' H' c E' r => by
    show Q (V.bl (!decide (v = V.non))) H'
    rw [rp_non (rb_rp E' r)]
    exact k _ C' H' c E' (.bl _)⟩
/-- x in a list -/
theorem cj_inL {ys : List PyData} (h : JE2 T a b e0 e2 x (.list ys)) (sx : shN 64 x = true := by simp [shN]) (sy : shN 64 (.list ys) = true := by simp [shN]) (hm : behindInMarks .In b = false := by rfl) : CJ T .In a b e0 e2 (ys.any fun z => PyData.eqv z x) :=
  cj_mk (r := rInD) (fun X hX => op_inD (by have := hX.room.un; omega)) h (fun R C H env σ u v Q E hu hv k =>
    ⟨x, ys, (rb_rp E hu).dp' sx, (rb_rp E hv).dp' sy, (rb_rp E hu).shaped sx, (rb_rp E hv).shaped sy, k _ C H (Ex.refl C) E (.bl _)⟩) hm
theorem cj_notInL {ys : List PyData} (h : JE2 T a b e0 e2 x (.list ys)) (sx : shN 64 x = true := by simp [shN]) (sy : shN 64 (.list ys) = true := by simp [shN]) (hm : behindInMarks .NotIn b = false := by rfl) : CJ T .NotIn a b e0 e2 (!ys.any fun z => PyData.eqv z x) :=
  cj_mk (r := rNotInD) (fun X hX => op_notInD (by have := hX.room.un; omega)) h (fun R C H env σ u v Q E hu hv k =>
    ⟨x, ys, (rb_rp E hu).dp' sx, (rb_rp E hv).dp' sy, (rb_rp E hu).shaped sx, (rb_rp E hv).shaped sy, k _ C H (Ex.refl C) E (.bl _)⟩) hm
/-- flat things: None, bools, ints, texts -/
def flatD : PyData → Bool
  | .none => true | .bool _ => true | .int _ => true | .str _ => true | _ => false
theorem rp_flat {x : PyData} {v : V} (h : Rp K C v x) (f : flatD x = true) : flatV v = true := by
  cases h <;> first | rfl | cases f
theorem rps_flat : ∀ {xs : List PyData} {vs : List V}, Rps K C vs xs → xs.all flatD = true → vs.all flatV = true
  | _, _, .nil, _ => rfl
  | _, _, .cons h r, f => by
    rw [List.all_cons, Bool.and_eq_true] at f ⊢
    exact ⟨rp_flat h f.1, rps_flat r f.2⟩
theorem eqv_flat {x y : PyData} {u v : V} (h : Rp K C u x) (h' : Rp K C v y) (f : flatD x = true) (f' : flatD y = true) : eqV u v = PyData.eqv x y := by
  cases h <;> cases h' <;> first | rfl | (simp [eqV, PyData.eqv]; done) | cases f | cases f'
theorem any_flat {y : PyData} {v : V} (h' : Rp K C v y) (f' : flatD y = true) : ∀ {xs : List PyData} {vs : List V}, Rps K C vs xs → xs.all flatD = true → inV v vs = xs.any fun z => PyData.eqv z y
  | _, _, .nil, _ => rfl
  | _, _, .cons h r, f => by
    rw [List.all_cons, Bool.and_eq_true] at f
    have ih := any_flat h' f' r f.2
    unfold inV at ih ⊢
    rw [List.any_cons, List.any_cons, ih, eqv_flat h h' f.1 f']
theorem cj_inT {ys : List PyData} (h : JE2 T a b e0 e2 x (.tuple ys)) (fx : flatD x = true := by rfl) (fy : ys.all flatD = true := by simp [flatD]) (hm : behindInMarks .In b = false := by rfl) : CJ T .In a b e0 e2 (ys.any fun z => PyData.eqv z x) :=
  cj_mk (r := fun K => rIn K false) (fun X hX => op_in_seq) h (fun R C H env σ u v Q E hu hv k => by
    obtain ⟨p, vs, rfl, h1, c1, l1, r1⟩ := rb_tup E hv
    have hu' := rb_rp E hu
    refine ⟨p, vs, rfl, .inr h1, rp_flat hu' fx, rps_flat r1 fy, ?_⟩
    rw [any_flat hu' fx (r1.mono E.cH) fy]
    exact k _ C H (Ex.refl C) E (.bl _)) hm
theorem cj_notInT {ys : List PyData} (h : JE2 T a b e0 e2 x (.tuple ys)) (fx : flatD x = true := by rfl) (fy : ys.all flatD = true := by simp [flatD]) (hm : behindInMarks .NotIn b = false := by rfl) : CJ T .NotIn a b e0 e2 (!ys.any fun z => PyData.eqv z x) :=
  cj_mk (r := fun K => rIn K true) (fun X hX => op_notIn_seq) h (fun R C H env σ u v Q E hu hv k => by
    obtain ⟨p, vs, rfl, h1, c1, l1, r1⟩ := rb_tup E hv
    have hu' := rb_rp E hu
    refine ⟨p, vs, rfl, .inr h1, rp_flat hu' fx, rps_flat r1 fy, ?_⟩
    rw [any_flat hu' fx (r1.mono E.cH) fy]
    exact k _ C H (Ex.refl C) E (.bl _)) hm
end
end J
namespace J
open PySem L2 PySem.Spec PyProof.Rows
section
variable {T : TC} {a b e : Expr} {es : List Expr} {env e0 e1 e2 e3 : Env'} {pos p : Pos} {x y z : PyData} {ds : List PyData} {K : PySem.W.Frag} {R C H : Hp} {σ : L2.St} {v : V}

/-! ### tests -/
theorem jt_v {c : Bool} (h : JE T e e0 e1 (.d (.bool c))) (he : ∀ (v : Env) whole, isTrue e v whole = (do let v ← whole; standAt e.pos; holding [v] (truthy v)) := by intro _ _; rfl) : JT T e e0 e1 c := fun X hX =>
  (pt_val (h X hX) (he X.env)).wk fun σ H Q ⟨R, C, E, k⟩ => ⟨R, C, E, fun v C' H' c' E' r => by cases r; exact ⟨c, rfl, k C' H' c' E'⟩⟩
/-- a datum's truth -/
def truD : PyData → Bool
  | .none => false
  | .bool b => b
  | .int i => i != 0
  | .str s => (s.length : Int) != 0
  | .list xs => !xs.isEmpty
  | .tuple xs => !xs.isEmpty
  | .dict _ => false
def noDict : PyData → Bool
  | .dict _ => false
  | _ => true
theorem rps_empty {xs : List PyData} {vs : List V} (h : Rps K C vs xs) : vs.isEmpty = xs.isEmpty := by cases h <;> rfl
theorem tru_rp {d : PyData} {v : V} (h : Rp K H v d) (hn : noDict d = true) : TruV K v H (truD d) := by
  cases h with
  | non => rfl
  | bl b => rfl
  | int i => rfl
  | str h => exact ⟨lnS h.2, rfl⟩
  | lst h l r => exact .inl ⟨_, SqL.of h, by rw [rps_empty r]; rfl⟩
  | tup h l r => exact .inr (.inl ⟨_, h, by rw [rps_empty r]; rfl⟩)
  | scr h l r => cases hn
  | dK h l r => cases hn
  | dT h l r => cases hn
theorem jt_t (h : JE T e e0 e1 (.b x)) (hn : noDict x = true := by rfl) (he : ∀ (v : Env) whole, isTrue e v whole = (do let v ← whole; standAt e.pos; holding [v] (truthy v)) := by intro _ _; rfl) : JT T e e0 e1 (truD x) := fun X hX =>
  (pt_truth (h X hX) (he X.env)).wk fun σ H Q ⟨R, C, E, k⟩ => ⟨R, C, E, fun v C' H' c' E' r => ⟨truD x, tru_rp (rb_rp E' r) hn, k C' H' c' E'⟩⟩
theorem jt_isN {j pos'} (ha : JE T a e0 e1 (.b x)) : JT T (.Compare a [.Is] [.Constant .none j pos'] pos) e0 e1 (isNoneD x) := fun X hX => (pt_cmp (pc_isN (ha X hX)) rfl).wk fun σ H Q ⟨R, C, E, k⟩ =>
  ⟨R, C, E, fun v C' H' c E' r => ⟨isNoneD x, by rw [rp_non (rb_rp E' r)], k C' H' c E'⟩⟩
theorem jt_notN {j pos'} (ha : JE T a e0 e1 (.b x)) : JT T (.Compare a [.IsNot] [.Constant .none j pos'] pos) e0 e1 (!isNoneD x) := fun X hX => (pt_cmp (pc_notN (ha X hX)) rfl).wk fun σ H Q ⟨R, C, E, k⟩ =>
  ⟨R, C, E, fun v C' H' c E' r => ⟨!isNoneD x, by rw [rp_non (rb_rp E' r)], k C' H' c E'⟩⟩
theorem jt_not {c : Bool} (h : JT T a e0 e1 c) : JT T (.UnaryOp .Not a pos) e0 e1 (!c) := fun X hX => (pt_not (h X hX)).wk fun σ H Q ⟨R, C, E, k⟩ => ⟨R, C, E, k⟩
/-- a chain of and, or -/
def JW (T : TC) (e : Expr) (env env' : Env') (c : Bool) : Prop := ∀ X, CT X T → PW X e (tTJ X.K env env' c)
theorem jt_w {c : Bool} (h : JW T e e0 e1 c) : JT T e e0 e1 c := fun X hX => (h X hX).pt
theorem jw_and1 {c : Bool} (h : JT T a e0 e1 c) : JW T (.BoolOp .And [a] pos) e0 e1 c := fun X hX => pw_and1 (h X hX)
theorem jw_or1 {c : Bool} (h : JT T a e0 e1 c) : JW T (.BoolOp .Or [a] pos) e0 e1 c := fun X hX => pw_or1 (h X hX)
theorem pw_dead {X : Cx} {e : Expr} : PW X e (fun _ _ _ => False) := ⟨fun _ _ _ _ _ _ _ h => h.elim⟩
theorem jw_and {c c' : Bool} {rest : List Expr} (h : JT T a e0 e1 c) (h' : c = true → JW T (.BoolOp .And (b :: rest) pos) e1 e1 c') : JW T (.BoolOp .And (a :: b :: rest) pos) e0 e1 (c && c') := fun X hX => by
  cases c with
  | true => exact (pw_and (h X hX) (h' rfl X hX)).wk fun σ H Q ⟨R, C, E, k⟩ => ⟨R, C, E, fun C' H' c1 E' => by
      show tTJ X.K e1 e1 c' σ H' Q
      exact ⟨R, C', E', fun C2 H2 c2 E2 => k C2 H2 (c1.trans c2) E2⟩⟩
  | false => exact (pw_and (h X hX) pw_dead).wk fun σ H Q ⟨R, C, E, k⟩ => ⟨R, C, E, fun C' H' c1 E' => k C' H' c1 E'⟩
theorem jw_or {c c' : Bool} {rest : List Expr} (h : JT T a e0 e1 c) (h' : c = false → JW T (.BoolOp .Or (b :: rest) pos) e1 e1 c') : JW T (.BoolOp .Or (a :: b :: rest) pos) e0 e1 (c || c') := fun X hX => by
  cases c with
  | false => exact (pw_or (h X hX) (h' rfl X hX)).wk fun σ H Q ⟨R, C, E, k⟩ => ⟨R, C, E, fun C' H' c1 E' => by
      show tTJ X.K e1 e1 c' σ H' Q
      exact ⟨R, C', E', fun C2 H2 c2 E2 => k C2 H2 (c1.trans c2) E2⟩⟩
  | true => exact (pw_or (h X hX) pw_dead).wk fun σ H Q ⟨R, C, E, k⟩ => ⟨R, C, E, fun C' H' c1 E' => k C' H' c1 E'⟩
theorem je_one {op} {r : Re} (h : JE T a e0 e1 r) : JE T (.BoolOp op [a] pos) e0 e1 r := fun X hX => pe_one (h X hX)
theorem pe_dead {X : Cx} {e : Expr} : PE X e (fun _ _ _ => False) := ⟨fun _ _ _ _ _ _ h => h.elim⟩
theorem je_and {c c' : Bool} {rest : List Expr} (h : JE T a e0 e1 (.d (.bool c))) (h' : c = true → JE T (.BoolOp .And (b :: rest) pos) e1 e1 (.d (.bool c'))) : JE T (.BoolOp .And (a :: b :: rest) pos) e0 e1 (.d (.bool (c && c'))) := fun X hX => by
  cases c with
  | true => exact (pe_and (h X hX) (h' rfl X hX)).wk fun σ H Q ⟨R, C, E, k⟩ => ⟨R, C, E, fun v C' H' c1 E' r => by
      cases r
      exact ⟨true, rfl, R, C', E', fun v C2 H2 c2 E2 r2 => k v C2 H2 (c1.trans c2) E2 r2⟩⟩
  | false => exact (pe_and (h X hX) pe_dead).wk fun σ H Q ⟨R, C, E, k⟩ => ⟨R, C, E, fun v C' H' c1 E' r => by
      cases r
      exact ⟨false, rfl, k _ C' H' c1 E' (.bl false)⟩⟩
theorem je_or {c c' : Bool} {rest : List Expr} (h : JE T a e0 e1 (.d (.bool c))) (h' : c = false → JE T (.BoolOp .Or (b :: rest) pos) e1 e1 (.d (.bool c'))) : JE T (.BoolOp .Or (a :: b :: rest) pos) e0 e1 (.d (.bool (c || c'))) := fun X hX => by
  cases c with
  | false => exact (pe_or (h X hX) (h' rfl X hX)).wk fun σ H Q ⟨R, C, E, k⟩ => ⟨R, C, E, fun v C' H' c1 E' r => by
      cases r
      exact ⟨false, rfl, R, C', E', fun v C2 H2 c2 E2 r2 => k v C2 H2 (c1.trans c2) E2 r2⟩⟩
  | true => exact (pe_or (h X hX) pe_dead).wk fun σ H Q ⟨R, C, E, k⟩ => ⟨R, C, E, fun v C' H' c1 E' r => by
      cases r
      exact ⟨true, rfl, k _ C' H' c1 E' (.bl true)⟩⟩
theorem je_not {c : Bool} (h : JE T a e0 e1 (.d (.bool c))) : JE T (.UnaryOp .Not a pos) e0 e1 (.d (.bool (!c))) := fun X hX =>
  (pe_not (h X hX)).wk fun σ H Q ⟨R, C, E, k⟩ => ⟨R, C, E, fun v C' H' c1 E' r => by cases r; exact ⟨c, rfl, k _ C' H' c1 E' (.bl _)⟩⟩
/-- a if t else b -/
theorem je_if {t : Expr} {c : Bool} {f : Bool → Re} (ht : JT T t e0 e1 c) (ha : c = true → JE T a e1 e2 (f true)) (hb : c = false → JE T b e1 e2 (f false)) : JE T (.IfExp t a b pos) e0 e2 (f c) := fun X hX => by
  cases c with
  | true => exact (pe_ifExp (ht X hX) (ha rfl X hX) pe_dead).wk fun σ H Q ⟨R, C, E, k⟩ => ⟨R, C, E, fun C' H' c1 E' => ⟨R, C', E', fun v C2 H2 c2 E2 r2 => k v C2 H2 (c1.trans c2) E2 r2⟩⟩
  | false => exact (pe_ifExp (ht X hX) pe_dead (hb rfl X hX)).wk fun σ H Q ⟨R, C, E, k⟩ => ⟨R, C, E, fun C' H' c1 E' => ⟨R, C', E', fun v C2 H2 c2 E2 r2 => k v C2 H2 (c1.trans c2) E2 r2⟩⟩
/-- .. with the data of one kind -/
theorem je_ifc {α : Type} (enc : α → PyData) {t : Expr} {c : Bool} {u w : α} (ht : JT T t e0 e1 c) (ha : c = true → JE T a e1 e2 (.d (enc u))) (hb : c = false → JE T b e1 e2 (.d (enc w))) : JE T (.IfExp t a b pos) e0 e2 (.d (enc (if c = true then u else w))) := by
  refine je_is (je_if (f := fun c => .d (enc (if c = true then u else w))) ht (fun h => by simpa using ha h) (fun h => by simpa using hb h)) rfl
/-- .. that may change the environment -/
theorem je_ifs {α : Type} (enc : α → PyData) (Ev : α → Env') {t : Expr} {c : Bool} {u w : α} (ht : JT T t e0 e1 c) (ha : c = true → JE T a e1 (Ev u) (.d (enc u))) (hb : c = false → JE T b e1 (Ev w) (.d (enc w))) : JE T (.IfExp t a b pos) e0 (Ev (if c = true then u else w)) (.d (enc (if c = true then u else w))) := by
  cases c with
  | true => exact je_if (f := fun c => .d (enc (if c = true then u else w))) ht (fun h => ha h) (fun h => by cases h)
  | false => exact je_if (f := fun c => .d (enc (if c = true then u else w))) ht (fun h => by cases h) (fun h => hb h)

/-! ### arguments, displays -/
def tAJ (K : PySem.W.Frag) (env env' : Env') (ds : List PyData) : TA := fun σ H Q => ∃ R C, EnvC K R C env σ H ∧ ∀ vs C' H', Ex C C' → EnvC K R C' env' σ H' → Rps K C' vs ds → Q vs H'
def JA (T : TC) (es : List Expr) (env env' : Env') (ds : List PyData) : Prop := ∀ X, CT X T → PA X es (tAJ X.K env env' ds)
theorem ja_nil : JA T [] env env [] := fun X hX => pa_nil.wk fun σ H Q ⟨R, C, E, k⟩ => k [] C H (Ex.refl C) E .nil
theorem ja_cons (h : JE T e e0 e1 (.d x)) (h' : JA T es e1 e2 ds) (hs : ∀ v : Env, starEach (e :: es) v = (false, eval e v) :: starEach es v := by intro _; rfl) : JA T (e :: es) e0 e2 (x :: ds) := fun X hX =>
  (pa_cons (h X hX) (h' X hX) (hs X.env)).wk fun σ H Q ⟨R, C, E, k⟩ => ⟨R, C, E, fun v C1 H1 c1 E1 r1 => ⟨R, C1, E1, fun vs C2 H2 c2 E2 r2 => k (v :: vs) C2 H2 (c1.trans c2) E2 (.cons (r1.mono c2) r2)⟩⟩
theorem je_tup {k : Nat} (h : JA T es e0 e1 ds) (hl : ds.length ≤ LN := by exact Nat.le_of_ble_eq_true rfl) : JE T (.Tuple es k pos) e0 e1 (.d (.tuple ds)) := fun X hX =>
  (pe_tup (h X hX)).wk fun σ H Q ⟨R, C, E, k⟩ => ⟨R, C, E, fun vs C1 H1 c1 E1 r1 => ⟨lnS (by rw [r1.len]; exact hl), fun p hp => by
    obtain ⟨c, E', r⟩ := E1.freshT hp (by rw [r1.len]; exact hl) r1
    exact k _ _ _ (c1.trans c) E' r⟩⟩
theorem je_lst (h : JA T es e0 e1 ds) (hl : ds.length ≤ LN := by exact Nat.le_of_ble_eq_true rfl) : JE T (.List es pos) e0 e1 (.o (.list ds)) := fun X hX =>
  (pe_lst (h X hX)).wk fun σ H Q ⟨R, C, E, k⟩ => ⟨R, C, E, fun vs C1 H1 c1 E1 r1 => ⟨lnS (by rw [r1.len]; exact hl), fun p hp => by
    obtain ⟨E', r⟩ := E1.freshO hp (by rw [r1.len]; exact hl) r1
    exact k _ _ _ c1 E' r⟩⟩

/-! ### subscripts -/
theorem je_ix {r : PySem.W.Frag → R2} {w : Re} (hr : ∀ X, CT X T → IxR X (r X.K)) (h : JE2 T a b e0 e2 x y) (ho : Op2B T r x y w) (hs : PlainIx b := by intro _ _; rfl) : JE T (.Subscript a b pos) e0 e2 w := fun X hX => by
  obtain ⟨ta, tb, pa, pb, k⟩ := op2_run hX h ho
  exact (pe_ix (hr X hX) pa pb hs).wk k
theorem atI_rps {vs : List V} {xs : List PyData} {i : Int} {z : PyData} (r : Rps K C vs xs) (h : atI xs i = some z) : ∃ v, atI vs i = some v ∧ Rp K C v z := by
  unfold atI at h ⊢
  rw [r.len]
  cases q : ixN xs.length i with
  | none => rw [q] at h; cases h
  | some j =>
    rw [q] at h
    exact r.getD h
theorem je_ixL {xs : List PyData} {i : Int} {z : PyData} (h : JE2 T a b e0 e2 (.list xs) (.int i)) (hz : atI xs i = some z) (hs : PlainIx b := by intro _ _; rfl) : JE T (.Subscript a b pos) e0 e2 (.d z) :=
  je_ix (r := rIxL) (fun X _ => ix_list) h (fun R C H env σ u v Q E hu hv k => by
    obtain ⟨p, vs, rfl, h1, l1, r1⟩ := rb_lst E hu
    have e1 := rb_int E hv
    subst e1
    obtain ⟨w, hw, rw⟩ := atI_rps r1 hz
    exact ⟨p, vs, i, w, rfl, rfl, SqL.of h1, hw, k _ C H (Ex.refl C) E rw⟩) hs
theorem je_ixT {xs : List PyData} {i : Int} {z : PyData} (h : JE2 T a b e0 e2 (.tuple xs) (.int i)) (hz : atI xs i = some z) (hs : PlainIx b := by intro _ _; rfl) : JE T (.Subscript a b pos) e0 e2 (.d z) :=
  je_ix (r := rIxT) (fun X _ => ix_tup) h (fun R C H env σ u v Q E hu hv k => by
    obtain ⟨p, vs, rfl, h1, c1, l1, r1⟩ := rb_tup E hu
    have e1 := rb_int E hv
    subst e1
    obtain ⟨w, hw, rw⟩ := atI_rps r1 hz
    exact ⟨p, vs, i, w, rfl, rfl, h1, hw, k _ C H (Ex.refl C) E rw⟩) hs
theorem sOk_one {s : Str} (h : sOk s) {i : Nat} {c : Nat} (hc : s.cps.toList[i]? = some c) : sOk ⟨#[c]⟩ := by
  refine ⟨?_, by show (1 : Nat) ≤ LN; decide⟩
  have h1 := h.1
  unfold PyData.strOk at h1 ⊢
  rw [Array.all_eq_true] at h1
  have hi : i < s.cps.size := by
    have := (List.getElem?_eq_some_iff.mp hc).1
    simpa using this
  have e : s.cps[i] = c := by
    have := (List.getElem?_eq_some_iff.mp hc).2
    simpa using this
  have := h1 i hi
  rw [e] at this
  simpa using this
theorem je_ixS {s : Str} {i : Int} {c : Nat} (h : JE2 T a b e0 e2 (.str s) (.int i)) (hz : atI s.cps.toList i = some c) (hs : PlainIx b := by intro _ _; rfl) : JE T (.Subscript a b pos) e0 e2 (.d (.str ⟨#[c]⟩)) :=
  je_ix (r := fun _ => rIxS) (fun X _ => ix_str) h (fun R C H env σ u v Q E hu hv k => by
    have hu' := rb_rp E hu
    have e0 := rb_str E hu
    subst e0
    have e1 := rb_int E hv
    subst e1
    cases hu' with
    | str ok =>
    obtain ⟨j, h1, h2⟩ : ∃ j, ixN s.cps.toList.length i = some j ∧ s.cps.toList[j]? = some c := by
      unfold atI at hz
      cases q : ixN s.cps.toList.length i with
      | none => rw [q] at hz; cases hz
      | some j => rw [q] at hz; exact ⟨j, rfl, hz⟩
    exact ⟨s, i, c, rfl, rfl, lnS ok.2, hz, k _ C H (Ex.refl C) E (.str (sOk_one ok h2))⟩) hs
/-- a slice's part -/
def tOJ (K : PySem.W.Frag) (env env' : Env') (o : Option Int) : TO := fun σ H Q => ∃ R C, EnvC K R C env σ H ∧ ∀ C' H', Ex C C' → EnvC K R C' env' σ H' → Q o H'
def JO (T : TC) (e : Option Expr) (env env' : Env') (o : Option Int) : Prop := ∀ X, CT X T → PO X e (tOJ X.K env env' o)
theorem _root_.L2.PO.wk {X : Cx} {e : Option Expr} {t t' : TO} (h : PO X e t) (hh : ∀ σ H Q, t' σ H Q → t σ H Q) : PO X e t' := ⟨fun pins s σ H Q I q => h.run pins s σ H Q I (hh σ H Q q)⟩
theorem jo_none : JO T none env env none := fun X hX => po_none.wk fun σ H Q ⟨R, C, E, k⟩ => k C H (Ex.refl C) E
theorem jo_some {i : Int} (h : JE T e e0 e1 (.d (.int i))) : JO T (some e) e0 e1 (some i) := fun X hX => (po_some (h X hX)).wk fun σ H Q ⟨R, C, E, k⟩ => ⟨R, C, E, fun v C' H' c E' r => by cases r; exact ⟨i, rfl, k C' H' c E'⟩⟩
/-- the items of a slice -/
def cutL {α : Type} (xs : List α) (lo hi : Option Int) : List α := (xs.drop (HT.sIx xs.length 0 lo)).take (HT.sIx xs.length xs.length hi - HT.sIx xs.length 0 lo)
theorem cutL_map {α β : Type} (f : α → β) (xs : List α) (lo hi : Option Int) : cutL (xs.map f) lo hi = (cutL xs lo hi).map f := by
  unfold cutL
  rw [List.length_map, List.map_take, List.map_drop]
theorem cutV_cutL (xs : List V) (lo hi : Option Int) : cutV xs lo hi = cutL xs lo hi := rfl
theorem cutL_len {α : Type} (xs : List α) (lo hi : Option Int) : (cutL xs lo hi).length ≤ xs.length := by
  unfold cutL
  rw [List.length_take, List.length_drop]; omega
theorem rps_cut {vs : List V} {xs : List PyData} (r : Rps K C vs xs) (lo hi : Option Int) : Rps K C (cutV vs lo hi) (cutL xs lo hi) := by
  unfold cutV cutL
  rw [r.len]
  exact (r.drop _).take _
theorem je_slL {xs : List PyData} {lo hi : Option Int} {l u : Option Expr} {p2 : Pos} (h : JE T a e0 e1 (.d (.list xs))) (hl : JO T l e1 e2 lo) (hu : JO T u e2 e3 hi) : JE T (.Subscript a (.Slice l u none p2) pos) e0 e3 (.o (.list (cutL xs lo hi))) := fun X hX =>
  (pe_slice sl_list (h X hX) (hl X hX) (hu X hX)).wk fun σ H Q ⟨R, C, E, k⟩ => ⟨R, C, E, fun v C1 H1 c1 E1 r1 => ⟨R, C1, E1, fun C2 H2 c2 E2 => ⟨R, C2, E2, fun C3 H3 c3 E3 => by
    obtain ⟨p, vs, rfl, h1, l1, r1⟩ := rb_lst E3 (.inl (r1.mono (c2.trans c3)))
    refine ⟨p, vs, rfl, SqL.of h1, fun q hq => ?_⟩
    obtain ⟨E', r⟩ := E3.freshO hq (Nat.le_trans (cutV_length _ _ _) l1) (rps_cut r1 lo hi)
    exact k _ _ _ ((c1.trans c2).trans c3) E' r⟩⟩⟩
theorem je_slLb {xs : List PyData} {lo hi : Option Int} {l u : Option Expr} {p2 : Pos} (h : JE T a e0 e1 (.b (.list xs))) (hl : JO T l e1 e1 lo) (hu : JO T u e1 e1 hi) : JE T (.Subscript a (.Slice l u none p2) pos) e0 e1 (.o (.list (cutL xs lo hi))) := fun X hX =>
  (pe_slice sl_list (h X hX) (hl X hX) (hu X hX)).wk fun σ H Q ⟨R, C, E, k⟩ => ⟨R, C, E, fun v C1 H1 c1 E1 r1 => ⟨R, C1, E1, fun C2 H2 c2 E2 => ⟨R, C2, E2, fun C3 H3 c3 E3 => by
    have r1' : Rr X.K R C3 H3 e1 σ v (.b (.list xs)) := by
      rcases r1 with r1 | r1
      · exact .inl (r1.mono (c2.trans c3))
      · exact .inr r1
    obtain ⟨p, vs, rfl, h1, l1, r1⟩ := rb_lst E3 r1'
    refine ⟨p, vs, rfl, SqL.of h1, fun q hq => ?_⟩
    obtain ⟨E', r⟩ := E3.freshO hq (Nat.le_trans (cutV_length _ _ _) l1) (rps_cut r1 lo hi)
    exact k _ _ _ ((c1.trans c2).trans c3) E' r⟩⟩⟩
theorem je_slT {xs : List PyData} {lo hi : Option Int} {l u : Option Expr} {p2 : Pos} (h : JE T a e0 e1 (.d (.tuple xs))) (hl : JO T l e1 e2 lo) (hu : JO T u e2 e3 hi) : JE T (.Subscript a (.Slice l u none p2) pos) e0 e3 (.d (.tuple (cutL xs lo hi))) := fun X hX =>
  (pe_slice sl_tupA (h X hX) (hl X hX) (hu X hX)).wk fun σ H Q ⟨R, C, E, k⟩ => ⟨R, C, E, fun v C1 H1 c1 E1 r1 => ⟨R, C1, E1, fun C2 H2 c2 E2 => ⟨R, C2, E2, fun C3 H3 c3 E3 => by
    obtain ⟨p, vs, rfl, h1, q1, l1, r1⟩ := rb_tup E3 (.inl (r1.mono (c2.trans c3)))
    refine ⟨p, vs, rfl, h1, fun ⟨z1, z2⟩ => ?_, fun _ q hq => ?_⟩
    · refine k _ C3 H3 ((c1.trans c2).trans c3) E3 ?_
      have e : cutL xs lo hi = xs := by
        unfold cutL
        rw [← r1.len, z1, z2, List.drop_zero, Nat.sub_zero, r1.len, List.take_length]
      rw [e]
      exact .tup q1 l1 r1
    · obtain ⟨c, E', r⟩ := E3.freshT hq (Nat.le_trans (cutV_length _ _ _) l1) (rps_cut r1 lo hi)
      exact k _ _ _ (((c1.trans c2).trans c3).trans c) E' r⟩⟩⟩

/-! ### calls of built-ins -/
/-- what a call makes of data -/
def CallOk (T : TC) (r : PySem.W.Frag → List V → Hp → VK → Prop) (ds : List PyData) (w : Re) : Prop := ∀ R C H env σ vs Q, EnvC T.K R C env σ H → Rps T.K C vs ds →
  (∀ w' C' H', Ex C C' → EnvC T.K R C' env σ H' → Rr T.K R C' H' env σ w' w → Q w' H') → r T.K vs H Q
def CallOk1 (T : TC) (r : PySem.W.Frag → List V → Hp → VK → Prop) (x : PyData) (w : Re) : Prop := ∀ R C H env σ v Q, EnvC T.K R C env σ H → Rr T.K R C H env σ v (.b x) →
  (∀ w' C' H', Ex C C' → EnvC T.K R C' env σ H' → Rr T.K R C' H' env σ w' w → Q w' H') → r T.K [v] H Q
/-- facts of written arguments -/
structure Plain (e : Expr) (es : List Expr) (pos : Pos) : Prop where
  he : ∀ v : Env, starEach (e :: es) v = (false, eval e v) :: starEach es v
  hp : ∀ v : Env, (backTo pos (starEach es v)).any (·.1) = false
theorem je_bi {id : String} {nm : Str} {r : PySem.W.Frag → List V → Hp → VK → Prop} {w : Re} (hc : ∀ X, CT X T → CallR X (.builtin id) (r X.K)) (hg : glB T.sc nm = true) (hm : T.mg nm = none) (hv : bootBuiltins nm = some (.builtin id))
    (ha : JA T (e :: es) e0 e1 ds) (ho : CallOk T r ds w) (hp : Plain e es pos := by exact ⟨fun _ => rfl, fun _ => rfl⟩) (hn : nm ≠ "__name__" := by decide) (hdb : (nm == ("__debug__" : Str)) = false := by decide) : JE T (.Call (.Name nm p) (e :: es) [] pos) e0 e1 w := fun X hX =>
  (pe_callB (hc X hX) (gl_of hX hg) (by rw [hX.mg]; exact hm) hv (ha X hX) hn hdb (hp.he X.env) (hp.hp X.env)).wk fun σ H Q ⟨R, C, E, k⟩ => by
    rw [hX.K] at *
    exact ⟨R, C, E, fun vs C1 H1 c1 E1 r1 => ho R C1 H1 e1 σ vs Q E1 r1 fun w' C2 H2 c2 E2 r2 => k w' C2 H2 (c1.trans c2) E2 r2⟩
theorem je_bi1 {id : String} {nm : Str} {r : PySem.W.Frag → List V → Hp → VK → Prop} {w : Re} (hc : ∀ X, CT X T → CallR X (.builtin id) (r X.K)) (hg : glB T.sc nm = true) (hm : T.mg nm = none) (hv : bootBuiltins nm = some (.builtin id))
    (ha : JE T e e0 e1 (.b x)) (ho : CallOk1 T r x w) (hp : Plain e [] pos := by exact ⟨fun _ => rfl, fun _ => rfl⟩) (hn : nm ≠ "__name__" := by decide) (hdb : (nm == ("__debug__" : Str)) = false := by decide) : JE T (.Call (.Name nm p) [e] [] pos) e0 e1 w := fun X hX =>
  (pe_callB (hc X hX) (gl_of hX hg) (by rw [hX.mg]; exact hm) hv (pa_cons (ha X hX) pa_nil (hp.he X.env)) hn hdb (hp.he X.env) (hp.hp X.env)).wk fun σ H Q ⟨R, C, E, k⟩ => by
    rw [hX.K] at *
    exact ⟨R, C, E, fun v C1 H1 c1 E1 r1 => ho R C1 H1 e1 σ v Q E1 r1 fun w' C2 H2 c2 E2 r2 => k w' C2 H2 (c1.trans c2) E2 r2⟩
theorem je_ty {id : String} {nm : Str} {r : PySem.W.Frag → List V → Hp → VK → Prop} {w : Re} (hc : ∀ X, CT X T → CallR X (.type id) (r X.K)) (hg : glB T.sc nm = true) (hm : T.mg nm = none) (hv : bootBuiltins nm = some (.type id))
    (ha : JA T (e :: es) e0 e1 ds) (ho : CallOk T r ds w) (hp : Plain e es pos := by exact ⟨fun _ => rfl, fun _ => rfl⟩) (hn : nm ≠ "__name__" := by decide) (hdb : (nm == ("__debug__" : Str)) = false := by decide) : JE T (.Call (.Name nm p) (e :: es) [] pos) e0 e1 w := fun X hX =>
  (pe_callTy (hc X hX) (gl_of hX hg) (by rw [hX.mg]; exact hm) hv (ha X hX) hn hdb (hp.he X.env) (hp.hp X.env)).wk fun σ H Q ⟨R, C, E, k⟩ => by
    rw [hX.K] at *
    exact ⟨R, C, E, fun vs C1 H1 c1 E1 r1 => ho R C1 H1 e1 σ vs Q E1 r1 fun w' C2 H2 c2 E2 r2 => k w' C2 H2 (c1.trans c2) E2 r2⟩
theorem je_ty1 {id : String} {nm : Str} {r : PySem.W.Frag → List V → Hp → VK → Prop} {w : Re} (hc : ∀ X, CT X T → CallR X (.type id) (r X.K)) (hg : glB T.sc nm = true) (hm : T.mg nm = none) (hv : bootBuiltins nm = some (.type id))
    (ha : JE T e e0 e1 (.b x)) (ho : CallOk1 T r x w) (hp : Plain e [] pos := by exact ⟨fun _ => rfl, fun _ => rfl⟩) (hn : nm ≠ "__name__" := by decide) (hdb : (nm == ("__debug__" : Str)) = false := by decide) : JE T (.Call (.Name nm p) [e] [] pos) e0 e1 w := fun X hX =>
  (pe_callTy (hc X hX) (gl_of hX hg) (by rw [hX.mg]; exact hm) hv (pa_cons (ha X hX) pa_nil (hp.he X.env)) hn hdb (hp.he X.env) (hp.hp X.env)).wk fun σ H Q ⟨R, C, E, k⟩ => by
    rw [hX.K] at *
    exact ⟨R, C, E, fun v C1 H1 c1 E1 r1 => ho R C1 H1 e1 σ v Q E1 r1 fun w' C2 H2 c2 E2 r2 => k w' C2 H2 (c1.trans c2) E2 r2⟩
section
variable {nm : Str}
/-- len -/
def lenD : PyData → Option Int
  | .list xs => some xs.length
  | .tuple xs => some xs.length
  | .str s => some s.length
  | .dict es => some es.length
  | _ => none
theorem je_lenL {xs : List PyData} (hg : glB T.sc "len" = true) (hm : T.mg "len" = none) (ha : JE T e e0 e1 (.b (.list xs))) (hp : Plain e [] pos := by exact ⟨fun _ => rfl, fun _ => rfl⟩) : JE T (.Call (.Name "len" p) [e] [] pos) e0 e1 (.d (.int xs.length)) :=
  je_bi1 (r := fun K xs H Q => ∃ p ys, xs = [.ref p] ∧ (SqL K H p ys ∨ SqT K H p ys) ∧ Q (.int ys.length) H) (fun X _ => call_len_seq) hg hm PySem.boot_len ha (fun R C H env σ v Q E hv k => by
    obtain ⟨p, vs, rfl, h1, l1, r1⟩ := rb_lst E hv
    exact ⟨p, vs, rfl, .inl (SqL.of h1), by rw [r1.len]; exact k _ C H (Ex.refl C) E (.int _)⟩) hp
theorem je_lenT {xs : List PyData} (hg : glB T.sc "len" = true) (hm : T.mg "len" = none) (ha : JE T e e0 e1 (.b (.tuple xs))) (hp : Plain e [] pos := by exact ⟨fun _ => rfl, fun _ => rfl⟩) : JE T (.Call (.Name "len" p) [e] [] pos) e0 e1 (.d (.int xs.length)) :=
  je_bi1 (r := fun K xs H Q => ∃ p ys, xs = [.ref p] ∧ (SqL K H p ys ∨ SqT K H p ys) ∧ Q (.int ys.length) H) (fun X _ => call_len_seq) hg hm PySem.boot_len ha (fun R C H env σ v Q E hv k => by
    obtain ⟨p, vs, rfl, h1, q1, l1, r1⟩ := rb_tup E hv
    exact ⟨p, vs, rfl, .inr h1, by rw [r1.len]; exact k _ C H (Ex.refl C) E (.int _)⟩) hp
theorem je_lenS {s : Str} (hg : glB T.sc "len" = true) (hm : T.mg "len" = none) (ha : JE T e e0 e1 (.b (.str s))) (hp : Plain e [] pos := by exact ⟨fun _ => rfl, fun _ => rfl⟩) : JE T (.Call (.Name "len" p) [e] [] pos) e0 e1 (.d (.int s.length)) :=
  je_bi1 (r := fun _ vs H Q => ∃ z, vs = [.str z] ∧ z.length ≤ sizeLine ∧ Q (.int z.length) H) (fun X _ => call_len_str) hg hm PySem.boot_len ha (fun R C H env σ v Q E hv k => by
    have hv' := rb_rp E hv
    have e0 := rb_str E hv
    subst e0
    cases hv' with
    | str ok => exact ⟨s, rfl, lnS ok.2, k _ C H (Ex.refl C) E (.int _)⟩) hp
theorem je_abs {i : Int} (hg : glB T.sc "abs" = true) (hm : T.mg "abs" = none) (ha : JE T e e0 e1 (.d (.int i))) (hp : Plain e [] pos := by exact ⟨fun _ => rfl, fun _ => rfl⟩) : JE T (.Call (.Name "abs" p) [e] [] pos) e0 e1 (.d (.int (if i < 0 then -i else i))) :=
  je_bi1 (r := fun _ xs H Q => ∃ i, xs = [.int i] ∧ Q (.int (if i < 0 then -i else i)) H) (fun X _ => call_abs) hg hm (by decide +kernel) (je_b ha) (fun R C H env σ v Q E hv k =>
    ⟨i, by rw [rb_int E hv], k _ C H (Ex.refl C) E (.int _)⟩) hp
theorem je_max2 {i j : Int} (hg : glB T.sc "max" = true) (hm : T.mg "max" = none) (ha : JA T [a, b] e0 e1 [.int i, .int j]) (hp : Plain a [b] pos := by exact ⟨fun _ => rfl, fun _ => rfl⟩) : JE T (.Call (.Name "max" p) [a, b] [] pos) e0 e1 (.d (.int (max i j))) :=
  je_bi (r := fun _ xs H Q => ∃ i j, xs = [.int i, .int j] ∧ Q (.int (if j > i then j else i)) H) (fun X hX => call_max2 hX.calm) hg hm (by decide +kernel) ha (fun R C H env σ vs Q E hv k => by
    cases hv with
    | cons h1 r => cases h1; cases r with
      | cons h2 r => cases h2; cases r; exact ⟨i, j, rfl, k _ C H (Ex.refl C) E (by
          have : (if j > i then j else i) = max i j := by rw [Int.max_def]; split <;> split <;> omega
          rw [this]; exact .int _)⟩) hp
theorem je_min2 {i j : Int} (hg : glB T.sc "min" = true) (hm : T.mg "min" = none) (ha : JA T [a, b] e0 e1 [.int i, .int j]) (hp : Plain a [b] pos := by exact ⟨fun _ => rfl, fun _ => rfl⟩) : JE T (.Call (.Name "min" p) [a, b] [] pos) e0 e1 (.d (.int (min i j))) :=
  je_bi (r := fun _ xs H Q => ∃ i j, xs = [.int i, .int j] ∧ Q (.int (if j < i then j else i)) H) (fun X hX => call_min2 hX.calm) hg hm (by decide +kernel) ha (fun R C H env σ vs Q E hv k => by
    cases hv with
    | cons h1 r => cases h1; cases r with
      | cons h2 r => cases h2; cases r; exact ⟨i, j, rfl, k _ C H (Ex.refl C) E (by
          have : (if j < i then j else i) = min i j := by rw [Int.min_def]; split <;> split <;> omega
          rw [this]; exact .int _)⟩) hp
theorem je_sum {ns : List Int} (hg : glB T.sc "sum" = true) (hm : T.mg "sum" = none) (ha : JE T e e0 e1 (.b (.list (ns.map .int)))) (hp : Plain e [] pos := by exact ⟨fun _ => rfl, fun _ => rfl⟩) : JE T (.Call (.Name "sum" p) [e] [] pos) e0 e1 (.d (.int ns.sum)) :=
  je_bi1 (r := rSum) (fun X hX => cr_sum hX.calm) hg hm (by decide +kernel) ha (fun R C H env σ v Q E hv k => by
    obtain ⟨p, vs, rfl, h1, l1, r1⟩ := rb_lst E hv
    have e := r1.int
    subst e
    exact ⟨p, ns, rfl, SqL.of h1, k _ C H (Ex.refl C) E (.int _)⟩) hp
theorem je_all {bs : List Bool} (hg : glB T.sc "all" = true) (hm : T.mg "all" = none) (ha : JE T e e0 e1 (.b (.list (bs.map .bool)))) (hp : Plain e [] pos := by exact ⟨fun _ => rfl, fun _ => rfl⟩) : JE T (.Call (.Name "all" p) [e] [] pos) e0 e1 (.d (.bool (bs.all id))) :=
  je_bi1 (r := rAll) (fun X hX => cr_all hX.calm) hg hm (by decide +kernel) ha (fun R C H env σ v Q E hv k => by
    obtain ⟨p, vs, rfl, h1, l1, r1⟩ := rb_lst E hv
    have e := r1.bls
    subst e
    exact ⟨p, bs, rfl, SqL.of h1, k _ C H (Ex.refl C) E (.bl _)⟩) hp
theorem je_any {bs : List Bool} (hg : glB T.sc "any" = true) (hm : T.mg "any" = none) (ha : JE T e e0 e1 (.b (.list (bs.map .bool)))) (hp : Plain e [] pos := by exact ⟨fun _ => rfl, fun _ => rfl⟩) : JE T (.Call (.Name "any" p) [e] [] pos) e0 e1 (.d (.bool (bs.any id))) :=
  je_bi1 (r := rAny) (fun X hX => cr_any hX.calm) hg hm (by decide +kernel) ha (fun R C H env σ v Q E hv k => by
    obtain ⟨p, vs, rfl, h1, l1, r1⟩ := rb_lst E hv
    have e := r1.bls
    subst e
    exact ⟨p, bs, rfl, SqL.of h1, k _ C H (Ex.refl C) E (.bl _)⟩) hp
/-- list(..), tuple(..) -/
theorem je_listL {xs : List PyData} (hg : glB T.sc "list" = true) (hm : T.mg "list" = none) (ha : JE T e e0 e1 (.b (.list xs))) (hp : Plain e [] pos := by exact ⟨fun _ => rfl, fun _ => rfl⟩) : JE T (.Call (.Name "list" p) [e] [] pos) e0 e1 (.o (.list xs)) :=
  je_ty1 (r := fun K xs H Q => ∃ p ys, xs = [.ref p] ∧ (SqL K H p ys ∨ SqT K H p ys) ∧ ∀ l, H l = none → Q (.ref l) (upd H l (.lst ys))) (fun X hX => call_list_of) hg hm (by decide +kernel) ha (fun R C H env σ v Q E hv k => by
    obtain ⟨p, vs, rfl, h1, l1, r1⟩ := rb_lst E hv
    refine ⟨p, vs, rfl, .inl (SqL.of h1), fun l hl => ?_⟩
    obtain ⟨E', r⟩ := E.freshO hl l1 r1
    exact k _ C _ (Ex.refl C) E' r) hp
theorem je_listT {xs : List PyData} (hg : glB T.sc "list" = true) (hm : T.mg "list" = none) (ha : JE T e e0 e1 (.b (.tuple xs))) (hp : Plain e [] pos := by exact ⟨fun _ => rfl, fun _ => rfl⟩) : JE T (.Call (.Name "list" p) [e] [] pos) e0 e1 (.o (.list xs)) :=
  je_ty1 (r := fun K xs H Q => ∃ p ys, xs = [.ref p] ∧ (SqL K H p ys ∨ SqT K H p ys) ∧ ∀ l, H l = none → Q (.ref l) (upd H l (.lst ys))) (fun X hX => call_list_of) hg hm (by decide +kernel) ha (fun R C H env σ v Q E hv k => by
    obtain ⟨p, vs, rfl, h1, q1, l1, r1⟩ := rb_tup E hv
    refine ⟨p, vs, rfl, .inr h1, fun l hl => ?_⟩
    obtain ⟨E', r⟩ := E.freshO hl l1 r1
    exact k _ C _ (Ex.refl C) E' r) hp
theorem je_tupL {xs : List PyData} (hg : glB T.sc "tuple" = true) (hm : T.mg "tuple" = none) (ha : JE T e e0 e1 (.b (.list xs))) (hp : Plain e [] pos := by exact ⟨fun _ => rfl, fun _ => rfl⟩) : JE T (.Call (.Name "tuple" p) [e] [] pos) e0 e1 (.d (.tuple xs)) :=
  je_ty1 (r := fun K xs H Q => ∃ p ys, xs = [.ref p] ∧ ((SqL K H p ys ∧ ∀ l, H l = none → Q (.ref l) (upd H l (.tup ys))) ∨ (SqT K H p ys ∧ Q (.ref p) H))) (fun X hX => call_tuple_of) hg hm (by decide +kernel) ha (fun R C H env σ v Q E hv k => by
    obtain ⟨p, vs, rfl, h1, l1, r1⟩ := rb_lst E hv
    refine ⟨p, vs, rfl, .inl ⟨SqL.of h1, fun l hl => ?_⟩⟩
    obtain ⟨c, E', r⟩ := E.freshT hl l1 r1
    exact k _ _ _ c E' r) hp
theorem je_tupT {xs : List PyData} (hg : glB T.sc "tuple" = true) (hm : T.mg "tuple" = none) (ha : JE T e e0 e1 (.b (.tuple xs))) (hp : Plain e [] pos := by exact ⟨fun _ => rfl, fun _ => rfl⟩) : JE T (.Call (.Name "tuple" p) [e] [] pos) e0 e1 (.d (.tuple xs)) :=
  je_ty1 (r := fun K xs H Q => ∃ p ys, xs = [.ref p] ∧ ((SqL K H p ys ∧ ∀ l, H l = none → Q (.ref l) (upd H l (.tup ys))) ∨ (SqT K H p ys ∧ Q (.ref p) H))) (fun X hX => call_tuple_of) hg hm (by decide +kernel) ha (fun R C H env σ v Q E hv k => by
    obtain ⟨p, vs, rfl, h1, q1, l1, r1⟩ := rb_tup E hv
    exact ⟨p, vs, rfl, .inr ⟨h1, k _ C H (Ex.refl C) E (.tup q1 l1 r1)⟩⟩) hp
/-- a list that is only read, taken over -/
theorem je_listS {xs : List PyData} (hg : glB T.sc "list" = true) (hm : T.mg "list" = none) (ha : JE T e e0 e1 (.d (.dict [(.none, .list xs)]))) (hp : Plain e [] pos := by exact ⟨fun _ => rfl, fun _ => rfl⟩) : JE T (.Call (.Name "list" p) [e] [] pos) e0 e1 (.o (.list xs)) :=
  je_ty (r := fun K xs H Q => ∃ p ys, xs = [.ref p] ∧ (SqL K H p ys ∨ SqT K H p ys) ∧ ∀ l, H l = none → Q (.ref l) (upd H l (.lst ys))) (fun X hX => call_list_of) hg hm (by decide +kernel) (ja_cons ha ja_nil hp.he) (fun R C H env σ vs Q E hv k => by
    cases hv with
    | cons h1 r =>
    cases r
    have key : ∀ (es : List (PyData × PyData)), es = [(.none, .list xs)] → ∀ v, Rp T.K C v (.dict es) → ∃ a ws, v = .ref a ∧ SqL T.K C a ws ∧ ws.length ≤ LN ∧ Rps T.K C ws xs := fun es he v h => by
      cases h with
      | scr q l r => cases he; exact ⟨_, _, rfl, q, l, r⟩
      | dK q l r =>
        subst he
        generalize hk : [(PyData.none, PyData.list xs)] = es at r
        cases r with
        | nil => cases hk
        | @cons k v r d es h1 h2 => cases k <;> simp [kD] at hk
      | dT q l r =>
        subst he
        generalize hk : [(PyData.none, PyData.list xs)] = es at r
        cases r with
        | nil => cases hk
        | @cons k v r d es h1 h2 => simp [tD] at hk
    obtain ⟨a, ws, rfl, q, l, r⟩ := key _ rfl _ h1
    refine ⟨a, ws, rfl, .inl (E.cH.l q), fun t ht => ?_⟩
    obtain ⟨E', r⟩ := E.freshO ht l r
    exact k _ C _ (Ex.refl C) E' r) hp
theorem je_intI {i : Int} (hg : glB T.sc "int" = true) (hm : T.mg "int" = none) (ha : JE T e e0 e1 (.d (.int i))) (hp : Plain e [] pos := by exact ⟨fun _ => rfl, fun _ => rfl⟩) : JE T (.Call (.Name "int" p) [e] [] pos) e0 e1 (.d (.int i)) :=
  je_ty1 (r := fun _ xs H Q => (∃ i, xs = [.int i] ∧ Q (.int i) H) ∨ ∃ k, xs = [.bl k] ∧ Q (.int (if k then 1 else 0)) H) (fun X hX => call_int1) hg hm (by decide +kernel) (je_b ha) (fun R C H env σ v Q E hv k =>
    .inl ⟨i, by rw [rb_int E hv], k _ C H (Ex.refl C) E (.int _)⟩) hp
end
end
end J
namespace J
open PySem L2 PySem.Spec PyProof.Rows
section
variable {T : TC} {a b e : Expr} {es : List Expr} {env e0 e1 e2 e3 : Env'} {pos p : Pos} {x y z : PyData} {ds : List PyData} {K : PySem.W.Frag} {R C C' H H' : Hp} {σ : L2.St} {v : V}

/-! ### calls of the text's own defs -/
/-- what a def promises: with such arguments it returns res, and leaves what stood -/
def SpD {A : Type} (K : PySem.W.Frag) (pre : A → Prop) (args : A → List PyData) (res : A → PyData) : Sp := fun vs H Q _ => ∃ (a : A) (C : Hp), pre a ∧ Ex C H ∧ Rps K C vs (args a) ∧
  ∀ v C' H', Ex C C' → Ex C' H' → (∀ p o, H p = some o → C p = none → H' p = some o ∧ C' p = none) → Rp K C' v (res a) → Q v H'
/-- .. whose first argument is an object that it may change -/
def SpO {A : Type} (K : PySem.W.Frag) (pre : A → Prop) (d0 d1 : A → PyData) (args : A → List PyData) (res : A → PyData) : Sp := fun vs H Q _ => ∃ (a : A) (C : Hp) (p : Addr) (vs' : List V), vs = .ref p :: vs' ∧ pre a ∧ Ex C H ∧ C p = none ∧ Ow K C (H p) (d0 a) ∧ Rps K C vs' (args a) ∧
  ∀ v C' H', Ex C C' → Ex C' H' → (∀ q o, q ≠ p → H q = some o → C q = none → H' q = some o ∧ C' q = none) → C' p = none → Ow K C' (H' p) (d1 a) → Rp K C' v (res a) → Q v H'
/-- .. that hands back a new object that may be changed -/
def SpF {A : Type} (K : PySem.W.Frag) (pre : A → Prop) (args : A → List PyData) (res : A → PyData) : Sp := fun vs H Q _ => ∃ (a : A) (C : Hp), pre a ∧ Ex C H ∧ Rps K C vs (args a) ∧
  ∀ p C' H', Ex C C' → Ex C' H' → (∀ p o, H p = some o → C p = none → H' p = some o ∧ C' p = none) → H p = none → C' p = none → Ow K C' (H' p) (res a) → Q (.ref p) H'
theorem EnvC.call (E : EnvC K R C env σ H) (c : Ex C C') (ch : Ex C' H') (k : ∀ p o, H p = some o → C p = none → H' p = some o ∧ C' p = none) : EnvC K R C' env σ H' := by
  refine ⟨E.len, ch, fun p o e => ?_, fun p e => ?_, fun i x e => ?_, fun i q x e => ?_, E.apart⟩
  · exact (k p o (E.rH _ _ e) (E.rc p (by rw [e]; simp))).1
  · cases q : R p with
    | none => exact absurd q e
    | some o => exact (k p o (E.rH _ _ q) (E.rc p e)).2
  · obtain ⟨v, h1, h2⟩ := E.dat i x e
    exact ⟨v, h1, h2.mono c⟩
  · obtain ⟨p, h1, h0, h2, h3, h4⟩ := E.own i q x e
    cases ho : H p with
    | none => rw [ho] at h4; exact absurd rfl h4.there
    | some o =>
      obtain ⟨k1, k2⟩ := k p o ho h2
      refine ⟨p, h1, h0, k2, h3, ?_⟩
      rw [k1, ← ho]
      exact h4.mono c
theorem EnvC.callO {i : Nat} {k0 : Option Addr} {d0 d1 : PyData} {p : Addr} (E : EnvC K R C env σ H) (hi : env[i]? = some (.o k0 d0)) (hs : σ[i]? = some (some (.ref p))) (c : Ex C C') (ch : Ex C' H')
    (k : ∀ q o, q ≠ p → H q = some o → C q = none → H' q = some o ∧ C' q = none) (cp : C' p = none) (ow : Ow K C' (H' p) d1) : EnvC K R C' (env.set i (.o k0 d1)) σ H' := by
  have hil : i < env.length := (List.getElem?_eq_some_iff.mp hi).1
  obtain ⟨p', s', hq, _, rp, _⟩ := E.own i k0 d0 hi
  rw [hs] at s'; cases s'
  refine ⟨by simp [E.len], ch, fun q o e => ?_, fun q e => ?_, fun j x e => ?_, fun j w x e => ?_, fun j k w w' y z q e1 e2 s1 s2 => ?_⟩
  · exact (k q o (fun h => by subst h; rw [rp] at e; cases e) (E.rH _ _ e) (E.rc q (by rw [e]; simp))).1
  · cases q' : R q with
    | none => exact absurd q' e
    | some o => exact (k q o (fun h => by subst h; exact e rp) (E.rH _ _ q') (E.rc q e)).2
  · by_cases h : i = j
    · subst h; rw [List.getElem?_set_self hil] at e; cases e
    · rw [List.getElem?_set_ne h] at e
      obtain ⟨v, h1, h2⟩ := E.dat j x e
      exact ⟨v, h1, h2.mono c⟩
  · by_cases h : i = j
    · subst h; rw [List.getElem?_set_self hil] at e; cases e
      exact ⟨p, hs, hq, cp, rp, ow⟩
    · rw [List.getElem?_set_ne h] at e
      obtain ⟨q, h1, h0, h2, h3, h4⟩ := E.own j w x e
      have hqp : q ≠ p := fun hh => by subst hh; exact h (E.apart i j _ _ _ x q hi e hs h1)
      cases ho : H q with
      | none => rw [ho] at h4; exact absurd rfl h4.there
      | some o =>
        obtain ⟨k1, k2⟩ := k q o hqp ho h2
        refine ⟨q, h1, h0, k2, h3, ?_⟩
        rw [k1, ← ho]
        exact h4.mono c
  · have f : ∀ {j : Nat} {w : Option Addr} {y : PyData}, (env.set i (.o k0 d1))[j]? = some (.o w y) → ∃ w y, env[j]? = some (.o w y) := fun {j w y} e => by
      by_cases h : i = j
      · subst h; exact ⟨_, _, hi⟩
      · rw [List.getElem?_set_ne h] at e; exact ⟨_, _, e⟩
    obtain ⟨_, _, f1⟩ := f e1
    obtain ⟨_, _, f2⟩ := f e2
    exact E.apart j k _ _ _ _ q f1 f2 s1 s2
/-- a def that is known -/
structure Kn {A : Type} (T : TC) (nm : Str) (k : Nat) (f : Addr) (fd : FuncData) (ps : List Str) (sp : Sp) : Prop where
  ok : FnOk T.P T.w T.K T.mg T.base CX0 k f fd ps sp
  mg : T.mg nm = some (.ref f)
  kp : PySem.W.keepIn T.K (.ref f) = true
  b : Binds T.K fd ps []
theorem CT.fn_ok {X : Cx} {k : Nat} {f : Addr} {fd : FuncData} {ps : List Str} {sp : Sp} (hX : CT X T) (h : FnOk T.P T.w T.K T.mg T.base CX0 k f fd ps sp) : FnOk X.prog X.w X.K X.mg X.base CX0 k f fd ps sp := by
  rw [hX.P, hX.w, hX.K, hX.mg, hX.base]; exact h
theorem je_call {A : Type} {nm : Str} {k : Nat} {f : Addr} {fd : FuncData} {ps : List Str} {pre : A → Prop} {args : A → List PyData} {res : A → PyData} (F : FnOk T.P T.w T.K T.mg T.base CX0 k f fd ps (SpD T.K pre args res)) (a : A) (hm : T.mg nm = some (.ref f)) (kp : PySem.W.keepIn T.K (.ref f) = true) (bi : Binds T.K fd ps [])
    (hg : glB T.sc nm = true) (hk : k ≤ T.k) (ha : JA T (e :: es) e0 e1 (args a)) (hpre : pre a) (hp : Plain e es pos := by exact ⟨fun _ => rfl, fun _ => rfl⟩) (hdb : (nm == ("__debug__" : Str)) = false := by decide) : JE T (.Call (.Name nm p) (e :: es) [] pos) e0 e1 (.d (res a)) := fun X hX =>
  (pe_call (E := E0) (dvs := []) (ds := []) (hX.fn_ok F) (hX.room.mono hk) (gl_of hX hg) (by rw [hX.mg]; exact hm) (by rw [hX.K]; exact kp) (by rw [hX.K]; exact bi) .nil pass0 (ha X hX) hdb (hp.he X.env) (hp.hp X.env)).wk fun σ H Q ⟨R, C, E, k⟩ => by
    rw [hX.K] at *
    refine ⟨R, C, E, fun vs C1 H1 c1 E1 r1 => ?_⟩
    show SpD T.K pre args res (vs ++ []) H1 Q E0
    rw [List.append_nil]
    exact ⟨a, C1, hpre, E1.cH, r1, fun v C2 H2 c2 ch kk r2 => k v C2 H2 (c1.trans c2) (E1.call c2 ch kk) r2⟩
theorem je_callF {A : Type} {nm : Str} {k : Nat} {f : Addr} {fd : FuncData} {ps : List Str} {pre : A → Prop} {args : A → List PyData} {res : A → PyData} (F : FnOk T.P T.w T.K T.mg T.base CX0 k f fd ps (SpF T.K pre args res)) (a : A) (hm : T.mg nm = some (.ref f)) (kp : PySem.W.keepIn T.K (.ref f) = true) (bi : Binds T.K fd ps [])
    (hg : glB T.sc nm = true) (hk : k ≤ T.k) (ha : JA T (e :: es) e0 e1 (args a)) (hpre : pre a) (hp : Plain e es pos := by exact ⟨fun _ => rfl, fun _ => rfl⟩) (hdb : (nm == ("__debug__" : Str)) = false := by decide) : JE T (.Call (.Name nm p) (e :: es) [] pos) e0 e1 (.o (res a)) := fun X hX =>
  (pe_call (E := E0) (dvs := []) (ds := []) (hX.fn_ok F) (hX.room.mono hk) (gl_of hX hg) (by rw [hX.mg]; exact hm) (by rw [hX.K]; exact kp) (by rw [hX.K]; exact bi) .nil pass0 (ha X hX) hdb (hp.he X.env) (hp.hp X.env)).wk fun σ H Q ⟨R, C, E, k⟩ => by
    rw [hX.K] at *
    refine ⟨R, C, E, fun vs C1 H1 c1 E1 r1 => ?_⟩
    show SpF T.K pre args res (vs ++ []) H1 Q E0
    rw [List.append_nil]
    refine ⟨a, C1, hpre, E1.cH, r1, fun p C2 H2 c2 ch kk hp0 cp ow => k (.ref p) C2 H2 (c1.trans c2) (E1.call c2 ch kk) ⟨p, rfl, cp, E1.rN hp0, fun i q x e s => ?_, ow⟩⟩
    obtain ⟨q', s', _, _, _, o'⟩ := E1.own i q x e
    rw [s] at s'; cases s'
    exact o'.there hp0
theorem je_callO {A : Type} {nm x : Str} {k i : Nat} {f : Addr} {fd : FuncData} {ps : List Str} {pre : A → Prop} {d0 d1 : A → PyData} {args : A → List PyData} {res : A → PyData} {k0 : Option Addr} {px : Pos} (F : FnOk T.P T.w T.K T.mg T.base CX0 k f fd ps (SpO T.K pre d0 d1 args res)) (a : A) (hm : T.mg nm = some (.ref f)) (kp : PySem.W.keepIn T.K (.ref f) = true) (bi : Binds T.K fd ps [])
    (hg : glB T.sc nm = true) (hk : k ≤ T.k) (hN : T.N[i]? = some x) (hv : visB T.sc x = true) (hi0 : ∃ d, e0[i]? = some (.o k0 d)) (ha : JA T es e0 e1 (args a)) (hi : e1[i]? = some (.o k0 (d0 a))) (hpre : pre a) (hp : Plain (.Name x px) es pos := by exact ⟨fun _ => rfl, fun _ => rfl⟩) (hdb : (nm == ("__debug__" : Str)) = false := by decide)
    (hd : (x == ("__debug__" : Str)) = false := by decide) (hcd : (x == ("__classdict__" : Str)) = false := by decide) :
    JE T (.Call (.Name nm p) (.Name x px :: es) [] pos) e0 (e1.set i (.o k0 (d1 a))) (.d (res a)) := fun X hX =>
  (pe_call (E := E0) (dvs := []) (ds := []) (hX.fn_ok F) (hX.room.mono hk) (gl_of hX hg) (by rw [hX.mg]; exact hm) (by rw [hX.K]; exact kp) (by rw [hX.K]; exact bi) .nil pass0 (pa_cons (pe_var (i := i) (by rw [hX.N]; exact hN) (by rw [hX.sc]; exact vis_of hv) hd hcd) (ha X hX) (hp.he X.env)) hdb (hp.he X.env) (hp.hp X.env)).wk fun σ H Q ⟨R, C, E, k⟩ => by
    rw [hX.K] at *
    obtain ⟨d, hi0⟩ := hi0
    obtain ⟨p, s0, _⟩ := E.own i k0 d hi0
    refine ⟨.ref p, s0, R, C, E, fun vs C1 H1 c1 E1 r1 => ?_⟩
    show SpO T.K pre d0 d1 args res ((.ref p :: vs) ++ []) H1 Q E0
    rw [List.append_nil]
    obtain ⟨p', s1, h0, h2, h3, h4⟩ := E1.own i k0 _ hi
    rw [s0] at s1; cases s1
    exact ⟨a, C1, p, vs, rfl, hpre, E1.cH, h2, h4, r1, fun v C2 H2 c2 ch kk cp ow r2 => k v C2 H2 (c1.trans c2) (E1.callO hi s0 c2 ch kk cp ow) r2⟩

/-! ### targets -/
def tGJ (K : PySem.W.Frag) (js : List Nat) (d : PyData) (env env' : Env') : TG := fun v σ H Q => ∃ R C, EnvC K R C env σ H ∧ Rp K C v d ∧ ∀ σ' : L2.St, (∀ j : Nat, j ∉ js → σ'[j]? = σ[j]?) → σ'.length = σ.length → EnvC K R C env' σ' H → Q σ' H
def JG (T : TC) (g : Expr) (js : List Nat) (d : PyData) (env env' : Env') : Prop := ∀ X, CT X T → PG X g (tGJ X.K js d env env')
def locB (sc : Scope) (x : Str) : Bool := match sc.names.lookup x with
  | some .local => true | some .cell => true | _ => false
theorem loc_of {sc : Scope} {x : Str} (h : locB sc x = true) : L2.Loc sc x := by
  unfold locB at h
  unfold L2.Loc
  split at h <;> first | exact .inl (by assumption) | exact .inr (by assumption) | cases h
theorem jg_name (i : Nat) {x : Str} {d : PyData} (hnd : T.N.Nodup) (hN : T.N[i]? = some x := by rfl) (hl : locB T.sc x = true := by rfl) (hf : T.fn x = true ∨ T.sc.names.lookup x = some .local := by first | exact .inl rfl | exact .inr rfl) : JG T (.Name x pos) [i] d env (env.set i (.d d)) := fun X hX =>
  (pg_name (i := i) (by rw [hX.N]; exact hnd) (by rw [hX.N]; exact hN) (by rw [hX.sc]; exact loc_of hl) (by rcases hf with h | h; exact .inl (hX.fn x h); exact .inr (by rw [hX.sc]; exact h))).wk fun v σ H Q ⟨R, C, E, r, k⟩ =>
    k _ (fun j hj => by rw [List.getElem?_set_ne]; intro h; exact hj (by simp [h])) (by simp) (E.set i r)
def tGsJ (K : PySem.W.Frag) (js : List Nat) (ds : List PyData) (env env' : Env') : TGs := fun vs σ H Q => ∃ R C, EnvC K R C env σ H ∧ Rps K C vs ds ∧ ∀ σ' : L2.St, (∀ j : Nat, j ∉ js → σ'[j]? = σ[j]?) → σ'.length = σ.length → EnvC K R C env' σ' H → Q σ' H
def JGs (T : TC) (g : List Expr) (js : List Nat) (ds : List PyData) (env env' : Env') : Prop := ∀ X, CT X T → PGs X g (tGsJ X.K js ds env env')
theorem _root_.L2.PGs.wk {X : Cx} {g : List Expr} {t t' : TGs} (h : PGs X g t) (hh : ∀ v σ H Q, t' v σ H Q → t v σ H Q) : PGs X g t' := ⟨fun pins s σ H v u Q I r q => h.run pins s σ H v u Q I r (hh v σ H Q q)⟩
theorem jgs_nil : JGs T [] [] [] env env := fun X hX => pgs_nil.wk fun vs σ H Q ⟨R, C, E, r, k⟩ => by
  cases r; exact ⟨rfl, k σ (fun _ _ => rfl) rfl E⟩
theorem jgs_cons {g : Expr} {gs : List Expr} {js js' : List Nat} (h : JG T g js x e0 e1) (h' : JGs T gs js' ds e1 e2) (hs : ∀ v : Env, (assignEach (g :: gs) v).map (·.2) = assign g v :: (assignEach gs v).map (·.2) := by intro _; rfl) : JGs T (g :: gs) (js ++ js') (x :: ds) e0 e2 := fun X hX =>
  (pgs_cons (h X hX) (h' X hX) (hs X.env)).wk fun vs σ H Q ⟨R, C, E, r, k⟩ => by
    cases r with
    | cons r1 r2 =>
    refine ⟨_, _, rfl, R, C, E, r1, fun σ1 s1 l1 E1 => ⟨R, C, E1, r2, fun σ2 s2 l2 E2 => k σ2 (fun j hj => ?_) (l2.trans l1) E2⟩⟩
    rw [List.mem_append, not_or] at hj
    rw [s2 j hj.2, s1 j hj.1]
theorem jg_tup {gs : List Expr} {js : List Nat} {kk : Nat} (h : JGs T gs js ds e0 e1) (hn : ∀ v : Env, (assignEach gs v).length = ds.length := by intro _; rfl) (hst : ∀ v : Env, (assignEach gs v).findIdx? (·.1) = none := by intro _; rfl) : JG T (.Tuple gs kk pos) js (.tuple ds) e0 e1 := fun X hX =>
  (pg_tup hX.calm (h X hX) (hn X.env) (hst X.env)).wk fun v σ H Q ⟨R, C, E, r, k⟩ => by
    cases r with
    | tup q l r => exact ⟨_, _, rfl, E.cH.t q, r.len, R, C, E, r, k⟩
/-- a list taken apart -/
theorem jg_is {g : Expr} {js : List Nat} {d d' : PyData} (h : JG T g js d e0 e1) (q : d = d') : JG T g js d' e0 e1 := q ▸ h

/-! ### what is walked -/
/-- J yields the items, whatever is made meanwhile -/
def ItOk (K : PySem.W.Frag) (R C : Hp) (J : It) (items : List PyData) : Prop := ∀ C' env σ H, Ex C C' → EnvC K R C' env σ H →
  J.stop items.length H ∧ ∀ i d, items[i]? = some d → J.go i H ∧ ∀ x H', J.yld i H x H' → ∃ C2, Ex C' C2 ∧ EnvC K R C2 env σ H' ∧ (∀ D, H' D = none → H D = none) ∧ (∀ D o, H D = some o → H' D = some o) ∧ (∀ D o, H D = some o → C' D = none → C2 D = none) ∧ Rp K C2 x d
def tIJ (K : PySem.W.Frag) (env env' : Env') (items : List PyData) : TI := fun σ H Rr' => ∃ R C, EnvC K R C env σ H ∧ ∀ J C' H', Ex C C' → EnvC K R C' env' σ H' → items.length ≤ LN → ItOk K R C' J items → Rr' J H'
def JI (T : TC) (tg iter : Expr) (env env' : Env') (items : List PyData) : Prop := ∀ X, CT X T → PI X tg iter (tIJ X.K env env' items)
variable {tg : Expr}
theorem ji_list {xs : List PyData} (h : JE T e e0 e1 (.d (.list xs))) : JI T tg e e0 e1 xs := fun X hX => (pi_list (h X hX)).wk fun σ H Rr' ⟨R, C, E, k⟩ => ⟨R, C, E, fun v C1 H1 c1 E1 r1 => by
  cases r1 with
  | lst q l r =>
  refine ⟨_, rfl, ⟨_, SqL.of (E1.cH _ _ q)⟩, k _ C1 H1 c1 E1 (by rw [← r.len]; exact l) fun C2 env σ H2 c2 E2 => ⟨⟨_, SqL.of (E2.cH _ _ (c2 _ _ q)), by rw [r.len]; exact Nat.le_refl _⟩, fun i d hd => ?_⟩⟩
  obtain ⟨w, hw, rw⟩ := r.getD hd
  refine ⟨⟨_, w, SqL.of (E2.cH _ _ (c2 _ _ q)), hw⟩, fun x H3 hy => ?_⟩
  obtain ⟨rfl, hx⟩ := hy
  have := hx _ (SqL.of (E2.cH _ _ (c2 _ _ q)))
  rw [hw] at this; cases this
  exact ⟨C2, Ex.refl C2, E2, fun _ h => h, fun _ _ h => h, fun _ _ _ h => h, rw.mono c2⟩⟩
theorem ji_tup {xs : List PyData} (h : JE T e e0 e1 (.d (.tuple xs))) : JI T tg e e0 e1 xs := fun X hX => (pi_tup (h X hX)).wk fun σ H Rr' ⟨R, C, E, k⟩ => ⟨R, C, E, fun v C1 H1 c1 E1 r1 => by
  cases r1 with
  | tup q l r =>
  refine ⟨_, rfl, ⟨_, E1.cH.t q⟩, k _ C1 H1 c1 E1 (by rw [← r.len]; exact l) fun C2 env σ H2 c2 E2 => ⟨⟨_, E2.cH.t (c2.t q), by rw [r.len]; exact Nat.le_refl _⟩, fun i d hd => ?_⟩⟩
  obtain ⟨w, hw, rw⟩ := r.getD hd
  refine ⟨⟨_, w, E2.cH.t (c2.t q), hw⟩, fun x H3 hy => ?_⟩
  obtain ⟨rfl, hx⟩ := hy
  have := hx _ (E2.cH.t (c2.t q))
  rw [hw] at this; cases this
  exact ⟨C2, Ex.refl C2, E2, fun _ h => h, fun _ _ h => h, fun _ _ _ h => h, rw.mono c2⟩⟩
/-- the ints lo, lo + 1, .. -/
def rgI (lo hi : Int) : List Int := (List.range (hi - lo).toNat).map fun i => lo + (i : Nat)
theorem rgI_len (lo hi : Int) : (rgI lo hi).length = (hi - lo).toNat := by unfold rgI; simp
theorem rgI_get {lo hi : Int} {i : Nat} {d : PyData} (h : ((rgI lo hi).map PyData.int)[i]? = some d) : i < (hi - lo).toNat ∧ d = .int (lo + (i : Nat)) := by
  unfold rgI at h
  rw [List.getElem?_map, List.getElem?_map] at h
  by_cases hi : i < (hi - lo).toNat
  · rw [List.getElem?_range hi] at h
    simp at h
    exact ⟨hi, h.symm⟩
  · rw [List.getElem?_eq_none (by simpa using hi)] at h
    cases h
theorem ji_range1 {n : Int} (hg : glB T.sc "range" = true) (hm : T.mg "range" = none) (h : JE T e e0 e1 (.d (.int n))) (hn : -(2 ^ 62) ≤ n ∧ n ≤ 16777216) (hs : ∀ v : Env, starEach [e] v = [(false, eval e v)] := by intro _; rfl) : JI T tg (.Call (.Name "range" p) [e] [] pos) e0 e1 ((rgI 0 n).map .int) := fun X hX =>
  (pi_range1 (gl_of hX hg) (by rw [hX.mg]; exact hm) (pa_cons (h X hX) pa_nil (hs X.env)) (hs X.env)).wk fun σ H Rr' ⟨R, C, E, k⟩ => ⟨R, C, E, fun v C1 H1 c1 E1 r1 => by
    cases r1
    refine ⟨n, rfl, hn.1, by omega, k _ C1 H1 c1 E1 (by rw [List.length_map, rgI_len]; show _ ≤ 16777216; omega) fun C2 env σ H2 c2 E2 => ⟨by show n.toNat ≤ _; rw [List.length_map, rgI_len]; omega, fun i d hd => ?_⟩⟩
    obtain ⟨h1, rfl⟩ := rgI_get hd
    refine ⟨by show i < n.toNat; omega, fun x H3 ⟨e1, e2⟩ => ?_⟩
    subst e1; subst e2
    exact ⟨C2, Ex.refl C2, E2, fun _ h => h, fun _ _ h => h, fun _ _ _ h => h, .int _⟩⟩
theorem ji_range2 {m n : Int} (hg : glB T.sc "range" = true) (hm : T.mg "range" = none) (h : JA T [a, b] e0 e1 [.int m, .int n]) (hn : -(2 ^ 62) ≤ m ∧ m < 2 ^ 62 ∧ -(2 ^ 62) ≤ n ∧ n < 2 ^ 62 ∧ n - m ≤ 16777216) (hs : ∀ v : Env, starEach [a, b] v = [(false, eval a v), (false, eval b v)] := by intro _; rfl) (hs2 : ∀ v : Env, starEach [b] v = [(false, eval b v)] := by intro _; rfl) : JI T tg (.Call (.Name "range" p) [a, b] [] pos) e0 e1 ((rgI m n).map .int) := fun X hX =>
  (pi_range2 (gl_of hX hg) (by rw [hX.mg]; exact hm) (h X hX) (hs X.env) (hs2 X.env)).wk fun σ H Rr' ⟨R, C, E, k⟩ => ⟨R, C, E, fun vs C1 H1 c1 E1 r1 => by
    cases r1 with
    | cons r1 r2 => cases r1; cases r2 with
      | cons r2 r3 =>
      cases r2; cases r3
      refine ⟨m, n, rfl, ⟨hn.1, hn.2.1, hn.2.2.1, hn.2.2.2.1⟩, k _ C1 H1 c1 E1 (by rw [List.length_map, rgI_len]; show _ ≤ 16777216; omega) fun C2 env σ H2 c2 E2 => ⟨by show (n - m).toNat ≤ _; rw [List.length_map, rgI_len]; omega, fun i d hd => ?_⟩⟩
      obtain ⟨h1, rfl⟩ := rgI_get hd
      refine ⟨by show i < (n - m).toNat; omega, fun x H3 ⟨e1, e2⟩ => ?_⟩
      subst e1; subst e2
      exact ⟨C2, Ex.refl C2, E2, fun _ h => h, fun _ _ h => h, fun _ _ _ h => h, .int _⟩⟩
end
end J
namespace J
open PySem L2 PySem.Spec PyProof.Rows
section
variable {T : TC} {a b e : Expr} {es : List Expr} {env e0 e1 e2 e3 : Env'} {pos p : Pos} {x y z : PyData} {ds : List PyData} {K : PySem.W.Frag} {R C C' H H' : Hp} {σ σ' : L2.St} {v : V}

/-! ### comprehensions -/
theorem EnvC.resig (E : EnvC K R C env σ H) (l : σ'.length = σ.length) (s : ∀ (i : Nat) (x : Sl), env[i]? = some x → x ≠ .u → σ'[i]? = σ[i]?) : EnvC K R C env σ' H := by
  refine ⟨E.len.trans l.symm, E.cH, E.rH, E.rc, fun i x e => ?_, fun i k x e => ?_, fun i j k k' x y p e1 e2 s1 s2 => ?_⟩
  · rw [s i _ e (by simp)]; exact E.dat i x e
  · rw [s i _ e (by simp)]; exact E.own i k x e
  · rw [s i _ e1 (by simp)] at s1
    rw [s j _ e2 (by simp)] at s2
    exact E.apart i j k k' x y p e1 e2 s1 s2
theorem wipe_get : ∀ (σ : L2.St) (vs : List Nat) (i : Nat), (wipe σ vs)[i]? = if i ∈ vs then (σ[i]?).map (fun _ => none) else σ[i]?
  | σ, [], i => by simp [wipe]
  | σ, v :: vs, i => by
    unfold wipe
    by_cases h : v = i
    · subst h
      rw [List.getElem?_set_self', wipe_get σ vs v, if_pos (by simp : v ∈ v :: vs)]
      split
      · cases σ[v]? <;> rfl
      · rfl
    · rw [List.getElem?_set_ne h, wipe_get σ vs i]
      have e : (i ∈ v :: vs) = (i ∈ vs) := by simp [Ne.symm h]
      simp only [e]
theorem wipe_eq {vs : List Nat} (l : σ'.length = σ.length) (s : ∀ j : Nat, j ∉ vs → σ'[j]? = σ[j]?) : wipe σ' vs = wipe σ vs := by
  apply List.ext_getElem?
  intro i
  rw [wipe_get, wipe_get]
  by_cases h : i ∈ vs
  · rw [if_pos h, if_pos h]
    by_cases hi : i < σ.length
    · rw [List.getElem?_eq_getElem hi, List.getElem?_eq_getElem (by omega)]; rfl
    · rw [List.getElem?_eq_none (by omega), List.getElem?_eq_none (by omega)]
  · rw [if_neg h, if_neg h, s i h]
/-- the slots of js are not known -/
def unk (env : Env') (js : List Nat) : Prop := ∀ i ∈ js, ∀ x : Sl, env[i]? = some x → x = .u
theorem unk_of {env : Env'} {js : List Nat} (h : (js.all fun i => match env[i]? with | some .u => true | none => true | _ => false) = true) : unk env js := by
  intro i hi x e
  have := List.all_eq_true.mp h i hi
  rw [e] at this
  cases x <;> simp at this ⊢
theorem EnvC.wipe {vs : List Nat} (E : EnvC K R C env σ H) (u : unk env vs) : EnvC K R C env (wipe σ vs) H := E.resig (wipe_length σ vs) fun i x e hx => by
  rw [wipe_get, if_neg]
  intro h
  exact hx (u i h x e)
theorem EnvC.unwipe {vs : List Nat} (E : EnvC K R C env (L2.wipe σ vs) H) (u : unk env vs) : EnvC K R C env σ H := E.resig (wipe_length σ vs).symm fun i x e hx => by
  rw [wipe_get, if_neg]
  intro h
  exact hx (u i h x e)
/-- a clause's tests -/
def JTs (T : TC) (ifs : List Expr) (env env' : Env') (c : Bool) : Prop := ∀ X, CT X T → PTs X ifs (tTJ X.K env env' c)
theorem _root_.L2.PTs.wk {X : Cx} {e : List Expr} {t t' : TT} (h : PTs X e t) (hh : ∀ σ H Q, t' σ H Q → t σ H Q) : PTs X e t' := ⟨fun pins s σ H Q I q => h.run pins s σ H Q I (hh σ H Q q)⟩
theorem jts_nil : JTs T [] env env true := fun X hX => pts_nil.wk fun σ H Q ⟨R, C, E, k⟩ => k C H (Ex.refl C) E
theorem jts_one {c : Bool} (h : JT T a e0 e1 c) : JTs T [a] e0 e1 c := fun X hX => pts_one (h X hX)
def tIfsJ (T : TC) (K : PySem.W.Frag) (ifs : List Expr) : TT := fun σ H Q => ∃ E1 E2 c, JTs T ifs E1 E2 c ∧ tTJ K E1 E2 c σ H Q
def tEltJ (T : TC) (K : PySem.W.Frag) (elt : Expr) : TE := fun σ H Q => ∃ E1 E2 r, JE T elt E1 E2 r ∧ tJ K E1 E2 r σ H Q
def tTgJ (T : TC) (K : PySem.W.Frag) (tg : Expr) : TG := fun v σ H Q => ∃ js d E1 E2, JG T tg js d E1 E2 ∧ tGJ K js d E1 E2 v σ H Q
/-- a turn of a comprehension: from ev with the item d to ev', the list grown from outs to outs' -/
structure LcTurn (T : TC) (scope : Scope) (tg elt : Expr) (ifs : List Expr) (vs : List Nat) (d : PyData) (ev ev' : Env') (outs outs' : List PyData) : Prop where
  ex : ∃ (js : List Nat) (E1 E2 : Env') (c : Bool), js ⊆ vs ∧ JG (T.blk scope) tg js d ev E1 ∧ JTs (T.blk scope) ifs E1 E2 c ∧
    (c = true → ∃ E3 z, JE (T.blk scope) elt E2 E3 (.d z) ∧ Le ev' E3 ∧ outs' = outs ++ [z]) ∧ (c = false → Le ev' E2 ∧ outs' = outs)
theorem Rps.snoc {vs : List V} (r : Rps K C vs ds) (h : Rp K C v x) : Rps K C (vs ++ [v]) (ds ++ [x]) := r.append (.cons h .nil)
/-- the reading of a comprehension -/
theorem lc_run {X : Cx} (hX : CT X T) {tg elt : Expr} {ifs : List Expr} {scope : Scope} {own : List (Str × Nat)} {xs : List PyData} (ev : Nat → Env') (outs : Nat → List PyData) (h0 : ev 0 = e1) (o0 : outs 0 = [])
    (hu : ∀ i, i ≤ xs.length → unk (ev i) (own.map (·.2))) (turn : ∀ i d, xs[i]? = some d → LcTurn T scope tg elt ifs (own.map (·.2)) d (ev i) (ev (i + 1)) (outs i) (outs (i + 1))) :
    ∀ (σ : L2.St) (H : Hp) (Q : VK), tJ X.K e0 (ev xs.length) (.o (.list (outs xs.length))) σ H Q → tLc (tIJ X.K e0 e1 xs) (tTgJ (T.blk scope) X.K tg) (tIfsJ (T.blk scope) X.K ifs) (tEltJ (T.blk scope) X.K elt) (own.map (·.2)) σ H Q := by
  rintro σ H Q ⟨R, C, E, k⟩
  refine ⟨R, C, E, fun J C1 H1 c1 E1 hln io D hD => ?_⟩
  subst h0
  have olen : ∀ i, i ≤ xs.length → (outs i).length ≤ i := by
    intro i
    induction i with
    | zero => intro _; rw [o0]; exact Nat.le_refl _
    | succ i ih =>
      intro hi
      have hi' : i < xs.length := hi
      obtain ⟨js, F1, F2, c, _, _, _, ht, hf⟩ := (turn i _ (List.getElem?_eq_getElem hi')).ex
      cases c with
      | true =>
        obtain ⟨_, z, _, _, e⟩ := ht rfl
        rw [e, List.length_append]
        have := ih (Nat.le_of_lt hi')
        simp; omega
      | false =>
        rw [(hf rfl).2]
        have := ih (Nat.le_of_lt hi')
        omega
  refine ⟨fun i m H' => i + m = xs.length ∧ ∃ C' acc, Ex C1 C' ∧ EnvC X.K R C' (ev i) σ H' ∧ H' D = some (.lst acc) ∧ C' D = none ∧ R D = none ∧ NotOwn (ev i) σ D ∧ Rps X.K C' acc (outs i), ⟨xs.length, by omega, C1, [], Ex.refl _, E1.newO hD, upd_same, E1.cN hD, E1.rN hD, E1.notOwn hD, by rw [o0]; exact .nil⟩, ?_⟩
  rintro i m H' ⟨him, C', acc, cc, E', hHD, cD, rD, nD, rp⟩
  obtain ⟨st, go⟩ := io C' (ev i) σ H' cc E'
  by_cases hi : i < xs.length
  · right
    obtain ⟨g1, g2⟩ := go i xs[i] (List.getElem?_eq_getElem hi)
    refine ⟨g1, fun H2 => ∃ C2 acc2, Ex C1 C2 ∧ EnvC X.K R C2 (ev (i + 1)) σ H2 ∧ H2 D = some (.lst acc2) ∧ C2 D = none ∧ R D = none ∧ NotOwn (ev (i + 1)) σ D ∧ Rps X.K C2 acc2 (outs (i + 1)), fun H2 ⟨C2, acc2, h⟩ => ⟨m - 1, by omega, by omega, C2, acc2, h⟩, fun w H2 hy => ?_⟩
    obtain ⟨C2, c2, E2, n1, n2, n3, rw⟩ := g2 w H2 hy
    have hH2D := n2 D _ hHD
    have cD2 : C2 D = none := n3 D _ hHD cD
    obtain ⟨js, F1, F2, c, hjs, jg, jt, ht, hf⟩ := (turn i xs[i] (List.getElem?_eq_getElem hi)).ex
    -- with the new list as a part of what stands
    have lift : ∀ {R0 C0 : Hp} {en : Env'} {s0 : L2.St} {H0 : Hp} {o : HO}, EnvC X.K R0 C0 en s0 H0 → H0 D = some o → C0 D = none → NotOwn en s0 D → EnvC X.K (upd R0 D o) C0 en s0 H0 := fun {R0 C0 en s0 H0 o} E0 h1 h2 h3 => by
      refine ⟨E0.len, E0.cH, fun q u e => ?_, fun q e => ?_, E0.dat, fun j w x e => ?_, E0.apart⟩
      · by_cases h : q = D
        · subst h; rw [upd_same] at e; cases e; exact h1
        · rw [upd_ne h] at e; exact E0.rH _ _ e
      · by_cases h : q = D
        · subst h; exact h2
        · rw [upd_ne h] at e; exact E0.rc _ e
      · obtain ⟨q, k1, k0, k2, k3, k4⟩ := E0.own j w x e
        have hq : q ≠ D := fun h => by subst h; exact h3 j w x e k1
        exact ⟨q, k1, k0, k2, by rw [upd_ne hq]; exact k3, k4⟩
    have unlift : ∀ {C0 : Hp} {en : Env'} {s0 : L2.St} {H0 : Hp} {o : HO}, EnvC X.K (upd R D o) C0 en s0 H0 → EnvC X.K R C0 en s0 H0 ∧ H0 D = some o ∧ C0 D = none ∧ NotOwn en s0 D := fun {C0 en s0 H0 o} E0 => by
      refine ⟨⟨E0.len, E0.cH, fun q u e => ?_, fun q e => ?_, E0.dat, fun j w x e => ?_, E0.apart⟩, E0.rH D o upd_same, E0.rc D (by rw [upd_same]; simp), fun j w x e s1 => ?_⟩
      · by_cases h : q = D
        · subst h; rw [rD] at e; cases e
        · exact E0.rH q u (by rw [upd_ne h]; exact e)
      · by_cases h : q = D
        · subst h; exact absurd rD e
        · exact E0.rc q (by rw [upd_ne h]; exact e)
      · obtain ⟨q, k1, k0, k2, k3, k4⟩ := E0.own j w x e
        have hq : q ≠ D := fun h => by subst h; rw [upd_same] at k3; cases k3
        exact ⟨q, k1, k0, k2, by rw [upd_ne hq] at k3; exact k3, k4⟩
      · obtain ⟨q, k1, k0, k2, k3, k4⟩ := E0.own j w x e
        rw [k1] at s1; cases s1
        rw [upd_same] at k3; cases k3
    have E2' := lift (E2.wipe (hu i (Nat.le_of_lt hi))) hH2D cD2 (fun j w x e s1 => nD j w x e (by
      rw [wipe_get] at s1
      split at s1
      · cases q : σ[j]? <;> rw [q] at s1 <;> cases s1
      · exact s1))
    refine ⟨js, xs[i], ev i, F1, jg, _, C2, E2', rw, fun σ3 s3 l3 E3 => ⟨?_, F1, F2, c, jt, _, C2, E3, fun C4 H4 c4 E4 => ?_⟩⟩
    · have := wipe_eq (σ := L2.wipe σ (own.map (·.2))) (σ' := σ3) (vs := own.map (·.2)) l3 fun j hj => s3 j fun h => hj (hjs h)
      rw [this]
      apply List.ext_getElem?
      intro q
      rw [wipe_get, wipe_get]
      split
      · cases σ[q]? <;> rfl
      · rfl
    have fin : ∀ {C5 H5 : Hp} {en : Env'}, Le (ev (i + 1)) en → EnvC X.K (upd R D (.lst acc)) C5 en σ3 H5 → EnvC X.K R C5 (ev (i + 1)) σ H5 ∧ H5 D = some (.lst acc) ∧ C5 D = none ∧ NotOwn (ev (i + 1)) σ D := fun {C5 H5 en} le E5 => by
      have hU := hu (i + 1) hi
      have E5' := (E5.le le).resig (σ' := σ) (by rw [l3, wipe_length]) fun j x e hx => by
        have hj : j ∉ own.map (·.2) := fun h => hx (hU j h x e)
        rw [s3 j (fun h => hj (hjs h)), wipe_get, if_neg hj]
      exact unlift E5'
    cases c with
    | true =>
      dsimp only
      rw [if_pos rfl]
      obtain ⟨F3, z, je, le, eo⟩ := ht rfl
      refine ⟨F2, F3, .d z, je, _, C4, E4, fun y C5 H5 c5 E5 r5 => ?_⟩
      obtain ⟨E6, h6, cD6, no6⟩ := fin le E5
      refine ⟨acc, h6, lnS' (by rw [rp.len]; have := olen i (Nat.le_of_lt hi); have : LN = 16777216 := rfl; have hln' : xs.length ≤ LN := hln; omega), C5, acc ++ [y], (cc.trans c2).trans (c4.trans c5), ?_, upd_same, cD6, rD, no6, by rw [eo]; exact (rp.mono ((c2.trans c4).trans c5)).snoc r5⟩
      -- the list grown: nobody else looks at it
      refine ⟨E6.len, fun q u e => by rw [upd_ne (ne_of_none e cD6)]; exact E6.cH _ _ e, fun q u e => by rw [upd_ne (ne_of_none e rD)]; exact E6.rH _ _ e, E6.rc, E6.dat, fun j w x e => ?_, E6.apart⟩
      obtain ⟨q, k1, k0, k2, k3, k4⟩ := E6.own j w x e
      have hq : q ≠ D := fun h => by subst h; exact no6 j w x e k1
      exact ⟨q, k1, k0, k2, k3, by rw [upd_ne hq]; exact k4⟩
    | false =>
      dsimp only
      rw [if_neg Bool.false_ne_true]
      obtain ⟨le, eo⟩ := hf rfl
      obtain ⟨E6, h6, cD6, no6⟩ := fin le E4
      exact ⟨C4, acc, (cc.trans c2).trans c4, E6, h6, cD6, rD, no6, by rw [eo]; exact rp.mono (c2.trans c4)⟩
  · left
    have ei : i = xs.length := by omega
    subst ei
    exact ⟨st, k (.ref D) C' H' (c1.trans cc) E' ⟨D, rfl, cD, rD, nD, acc, hHD, by rw [rp.len]; exact Nat.le_trans (olen _ (Nat.le_refl _)) hln, rp⟩⟩
theorem je_lcG {tg iter elt : Expr} {ifs : List Expr} {scope : Scope} {xs : List PyData} (own : List (Str × Nat)) (ev : Nat → Env') (outs : Nat → List PyData) (hi : JI T tg iter e0 e1 xs) (hnd : T.N.Nodup) (ok : blkC T.N T.sc scope own = true) (h0 : ev 0 = e1) (o0 : outs 0 = [])
    (hu : ∀ i, i ≤ xs.length → unk (ev i) (own.map (·.2))) (turn : ∀ i d, xs[i]? = some d → LcTurn T scope tg elt ifs (own.map (·.2)) d (ev i) (ev (i + 1)) (outs i) (outs (i + 1))) (hs : ∀ (v : Env) x, foldedSetIterable iter v x = pure x := by intro _ _; rfl) :
    JE T (.ListComp elt [⟨tg, iter, ifs, 0⟩] scope pos) e0 (ev xs.length) (.o (.list (outs xs.length))) := fun X hX =>
  (pe_lc (own := own) (wi := tIJ X.K e0 e1 xs) (g := tTgJ (T.blk scope) X.K tg) (tt := tIfsJ (T.blk scope) X.K ifs) (te := tEltJ (T.blk scope) X.K elt) hX.calm (by rw [hX.N]; exact hnd) (hi X hX) (by rw [hX.N, hX.sc]; exact blkOk_by ok)
    (fun s H C cl fp => ⟨fun pins s1 σ H1 v u Q I r ⟨js, d, F1, F2, jg, q⟩ => (jg _ (hX.blk scope s H C cl fp)).run pins s1 σ H1 v u Q I r q⟩)
    (fun s H C cl fp => ⟨fun pins s1 σ H1 Q I ⟨F1, F2, c, jt, q⟩ => (jt _ (hX.blk scope s H C cl fp)).run pins s1 σ H1 Q I q⟩)
    (fun s H C cl fp => ⟨fun pins s1 σ H1 Q I ⟨F1, F2, r, je, q⟩ => (je _ (hX.blk scope s H C cl fp)).run pins s1 σ H1 Q I q⟩) (hs X.env)).wk (lc_run hX ev outs h0 o0 hu turn)

/-! ### statements -/
inductive Oc where
  | nx (e : Env') | ct (e : Env') | bk (e : Env') | rt (d : Re) (e : Env')
def SatS (K : PySem.W.Frag) (R C : Hp) (D : Ends) : Oc → Prop
  | .nx e => ∀ σ' C' H', Ex C C' → EnvC K R C' e σ' H' → D.nx σ' H'
  | .ct e => ∀ σ' C' H', Ex C C' → EnvC K R C' e σ' H' → D.ct σ' H'
  | .bk e => ∀ σ' C' H', Ex C C' → EnvC K R C' e σ' H' → D.bk σ' H'
  | .rt d e => ∀ v σ' C' H', Ex C C' → EnvC K R C' e σ' H' → Rr K R C' H' e σ' v d → D.rt v H'
theorem SatS.mono {D : Ends} {oc : Oc} (c : Ex C C') (h : SatS K R C D oc) : SatS K R C' D oc := by
  cases oc with
  | nx e => exact fun σ' C2 H' c' E => h σ' C2 H' (c.trans c') E
  | ct e => exact fun σ' C2 H' c' E => h σ' C2 H' (c.trans c') E
  | bk e => exact fun σ' C2 H' c' E => h σ' C2 H' (c.trans c') E
  | rt d e => exact fun v σ' C2 H' c' E => h v σ' C2 H' (c.trans c') E
def tSJ (K : PySem.W.Frag) (env : Env') (oc : Oc) : TS := fun D σ H => ∃ R C, EnvC K R C env σ H ∧ SatS K R C D oc
def JS (T : TC) (st : Stmt) (env : Env') (oc : Oc) : Prop := ∀ X, CT X T → PS X st (tSJ X.K env oc)
def JSs (T : TC) (st : List Stmt) (env : Env') (oc : Oc) : Prop := ∀ X, CT X T → PSs X st (tSJ X.K env oc)
variable {st : Stmt} {rest body : List Stmt} {oc : Oc}
theorem js_le (l : Le e0 env) (h : JSs T rest e0 oc) : JSs T rest env oc := fun X hX => (h X hX).wk fun D σ H ⟨R, C, E, k⟩ => ⟨R, C, E.le l, k⟩
theorem jss_nil : JSs T [] env (.nx env) := fun X hX => pss_nil.wk fun D σ H ⟨R, C, E, k⟩ => k σ C H (Ex.refl C) E
theorem jss_cons (h : JS T st e0 (.nx e1)) (h' : JSs T rest e1 oc) : JSs T (st :: rest) e0 oc := fun X hX => (pss_cons (h X hX) (h' X hX)).wk fun D σ H ⟨R, C, E, k⟩ => ⟨R, C, E, fun σ' C' H' c E' => ⟨R, C', E', k.mono c⟩⟩
theorem jss_rt {d : Re} (h : JS T st e0 (.rt d e1)) : JSs T (st :: rest) e0 (.rt d e1) := fun X hX => (pss_cons (h X hX) pss_never).wk fun D σ H ⟨R, C, E, k⟩ => ⟨R, C, E, k⟩
theorem jss_bk (h : JS T st e0 (.bk e1)) : JSs T (st :: rest) e0 (.bk e1) := fun X hX => (pss_cons (h X hX) pss_never).wk fun D σ H ⟨R, C, E, k⟩ => ⟨R, C, E, k⟩
theorem jss_ct (h : JS T st e0 (.ct e1)) : JSs T (st :: rest) e0 (.ct e1) := fun X hX => (pss_cons (h X hX) pss_never).wk fun D σ H ⟨R, C, E, k⟩ => ⟨R, C, E, k⟩
/-- the end of a block may forget -/
theorem jss_nxle (h : JSs T rest e0 (.nx e1)) (l : Le e2 e1) : JSs T rest e0 (.nx e2) := fun X hX => (h X hX).wk fun D σ H ⟨R, C, E, k⟩ => ⟨R, C, E, fun σ' C' H' c E' => k σ' C' H' c (E'.le l)⟩
theorem js_nxle (h : JS T st e0 (.nx e1)) (l : Le e2 e1) : JS T st e0 (.nx e2) := fun X hX => (h X hX).wk fun D σ H ⟨R, C, E, k⟩ => ⟨R, C, E, fun σ' C' H' c E' => k σ' C' H' c (E'.le l)⟩
theorem jss_rtle {d : PyData} (h : JSs T rest e0 (.rt (.d d) e1)) (l : Le e2 e1) : JSs T rest e0 (.rt (.d d) e2) := fun X hX => (h X hX).wk fun D σ H ⟨R, C, E, k⟩ => ⟨R, C, E, fun v σ' C' H' c E' r => k v σ' C' H' c (E'.le l) r⟩
/-- slot i is known for ever from here on -/
theorem jss_frz {i : Nat} {k0 : Option Addr} (he : env[i]? = some (.o k0 x)) (h : JSs T rest (env.set i (.d x)) oc) : JSs T rest env oc := fun X hX => (h X hX).wk fun D σ H ⟨R, C, E, k⟩ => by
  obtain ⟨C', c, E'⟩ := E.frz he
  exact ⟨R, C', E', k.mono c⟩
/-- what is known of a datum's size -/
theorem jss_len {i : Nat} (he : env[i]? = some (.d x)) (h : lenOk x → JSs T rest env oc) : JSs T rest env oc := fun X hX => by
  by_cases q : lenOk x
  · exact h q X hX
  · exact pss_never.wk fun D σ H ⟨R, C, E, k⟩ => by
      obtain ⟨v, _, r⟩ := E.dat i x he
      exact absurd r.lenOk q
theorem js_ret {d : Re} (h : JE T e e0 e1 d) : JS T (.Return (some e) pos) e0 (.rt d e1) := fun X hX => (ps_ret (h X hX)).wk fun D σ H ⟨R, C, E, k⟩ => ⟨R, C, E, fun v C' H' c E' r => k v σ C' H' c E' r⟩
theorem js_retN : JS T (.Return none pos) env (.rt (.d .none) env) := fun X hX => ps_retN.wk fun D σ H ⟨R, C, E, k⟩ => k _ σ C H (Ex.refl C) E .non
theorem js_pass : JS T (.Pass pos) env (.nx env) := fun X hX => ps_pass.wk fun D σ H ⟨R, C, E, k⟩ => k σ C H (Ex.refl C) E
theorem js_break : JS T (.Break pos) env (.bk env) := fun X hX => ps_break.wk fun D σ H ⟨R, C, E, k⟩ => k σ C H (Ex.refl C) E
theorem js_continue : JS T (.Continue pos) env (.ct env) := fun X hX => ps_continue.wk fun D σ H ⟨R, C, E, k⟩ => k σ C H (Ex.refl C) E
theorem js_expr {r : Re} (h : JE T e e0 e1 r) (hs : ∀ (v : Env) l, swapsWith e none l v = pure false := by intro _ _; rfl) : JS T (.Expr e pos) e0 (.nx e1) := fun X hX => (ps_expr (h X hX) (hs X.env pos.line)).wk fun D σ H ⟨R, C, E, k⟩ => ⟨R, C, E, fun v C' H' c E' _ => k σ C' H' c E'⟩
/-- name = value -/
theorem js_set (i : Nat) {nm : Str} {pos' : Pos} {d : PyData} (hnd : T.N.Nodup) (h : JE T e e0 e1 (.d d)) (hN : T.N[i]? = some nm := by rfl) (hl : locB T.sc nm = true := by rfl) (hf : T.fn nm = true ∨ T.sc.names.lookup nm = some .local := by first | exact .inl rfl | exact .inr rfl) (hs : ∀ (v : Env) l, swapsWith e (some (.Name nm pos')) l v = pure false := by intro _ _; rfl) :
    JS T (.Assign [.Name nm pos'] e pos) e0 (.nx (e1.set i (.d d))) := fun X hX =>
  (ps_set (i := i) (by rw [hX.N]; exact hnd) (by rw [hX.N]; exact hN) (by rw [hX.sc]; exact loc_of hl) (h X hX) (hs X.env pos.line) (by rcases hf with h | h; exact .inl (hX.fn _ h); exact .inr (by rw [hX.sc]; exact h))).wk fun D σ H ⟨R, C, E, k⟩ => ⟨R, C, E, fun v C' H' c E' r => k _ C' H' c (E'.set i r)⟩
theorem js_setO (i : Nat) {nm : Str} {pos' : Pos} {d : PyData} (hnd : T.N.Nodup) (h : JE T e e0 e1 (.o d)) (hN : T.N[i]? = some nm := by rfl) (hl : locB T.sc nm = true := by rfl) (hf : T.fn nm = true ∨ T.sc.names.lookup nm = some .local := by first | exact .inl rfl | exact .inr rfl) (hs : ∀ (v : Env) l, swapsWith e (some (.Name nm pos')) l v = pure false := by intro _ _; rfl) :
    JS T (.Assign [.Name nm pos'] e pos) e0 (.nx (e1.set i (.o none d))) := fun X hX =>
  (ps_set (i := i) (by rw [hX.N]; exact hnd) (by rw [hX.N]; exact hN) (by rw [hX.sc]; exact loc_of hl) (h X hX) (hs X.env pos.line) (by rcases hf with h | h; exact .inl (hX.fn _ h); exact .inr (by rw [hX.sc]; exact h))).wk fun D σ H ⟨R, C, E, k⟩ => ⟨R, C, E, fun v C' H' c E' ⟨p, ev, cp, rp, no, ow⟩ => by
    subst ev
    exact k _ C' H' c (E'.setO i cp rp no ow)⟩
/-- name = [..], the name a local -/
theorem js_setLcG (i : Nat) {nm : Str} {py : Pos} {tg iter elt : Expr} {ifs : List Expr} {scope : Scope} {xs : List PyData} {spos : Pos} (own : List (Str × Nat)) (ev : Nat → Env') (outs : Nat → List PyData) (hi : JI T tg iter e0 e1 xs) (hnd : T.N.Nodup) (ok : blkC T.N T.sc scope own = true) (h0 : ev 0 = e1) (o0 : outs 0 = [])
    (hu : ∀ i, i ≤ xs.length → unk (ev i) (own.map (·.2))) (turn : ∀ i d, xs[i]? = some d → LcTurn T scope tg elt ifs (own.map (·.2)) d (ev i) (ev (i + 1)) (outs i) (outs (i + 1))) (hN : T.N[i]? = some nm := by rfl) (hl : T.sc.names.lookup nm = some .local := by rfl) (hk : T.sc.kind = .function := by rfl) (hpl : (py.line == pos.line) = true := by rfl) (ha : (scope.names.any fun (n, k) => n == nm && (k == .local || k == .cell)) = false := by decide +kernel) (hs : ∀ (v : Env) x, foldedSetIterable iter v x = pure x := by intro _ _; rfl) :
    JS T (.Assign [.Name nm py] (.ListComp elt [⟨tg, iter, ifs, 0⟩] scope pos) spos) e0 (.nx ((ev xs.length).set i (.o none (.list (outs xs.length))))) := fun X hX =>
  (ps_setLc (i := i) (own := own) (wi := tIJ X.K e0 e1 xs) (g := tTgJ (T.blk scope) X.K tg) (tt := tIfsJ (T.blk scope) X.K ifs) (te := tEltJ (T.blk scope) X.K elt) hX.calm (by rw [hX.N]; exact hnd) (by rw [hX.N]; exact hN) (by rw [hX.sc]; exact hl)
    (sw_true (by rw [hX.sc]; exact hk) (by rw [hX.sc]; exact hl) hpl ha) (hi X hX) (by rw [hX.N, hX.sc]; exact blkOk_by ok)
    (fun s H C cl fp => ⟨fun pins s1 σ H1 v u Q I r ⟨js, d, F1, F2, jg, q⟩ => (jg _ (hX.blk scope s H C cl fp)).run pins s1 σ H1 v u Q I r q⟩)
    (fun s H C cl fp => ⟨fun pins s1 σ H1 Q I ⟨F1, F2, c, jt, q⟩ => (jt _ (hX.blk scope s H C cl fp)).run pins s1 σ H1 Q I q⟩)
    (fun s H C cl fp => ⟨fun pins s1 σ H1 Q I ⟨F1, F2, r, je, q⟩ => (je _ (hX.blk scope s H C cl fp)).run pins s1 σ H1 Q I q⟩) (hs X.env)).wk fun D σ H ⟨R, C, E, k⟩ =>
      lc_run hX ev outs h0 o0 hu turn σ H _ ⟨R, C, E, fun v C' H' c E' ⟨p, evv, cp, rp, no, ow⟩ => by
        subst evv
        exact k _ C' H' c (E'.setO i cp rp no ow)⟩
end
end J
namespace J
open PySem L2 PySem.Spec PyProof.Rows
section
variable {T : TC} {a b e : Expr} {es : List Expr} {env e0 e1 e2 e3 : Env'} {pos p : Pos} {x y z : PyData} {ds : List PyData} {K : PySem.W.Frag} {R C C' H H' : Hp} {σ σ' : L2.St} {v : V} {st : Stmt} {rest body A B : List Stmt} {oc : Oc}

/-! ### if -/
theorem js_if {c : Bool} (ht : JT T e e0 e1 c) (ha : c = true → JSs T A e1 oc) (hb : c = false → JSs T B e1 oc) : JS T (.If e A B pos) e0 oc := fun X hX => by
  cases c with
  | true => exact (ps_if (ht X hX) (ha rfl X hX) pss_never).wk fun D σ H ⟨R, C, E, k⟩ => ⟨R, C, E, fun C' H' c E' => ⟨R, C', E', k.mono c⟩⟩
  | false => exact (ps_if (ht X hX) pss_never (hb rfl X hX)).wk fun D σ H ⟨R, C, E, k⟩ => ⟨R, C, E, fun C' H' c E' => ⟨R, C', E', k.mono c⟩⟩
/-- both ways meet -/
theorem js_ifn {L : Type} (E : L → Env') {c : Bool} {l l' : L} (ht : JT T e e0 e1 c) (ha : c = true → ∃ eA, JSs T A e1 (.nx eA) ∧ Le (E l) eA) (hb : c = false → ∃ eB, JSs T B e1 (.nx eB) ∧ Le (E l') eB) : JS T (.If e A B pos) e0 (.nx (E (if c = true then l else l'))) := by
  refine js_if ht (fun h => ?_) (fun h => ?_)
  · obtain ⟨eA, h1, h2⟩ := ha h
    rw [if_pos h]; exact jss_nxle h1 h2
  · obtain ⟨eA, h1, h2⟩ := hb h
    rw [if_neg (by rw [h]; exact Bool.false_ne_true)]; exact jss_nxle h1 h2
/-- a block that returns: its result r, told by cr and er -/
def JB (T : TC) {ρ : Type} (cr : ρ → PyData) (er : ρ → Env') (sts : List Stmt) (env : Env') (r : ρ) : Prop := JSs T sts env (.rt (.d (cr r)) (er r))
section
variable {ρ : Type} {cr : ρ → PyData} {er : ρ → Env'}
theorem jb_ret {r : ρ} (h : JE T e e0 e1 (.d (cr r))) (l : Le (er r) e1) : JB T cr er (.Return (some e) pos :: rest) e0 r := jss_rt (fun X hX => (js_ret h X hX).wk fun D σ H ⟨R, C, E, k⟩ => ⟨R, C, E, fun v σ' C' H' c E' r' => k v σ' C' H' c (E'.le l) r'⟩)
theorem jb_cons {r : ρ} (h : JS T st e0 (.nx e1)) (h' : JB T cr er rest e1 r) : JB T cr er (st :: rest) e0 r := jss_cons h h'
theorem jb_le {r : ρ} (l : Le e0 env) (h : JB T cr er rest e0 r) : JB T cr er rest env r := js_le l h
theorem jb_is {r r' : ρ} (h : JB T cr er rest e0 r) (q : r = r') : JB T cr er rest e0 r' := q ▸ h
/-- if t: .. return, then the rest -/
theorem jb_ifr {c : Bool} {r r' : ρ} (ht : JT T e e0 e1 c) (ha : c = true → JB T cr er A e1 r) (hb : c = false → JB T cr er rest e1 r') : JB T cr er (.If e A [] pos :: rest) e0 (if c = true then r else r') := by
  cases c with
  | true =>
    rw [if_pos rfl]
    exact jss_rt (js_if ht (fun _ => ha rfl) (fun h => by cases h))
  | false =>
    rw [if_neg Bool.false_ne_true]
    exact jss_cons (js_if ht (fun h => by cases h) (fun _ => jss_nil)) (hb rfl)
/-- both ways return -/
theorem jb_if2 {c : Bool} {r r' : ρ} (ht : JT T e e0 e1 c) (ha : c = true → JB T cr er A e1 r) (hb : c = false → JB T cr er B e1 r') : JB T cr er (.If e A B pos :: rest) e0 (if c = true then r else r') := by
  refine jss_rt (js_if ht (fun h => ?_) (fun h => ?_))
  · rw [if_pos h]; exact ha h
  · rw [if_neg (by rw [h]; exact Bool.false_ne_true)]; exact hb h
end

/-! ### loops -/
def LoopGo (oc : Oc) (e : Env') : Prop := ∃ e', Le e e' ∧ (oc = .nx e' ∨ oc = .ct e')
theorem LoopGo.nx {e e' : Env'} (l : Le e e') : LoopGo (.nx e') e := ⟨e', l, .inl rfl⟩
theorem LoopGo.ct {e e' : Env'} (l : Le e e') : LoopGo (.ct e') e := ⟨e', l, .inr rfl⟩
def tBodyJ (T : TC) (K : PySem.W.Frag) (body : List Stmt) : TS := fun D σ H => ∃ E1 oc, JSs T body E1 oc ∧ tSJ K E1 oc D σ H
theorem body_ps {X : Cx} (hX : CT X T) : PSs X body (tBodyJ T X.K body) := ⟨fun pins s σ H D I ⟨E1, oc, h, q⟩ => (h X hX).run pins s σ H D I q⟩
/-- the loop: n whole turns, then the end, a break or a return -/
theorem js_forG {tg iter : Expr} {xs : List PyData} (ev : Nat → Env') (n : Nat) (hi : JI T tg iter e0 e1 xs) (h0 : Le (ev 0) e1) (hn : n ≤ xs.length)
    (turn : ∀ i d, i < n → xs[i]? = some d → ∃ js E1 oc, JG T tg js d (ev i) E1 ∧ JSs T body E1 oc ∧ LoopGo oc (ev (i + 1)))
    (fin : (n = xs.length ∧ oc = .nx (ev n)) ∨ ∃ d js E1 oc', xs[n]? = some d ∧ JG T tg js d (ev n) E1 ∧ JSs T body E1 oc' ∧ ((∃ r e, oc' = .rt r e ∧ oc = .rt r e) ∨ ∃ e, oc' = .bk e ∧ oc = .nx e))
    (hs : ∀ (v : Env) x, foldedSetIterable iter v x = pure x := by intro _ _; rfl) : JS T (.For tg iter body [] pos) e0 oc := fun X hX =>
  (ps_for (g := tTgJ T X.K tg) (tb := tBodyJ T X.K body) hX.pass hX.calm (hi X hX) ⟨fun pins s1 σ H1 v u Q I r ⟨js, d, F1, F2, jg, q⟩ => (jg _ hX).run pins s1 σ H1 v u Q I r q⟩ (body_ps hX) (hs X.env)).wk fun D σ H ⟨R, C, E, k⟩ => ⟨R, C, E, fun J C1 H1 c1 E1 hln io => by
    refine ⟨fun i m σ' H' => i + m = xs.length ∧ i ≤ n ∧ ∃ C', Ex C1 C' ∧ EnvC X.K R C' (ev i) σ' H', ⟨xs.length, by omega, Nat.zero_le _, C1, Ex.refl _, E1.le h0⟩, ?_⟩
    rintro i m σ' H' ⟨him, hin, C', cc, E'⟩
    obtain ⟨st, go⟩ := io C' (ev i) σ' H' cc E'
    by_cases hi : i < n
    · right
      have hx : i < xs.length := by omega
      obtain ⟨g1, g2⟩ := go i xs[i] (List.getElem?_eq_getElem hx)
      refine ⟨g1, fun σ2 H2 => ∃ C2, Ex C1 C2 ∧ EnvC X.K R C2 (ev (i + 1)) σ2 H2, fun σ2 H2 ⟨C2, c2, E2⟩ => ⟨m - 1, by omega, by omega, by omega, C2, c2, E2⟩, fun w H2 hy => ?_⟩
      obtain ⟨C2, c2, E2, n1, n2, n3, rw⟩ := g2 w H2 hy
      obtain ⟨js, F1, oc1, jg, jb, lg⟩ := turn i xs[i] hi (List.getElem?_eq_getElem hx)
      refine ⟨js, xs[i], ev i, F1, jg, R, C2, E2, rw, fun σ3 s3 l3 E3 => ⟨F1, oc1, jb, R, C2, E3, ?_⟩⟩
      obtain ⟨e', le, h | h⟩ := lg
      · subst h
        exact fun σ4 C4 H4 c4 E4 => ⟨C4, (cc.trans c2).trans c4, E4.le le⟩
      · subst h
        exact fun σ4 C4 H4 c4 E4 => ⟨C4, (cc.trans c2).trans c4, E4.le le⟩
    · have ei : i = n := by omega
      subst ei
      rcases fin with ⟨hl, ho⟩ | ⟨d, js, F1, oc', hd, jg, jb, h⟩
      · left
        subst ho
        exact ⟨by rw [hl]; exact st, k σ' C' H' (c1.trans cc) E'⟩
      · right
        obtain ⟨g1, g2⟩ := go i d hd
        refine ⟨g1, fun _ _ => False, fun _ _ h => h.elim, fun w H2 hy => ?_⟩
        obtain ⟨C2, c2, E2, n1, n2, n3, rw⟩ := g2 w H2 hy
        refine ⟨js, d, ev i, F1, jg, R, C2, E2, rw, fun σ3 s3 l3 E3 => ⟨F1, oc', jb, R, C2, E3, ?_⟩⟩
        have cc3 : Ex C C2 := (c1.trans cc).trans c2
        rcases h with ⟨r, e, h1, h2⟩ | ⟨e, h1, h2⟩
        · subst h1; subst h2
          exact fun v σ4 C4 H4 c4 E4 r4 => k v σ4 C4 H4 (cc3.trans c4) E4 r4
        · subst h1; subst h2
          exact fun σ4 C4 H4 c4 E4 => k σ4 C4 H4 (cc3.trans c4) E4⟩
theorem take_get {α : Type} {xs : List α} {i : Nat} {x : α} (h : xs[i]? = some x) : xs.take (i + 1) = xs.take i ++ [x] := by
  rw [List.take_add_one, h]; rfl
/-- a loop that goes through -/
theorem js_for {α L : Type} {enc : α → PyData} {tg iter : Expr} {xs : List α} (E : L → Env') (step : L → α → L) (l0 : L) (hi : JI T tg iter e0 e1 (xs.map enc)) (h0 : Le (E l0) e1)
    (turn : ∀ i x l, xs[i]? = some x → l = (xs.take i).foldl step l0 → ∃ js E1 oc, JG T tg js (enc x) (E l) E1 ∧ JSs T body E1 oc ∧ LoopGo oc (E (step l x)))
    (hs : ∀ (v : Env) x, foldedSetIterable iter v x = pure x := by intro _ _; rfl) : JS T (.For tg iter body [] pos) e0 (.nx (E (xs.foldl step l0))) := by
  refine js_forG (fun i => E ((xs.take i).foldl step l0)) (xs.map enc).length hi (by simpa using h0) (Nat.le_refl _) (fun i d hn hd => ?_) (.inl ⟨rfl, ?_⟩) hs
  · rw [List.getElem?_map] at hd
    cases q : xs[i]? with
    | none => rw [q] at hd; cases hd
    | some x =>
      rw [q] at hd
      cases hd
      obtain ⟨js, E1, oc, h1, h2, h3⟩ := turn i x _ q rfl
      refine ⟨js, E1, oc, h1, h2, ?_⟩
      rw [take_get q, List.foldl_append]
      exact h3
  · rw [List.length_map, List.take_length]
/-- a loop that may return -/
def forR {α L ρ : Type} (step : L → α → L ⊕ ρ) : L → List α → L ⊕ ρ
  | l, [] => .inl l
  | l, x :: xs => match step l x with
    | .inl l' => forR step l' xs
    | .inr r => .inr r
theorem forR_snoc {α L ρ : Type} (step : L → α → L ⊕ ρ) : ∀ (xs : List α) (l : L) (x : α), forR step l (xs ++ [x]) = match forR step l xs with
    | .inl l' => step l' x
    | .inr r => .inr r
  | [], l, x => by
    simp only [List.nil_append, forR]
    cases step l x <;> rfl
  | y :: xs, l, x => by
    simp only [List.cons_append, forR]
    cases step l y with
    | inl l' => exact forR_snoc step xs l' x
    | inr r => rfl
theorem forR_ret {α L ρ : Type} (step : L → α → L ⊕ ρ) : ∀ (xs : List α) (l : L) (r : ρ), forR step l xs = .inr r → ∃ n x l', xs[n]? = some x ∧ forR step l (xs.take n) = .inl l' ∧ step l' x = .inr r
  | [], l, r, h => by simp [forR] at h
  | y :: xs, l, r, h => by
    simp only [forR] at h
    cases q : step l y with
    | inl l' =>
      rw [q] at h
      obtain ⟨n, x, l2, h1, h2, h3⟩ := forR_ret step xs l' r h
      refine ⟨n + 1, x, l2, by simpa using h1, ?_, h3⟩
      simp only [List.take_succ_cons, forR, q]
      exact h2
    | inr r' =>
      rw [q] at h
      cases h
      exact ⟨0, y, l, rfl, rfl, q⟩
theorem forR_take {α L ρ : Type} (step : L → α → L ⊕ ρ) : ∀ (xs : List α) (l l' : L) (n : Nat), forR step l xs = .inl l' → ∃ l2, forR step l (xs.take n) = .inl l2
  | [], l, l', n, h => ⟨l, by rw [List.take_nil]; rfl⟩
  | y :: xs, l, l', 0, h => ⟨l, rfl⟩
  | y :: xs, l, l', n + 1, h => by
    simp only [forR, List.take_succ_cons] at h ⊢
    cases q : step l y with
    | inl l2 => rw [q] at h; exact forR_take step xs l2 l' n h
    | inr r => rw [q] at h; cases h
def ocR {L ρ : Type} (E : L → Env') (cr : ρ → PyData) (er : ρ → Env') : L ⊕ ρ → Oc
  | .inl l => .nx (E l)
  | .inr r => .rt (.d (cr r)) (er r)
theorem js_forR {α L ρ : Type} {enc : α → PyData} {tg iter : Expr} {xs : List α} (cr : ρ → PyData) (er : ρ → Env') (E : L → Env') (step : L → α → L ⊕ ρ) (l0 : L) (hi : JI T tg iter e0 e1 (xs.map enc)) (h0 : Le (E l0) e1)
    (turn : ∀ i x l, xs[i]? = some x → forR step l0 (xs.take i) = .inl l → ∃ js E1 oc, JG T tg js (enc x) (E l) E1 ∧ JSs T body E1 oc ∧ ((∃ l', step l x = .inl l' ∧ LoopGo oc (E l')) ∨ ∃ r, step l x = .inr r ∧ oc = .rt (.d (cr r)) (er r)))
    (hs : ∀ (v : Env) x, foldedSetIterable iter v x = pure x := by intro _ _; rfl) : JS T (.For tg iter body [] pos) e0 (ocR E cr er (forR step l0 xs)) := by
  have main : ∀ n, n ≤ xs.length → (∃ l, forR step l0 (xs.take n) = .inl l) → ∀ i d, i < n → (xs.map enc)[i]? = some d → ∃ js E1 oc, JG T tg js d ((fun i => match forR step l0 (xs.take i) with | .inl l => E l | .inr _ => []) i) E1 ∧ JSs T body E1 oc ∧ LoopGo oc ((fun i => match forR step l0 (xs.take i) with | .inl l => E l | .inr _ => []) (i + 1)) := fun n hn ⟨ln, hl⟩ i d hi hd => by
    rw [List.getElem?_map] at hd
    cases q : xs[i]? with
    | none => rw [q] at hd; cases hd
    | some x =>
      rw [q] at hd
      cases hd
      obtain ⟨l2, h2⟩ := forR_take step (xs.take n) l0 ln i hl
      rw [List.take_take, Nat.min_eq_left (Nat.le_of_lt hi)] at h2
      obtain ⟨l3, h3⟩ := forR_take step (xs.take n) l0 ln (i + 1) hl
      rw [List.take_take, Nat.min_eq_left hi] at h3
      have e3 := h3
      rw [take_get q, forR_snoc, h2] at e3
      obtain ⟨js, E1, oc, k1, k2, k3⟩ := turn i x l2 q h2
      refine ⟨js, E1, oc, by simp only [h2]; exact k1, k2, ?_⟩
      simp only [h3]
      rcases k3 with ⟨l', k4, k5⟩ | ⟨r, k4, _⟩
      · simp only at e3
        rw [k4] at e3; cases e3; exact k5
      · simp only at e3
        rw [k4] at e3; cases e3
  cases q : forR step l0 xs with
  | inl l =>
    refine js_forG (fun i => match forR step l0 (xs.take i) with | .inl l => E l | .inr _ => []) xs.length hi (by simpa [forR] using h0) (by simp) (main xs.length (Nat.le_refl _) ⟨l, by rw [List.take_length]; exact q⟩) (.inl ⟨by simp, ?_⟩) hs
    simp only [List.take_length, q]
    rfl
  | inr r =>
    obtain ⟨n, x, l', h1, h2, h3⟩ := forR_ret step xs l0 r q
    have hn : n < xs.length := (List.getElem?_eq_some_iff.mp h1).1
    refine js_forG (fun i => match forR step l0 (xs.take i) with | .inl l => E l | .inr _ => []) n hi (by simpa [forR] using h0) (by simp; omega) (main n (Nat.le_of_lt hn) ⟨l', h2⟩) (.inr ?_) hs
    obtain ⟨js, E1, oc, k1, k2, k3⟩ := turn n x l' h1 h2
    refine ⟨enc x, js, E1, oc, by rw [List.getElem?_map, h1]; rfl, by simp only [h2]; exact k1, k2, .inl ?_⟩
    rcases k3 with ⟨l2, k4, _⟩ | ⟨r', k4, k5⟩
    · rw [h3] at k4; cases k4
    · rw [h3] at k4; cases k4
      exact ⟨.d (cr r), er r, k5, rfl⟩
section
variable {ρ L : Type} {cr : ρ → PyData} {er : ρ → Env'}
/-- behind a statement that may return -/
def orR {L ρ : Type} (o : L ⊕ ρ) (k : L → ρ) : ρ := match o with
  | .inl l => k l
  | .inr r => r
theorem jb_or {E : L → Env'} {o : L ⊕ ρ} {k : L → ρ} (h : JS T st e0 (ocR E cr er o)) (h' : ∀ l, o = .inl l → JB T cr er rest (E l) (k l)) : JB T cr er (st :: rest) e0 (orR o k) := by
  cases o with
  | inl l => exact jss_cons h (h' l rfl)
  | inr r => exact jss_rt h
/-- blocks that may return: the body of a loop -/
def JM (T : TC) (E : L → Env') (cr : ρ → PyData) (er : ρ → Env') (sts : List Stmt) (env : Env') (o : L ⊕ ρ) : Prop := ∃ oc, JSs T sts env oc ∧ ((∃ l', o = .inl l' ∧ ∃ e', oc = .nx e' ∧ Le (E l') e') ∨ ∃ r, o = .inr r ∧ oc = .rt (.d (cr r)) (er r))
variable {E : L → Env'}
theorem jm_nil {l : L} (h : Le (E l) env) : JM T E cr er [] env (.inl l) := ⟨_, jss_nil, .inl ⟨l, rfl, _, rfl, h⟩⟩
theorem jm_cons {o : L ⊕ ρ} (h : JS T st e0 (.nx e1)) (h' : JM T E cr er rest e1 o) : JM T E cr er (st :: rest) e0 o := by
  obtain ⟨oc, h1, h2⟩ := h'
  exact ⟨oc, jss_cons h h1, h2⟩
theorem jm_b {r : ρ} (h : JB T cr er rest e0 r) : JM T E cr er rest e0 (.inr r) := ⟨_, h, .inr ⟨r, rfl, rfl⟩⟩
theorem jm_le {o : L ⊕ ρ} (l : Le e0 env) (h : JM T E cr er rest e0 o) : JM T E cr er rest env o := by
  obtain ⟨oc, h1, h2⟩ := h
  exact ⟨oc, js_le l h1, h2⟩
theorem jm_is {o o' : L ⊕ ρ} (h : JM T E cr er rest e0 o) (q : o = o') : JM T E cr er rest e0 o' := q ▸ h
theorem jm_ifr {c : Bool} {r : ρ} {o : L ⊕ ρ} (ht : JT T e e0 e1 c) (ha : c = true → JB T cr er A e1 r) (hb : c = false → JM T E cr er rest e1 o) : JM T E cr er (.If e A [] pos :: rest) e0 (if c = true then .inr r else o) := by
  cases c with
  | true =>
    rw [if_pos rfl]
    exact jm_b (jss_rt (js_if ht (fun _ => ha rfl) (fun h => by cases h)))
  | false =>
    rw [if_neg Bool.false_ne_true]
    exact jm_cons (js_if ht (fun h => by cases h) (fun _ => jss_nil)) (hb rfl)
/-- the last statement of a loop's body -/
theorem jm_if2 {c : Bool} {o o' : L ⊕ ρ} (ht : JT T e e0 e1 c) (ha : c = true → JM T E cr er A e1 o) (hb : c = false → JM T E cr er B e1 o') : JM T E cr er [.If e A B pos] e0 (if c = true then o else o') := by
  cases c with
  | true =>
    rw [if_pos rfl]
    obtain ⟨oc, h1, h2⟩ := ha rfl
    refine ⟨oc, ?_, h2⟩
    rcases h2 with ⟨l', _, e', h, _⟩ | ⟨r, _, h⟩
    · subst h; exact jss_cons (js_if ht (fun _ => h1) (fun h => by cases h)) jss_nil
    · subst h; exact jss_rt (js_if ht (fun _ => h1) (fun h => by cases h))
  | false =>
    rw [if_neg Bool.false_ne_true]
    obtain ⟨oc, h1, h2⟩ := hb rfl
    refine ⟨oc, ?_, h2⟩
    rcases h2 with ⟨l', _, e', h, _⟩ | ⟨r, _, h⟩
    · subst h; exact jss_cons (js_if ht (fun h => by cases h) (fun _ => h1)) jss_nil
    · subst h; exact jss_rt (js_if ht (fun h => by cases h) (fun _ => h1))
/-- an if that may return -/
theorem js_ifM {c : Bool} {o o' : L ⊕ ρ} (ht : JT T e e0 e1 c) (ha : c = true → JM T E cr er A e1 o) (hb : c = false → JM T E cr er B e1 o') : JS T (.If e A B pos) e0 (ocR E cr er (if c = true then o else o')) := by
  cases c with
  | true =>
    rw [if_pos rfl]
    obtain ⟨oc, h1, h2⟩ := ha rfl
    rcases h2 with ⟨l', h3, e', h, le⟩ | ⟨r, h3, h⟩
    · subst h; subst h3; exact js_nxle (js_if ht (fun _ => h1) (fun h => by cases h)) le
    · subst h; subst h3; exact js_if ht (fun _ => h1) (fun h => by cases h)
  | false =>
    rw [if_neg Bool.false_ne_true]
    obtain ⟨oc, h1, h2⟩ := hb rfl
    rcases h2 with ⟨l', h3, e', h, le⟩ | ⟨r, h3, h⟩
    · subst h; subst h3; exact js_nxle (js_if ht (fun h => by cases h) (fun _ => h1)) le
    · subst h; subst h3; exact js_if ht (fun h => by cases h) (fun _ => h1)
/-- a statement that may return, within such a block -/
theorem jm_or {L' : Type} {E' : L' → Env'} {o : L' ⊕ ρ} {k : L' → L ⊕ ρ} (h : JS T st e0 (ocR E' cr er o)) (h' : ∀ l, o = .inl l → JM T E cr er rest (E' l) (k l)) : JM T E cr er (st :: rest) e0 (match o with | .inl l => k l | .inr r => .inr r) := by
  cases o with
  | inl l => exact jm_cons h (h' l rfl)
  | inr r => exact jm_b (jss_rt h)
end

/-! ### while -/
def whileR {L ρ : Type} (c : L → Bool) (step : L → L ⊕ ρ) : Nat → L → L ⊕ ρ
  | 0, l => .inl l
  | n + 1, l => if c l = true then (match step l with
    | .inl l' => whileR c step n l'
    | .inr r => .inr r) else .inl l
/-- it ends within n turns -/
def whileEnds {L ρ : Type} (c : L → Bool) (step : L → L ⊕ ρ) : Nat → L → Prop
  | 0, l => c l = false
  | n + 1, l => c l = true → ∀ l', step l = .inl l' → whileEnds c step n l'
/-- what a loop comes to -/
inductive Reach {L ρ : Type} (c : L → Bool) (step : L → L ⊕ ρ) (l0 : L) : L → Prop
  | z : Reach c step l0 l0
  | s {l l' : L} : Reach c step l0 l → c l = true → step l = .inl l' → Reach c step l0 l'
theorem js_whileR {L ρ : Type} {test : Expr} (cr : ρ → PyData) (er : ρ → Env') (E : L → Env') (c : L → Bool) (step : L → L ⊕ ρ) (n : Nat) (l0 : L) (h0 : Le (E l0) env) (ends : whileEnds c step n l0)
    (ht : ∀ l, Reach c step l0 l → JT T test (E l) (E l) (c l))
    (turn : ∀ l, Reach c step l0 l → c l = true → JM T E cr er body (E l) (step l)) : JS T (.While test body [] pos) env (ocR E cr er (whileR c step n l0)) := fun X hX =>
  (ps_while (tc := fun σ H Q => ∃ l, (JT T test (E l) (E l) (c l)) ∧ tTJ X.K (E l) (E l) (c l) σ H Q) (tb := tBodyJ T X.K body) hX.pass ⟨fun pins s σ H Q I ⟨l, h, q⟩ => (h X hX).run pins s σ H Q I q⟩ (body_ps hX)).wk fun D σ H ⟨R, C, E', k⟩ => by
    refine ⟨fun m σ' H' => ∃ l C', Ex C C' ∧ EnvC X.K R C' (E l) σ' H' ∧ Reach c step l0 l ∧ whileEnds c step m l ∧ whileR c step m l = whileR c step n l0, ⟨n, l0, C, Ex.refl C, E'.le h0, .z, ends, rfl⟩, ?_⟩
    rintro m σ' H' ⟨l, C', cc, E1, hr, he, ew⟩
    refine ⟨l, ht l hr, R, C', E1, fun C2 H2 c2 E2 => ?_⟩
    cases q : c l with
    | false =>
      rw [if_neg Bool.false_ne_true]
      have : whileR c step m l = .inl l := by
        cases m with
        | zero => rfl
        | succ m => simp only [whileR, q]; rfl
      rw [← ew, this] at k
      exact k σ' C2 H2 (cc.trans c2) E2
    | true =>
      rw [if_pos rfl]
      cases m with
      | zero => have he' : c l = false := he; rw [he'] at q; cases q
      | succ m =>
        obtain ⟨oc, jb, h⟩ := turn l hr q
        simp only [whileR, q, if_true] at ew
        refine ⟨fun σ3 H3 => ∃ l2 C3, Ex C C3 ∧ EnvC X.K R C3 (E l2) σ3 H3 ∧ Reach c step l0 l2 ∧ whileEnds c step m l2 ∧ whileR c step m l2 = whileR c step n l0, fun σ3 H3 h3 => ⟨m, Nat.lt_succ_self m, h3⟩, E l, oc, jb, R, C2, E2, ?_⟩
        rcases h with ⟨l', hs, e', h, le⟩ | ⟨r, hs, h⟩
        · subst h
          rw [hs] at ew
          exact fun σ4 C4 H4 c4 E4 => ⟨l', C4, (cc.trans c2).trans c4, E4.le le, hr.s q hs, he q l' hs, ew⟩
        · subst h
          rw [hs] at ew
          rw [← ew] at k
          exact fun v σ4 C4 H4 c4 E4 r4 => k v σ4 C4 H4 ((cc.trans c2).trans c4) E4 r4
/-- a while that only goes on -/
def whileL {L : Type} (c : L → Bool) (step : L → L) : Nat → L → L
  | 0, l => l
  | n + 1, l => if c l = true then whileL c step n (step l) else l
theorem whileR_L {L ρ : Type} (c : L → Bool) (step : L → L) : ∀ (n : Nat) (l : L), whileR (ρ := ρ) c (fun l => .inl (step l)) n l = .inl (whileL c step n l)
  | 0, l => rfl
  | n + 1, l => by
    simp only [whileR, whileL]
    split
    · exact whileR_L c step n (step l)
    · rfl
theorem js_while {L : Type} {test : Expr} (E : L → Env') (c : L → Bool) (step : L → L) (n : Nat) (l0 : L) (h0 : Le (E l0) env) (ends : whileEnds (ρ := PyData) c (fun l => .inl (step l)) n l0)
    (ht : ∀ l, Reach (ρ := PyData) c (fun l => .inl (step l)) l0 l → JT T test (E l) (E l) (c l))
    (turn : ∀ l, Reach (ρ := PyData) c (fun l => .inl (step l)) l0 l → c l = true → JM T E (fun d : PyData => d) (fun _ => []) body (E l) (.inl (step l))) : JS T (.While test body [] pos) env (.nx (E (whileL c step n l0))) := by
  have := js_whileR (ρ := PyData) (pos := pos) (fun d => d) (fun _ => []) E c (fun l => .inl (step l)) n l0 h0 ends ht turn
  rw [whileR_L] at this
  exact this
end
end J
namespace J
open PySem L2 PySem.Spec PyProof.Rows
section
variable {T : TC} {a b e : Expr} {es : List Expr} {env e0 e1 e2 e3 : Env'} {pos p : Pos} {x y z : PyData} {ds : List PyData} {K : PySem.W.Frag} {R C C' H H' : Hp} {σ σ' : L2.St} {v : V} {st : Stmt} {rest body : List Stmt} {oc : Oc}

/-! ### lists that change -/
/-- the facts of a method call's arguments -/
structure PlainM (o : Expr) (nm : Str) (apos : Pos) (e : Expr) (es : List Expr) (cpos : Pos) : Prop where
  base : ∀ v : Env, attributeBase o nm v (eval o v) = eval o v
  few : ∀ v : Env, ((backTo cpos (starEach (e :: es) v)).all (fun x => !x.1) && (backToKw cpos (keywordEach [] v)).all (fun x => x.1.isSome)
      && decide ((e :: es).length + ([] : List Keyword).length + (if ([] : List Keyword).isEmpty then 0 else 1) < 30)) = true
  line : (apos.endLine == cpos.line) = true
  hs : ∀ v : Env, starEach (e :: es) v = (false, eval e v) :: starEach es v
  plain : ∀ v : Env, (backTo cpos (starEach es v)).any (·.1) = false
/-- a method of a built-in type that changes the object that slot i owns -/
theorem je_mo {Ty id : String} {nm mt : Str} {r : V → List V → Hp → VK → Prop} {apos np : Pos} (i : Nat) {d d' : PyData} {w : PyData} {k0 : Option Addr} (pa : PlainAttrs Ty) (slot : Slot Ty mt id) (hty : typeOf (.builtin id) = pure (.type "method_descriptor")) (hm : ∀ X, CT X T → MtR X id r)
    (hN : T.N[i]? = some nm) (hv : visB T.sc nm = true) (h0 : ∃ d0, e0[i]? = some (.o k0 d0)) (ha : JA T (e :: es) e0 e1 ds) (he : e1[i]? = some (.o k0 d)) (ty : ∀ C H p, Ow T.K C (H p) d → tyV T.K Ty (.ref p) H)
    (ho : ∀ R C H σ p vs (Q : VK), EnvC T.K R C e1 σ H → σ[i]? = some (some (.ref p)) → C p = none → R p = none → Ow T.K C (H p) d → Rps T.K C vs ds →
      (∀ w' C' H', Ex C C' → EnvC T.K R C' (e1.set i (.o k0 d')) σ H' → Rp T.K C' w' w → Q w' H') → r (.ref p) vs H Q)
    (hp : PlainM (.Name nm np) mt apos e es pos := by exact ⟨fun _ => rfl, fun _ => rfl, rfl, fun _ => rfl, fun _ => rfl⟩) (ty0 : ∀ (H : Hp) p d0, (∃ C, Ow T.K C (H p) d0) → tyV T.K Ty (.ref p) H)
    (hd : (nm == ("__debug__" : Str)) = false := by decide) (hcd : (nm == ("__classdict__" : Str)) = false := by decide) :
    JE T (.Call (.Attribute (.Name nm np) mt apos) (e :: es) [] pos) e0 (e1.set i (.o k0 d')) (.d w) := fun X hX =>
  (pe_bm pa slot hty (hm X hX) (pe_var (i := i) (by rw [hX.N]; exact hN) (by rw [hX.sc]; exact vis_of hv) hd hcd) (ha X hX) (hp.base X.env) (hp.few X.env) hp.line (hp.hs X.env) (hp.plain X.env)).wk fun σ H Q ⟨R, C, E, k⟩ => by
    rw [hX.K] at *
    obtain ⟨d0, h0⟩ := h0
    obtain ⟨p, s0, _, _, _, ow0⟩ := E.own i k0 d0 h0
    refine ⟨.ref p, s0, ty0 H p d0 ⟨C, ow0⟩, R, C, E, fun vs C1 H1 c1 E1 r1 => ?_⟩
    obtain ⟨p', s1, hq, cp, rp, ow⟩ := E1.own i k0 d he
    rw [s0] at s1; cases s1
    exact ho R C1 H1 σ p vs Q E1 s0 cp rp ow r1 fun w' C2 H2 c2 E2 r2 => k w' C2 H2 (c1.trans c2) E2 r2
theorem tyL {K : PySem.W.Frag} {H : Hp} {p : Addr} {xs : List PyData} (h : ∃ C, Ow K C (H p) (.list xs)) : tyV K "list" (.ref p) H := by
  obtain ⟨C, vs, h, _⟩ := h
  exact .inl ⟨rfl, vs, SqL.of h⟩
theorem je_append {nm : Str} {apos np : Pos} (i : Nat) {xs : List PyData} {k0 : Option Addr} (hN : T.N[i]? = some nm := by rfl) (hv : visB T.sc nm = true := by rfl) (h : JE T e e0 e1 (.d x)) (h0 : ∃ xs0, e0[i]? = some (.o k0 (.list xs0)) := by exact ⟨_, rfl⟩) (he : e1[i]? = some (.o k0 (.list xs)) := by rfl) (hl : xs.length < LN)
    (hp : PlainM (.Name nm np) "append" apos e [] pos := by exact ⟨fun _ => rfl, fun _ => rfl, rfl, fun _ => rfl, fun _ => rfl⟩)
    (hd : (nm == ("__debug__" : Str)) = false := by decide) (hcd : (nm == ("__classdict__" : Str)) = false := by decide) :
    JE T (.Call (.Attribute (.Name nm np) "append" apos) [e] [] pos) e0 (e1.set i (.o k0 (.list (xs ++ [x])))) (.d .none) := fun X hX =>
  (pe_bm PySem.F.plainAttrs_list PySem.F.slot_list_append PySem.F.type_list_append mt_append (pe_var (i := i) (by rw [hX.N]; exact hN) (by rw [hX.sc]; exact vis_of hv) hd hcd) (pa_cons (h X hX) pa_nil (hp.hs X.env)) (hp.base X.env) (hp.few X.env) hp.line (hp.hs X.env) (hp.plain X.env)).wk fun σ H Q ⟨R, C, E, k⟩ => by
    obtain ⟨xs0, h0⟩ := h0
    obtain ⟨p, s0, _, _, _, ow0⟩ := E.own i k0 _ h0
    refine ⟨.ref p, s0, tyL ⟨C, ow0⟩, R, C, E, fun v C1 H1 c1 E1 r1 => ?_⟩
    obtain ⟨p', s1, hq, cp, rp, vs, hh, l, rr⟩ := E1.own i k0 _ he
    rw [s0] at s1; cases s1
    refine ⟨p, vs, v, rfl, rfl, hh, lnS' (by rw [rr.len]; exact hl), ?_⟩
    refine k _ C1 _ c1 (E1.mutO he s0 cp rp ⟨vs ++ [v], rfl, ?_, rr.append (.cons r1 .nil)⟩) .non
    have e := rr.len
    have : xs.length < LN := hl
    rw [List.length_append, e]
    show xs.length + 1 ≤ LN
    omega
/-- xs[i] = e -/
theorem js_setIx {nm : Str} {np tp : Pos} {ix : Expr} (j : Nat) {xs : List PyData} {k0 : Option Addr} {i : Int} {m : Nat} (hN : T.N[j]? = some nm := by rfl) (hv : visB T.sc nm = true := by rfl) (h : JE T e e0 e1 (.d x)) (hi : JE T ix e1 e2 (.d (.int i))) (h1 : ∃ xs0, e1[j]? = some (.o k0 (.list xs0)) := by exact ⟨_, rfl⟩) (h2 : e2[j]? = some (.o k0 (.list xs)) := by rfl) (hm : ixN xs.length i = some m)
    (hs : ∀ (v : Env) l, swapsWithSole [.Subscript (.Name nm np) ix tp] e l v = pure false := by intro _ _; rfl) (hw : ∀ v : Env, swappedStores [.Subscript (.Name nm np) ix tp] e v = pure none := by intro _; rfl) (ha1 : ∀ v : Env, (assignEach [.Subscript (.Name nm np) ix tp] v).map (·.2) = [assign (.Subscript (.Name nm np) ix tp) v] := by intro _; rfl)
    (ha : ∀ (env : Env) v, assign (.Subscript (.Name nm np) ix tp) env v = (do
      let ov ← holding [v] (eval (.Name nm np) env)
      let iv ← holding [v, ov] (eval ix env)
      standAt tp
      holding [v, ov, iv] (setItem ov iv v)
      release [v, ov, iv] []) := by intro _ _; rfl)
    (hd : (nm == ("__debug__" : Str)) = false := by decide) (hcd : (nm == ("__classdict__" : Str)) = false := by decide) :
    JS T (.Assign [.Subscript (.Name nm np) ix tp] e pos) e0 (.nx (e2.set j (.o k0 (.list (xs.set m x))))) := fun X hX =>
  (ps_asg (h X hX) (pg_sub (pe_var (i := j) (by rw [hX.N]; exact hN) (by rw [hX.sc]; exact vis_of hv) hd hcd) (hi X hX) set_list (ha X.env)) (hs X.env pos.line) (hw X.env) (ha1 X.env)).wk fun D σ H ⟨R, C, E, k⟩ => ⟨R, C, E, fun v C1 H1 c1 E1 r1 => by
    obtain ⟨xs0, h1⟩ := h1
    obtain ⟨p, s0, _, _, _, _⟩ := E1.own j k0 _ h1
    refine ⟨.ref p, s0, R, C1, E1, fun iv C2 H2 c2 E2 r2 => ?_⟩
    cases r2
    obtain ⟨p', s1, hq, cp, rp, vs, hh, l, rr⟩ := E2.own j k0 _ h2
    rw [s0] at s1; cases s1
    refine ⟨p, vs, i, m, rfl, rfl, hh, by rw [rr.len]; exact hm, ?_⟩
    exact k σ C2 _ (c1.trans c2) (E2.mutO h2 s0 cp rp ⟨vs.set m v, rfl, by rw [List.length_set]; exact l, rr.set m (r1.mono c2)⟩)⟩

/-! ### several targets, a written tuple -/
/-- the values of a written tuple: known for ever, or objects of their own -/
inductive Rrs (K : PySem.W.Frag) (R C H : Hp) (env : Env') (σ : L2.St) : List V → List Re → Prop
  | nil : Rrs K R C H env σ [] []
  | d {v : V} {x : PyData} {vs : List V} {rs : List Re} : Rp K C v x → Rrs K R C H env σ vs rs → Rrs K R C H env σ (v :: vs) (.d x :: rs)
  | o {p : Addr} {x : PyData} {vs : List V} {rs : List Re} : C p = none → R p = none → NotOwn env σ p → Ow K C (H p) x → (∀ (i : Nat) y, rs[i]? = some (.o y) → vs[i]? ≠ some (.ref p)) → Rrs K R C H env σ vs rs → Rrs K R C H env σ (.ref p :: vs) (.o x :: rs)
def tAoJ (K : PySem.W.Frag) (env env' : Env') (rs : List Re) : TA := fun σ H Q => ∃ R C, EnvC K R C env σ H ∧ ∀ vs C' H', Ex C C' → EnvC K R C' env' σ H' → Rrs K R C' H' env' σ vs rs → Q vs H'
def JAo (T : TC) (es : List Expr) (env env' : Env') (rs : List Re) : Prop := ∀ X, CT X T → PA X es (tAoJ X.K env env' rs)
theorem jao_nil : JAo T [] env env [] := fun X hX => pa_nil.wk fun σ H Q ⟨R, C, E, k⟩ => k [] C H (Ex.refl C) E .nil
theorem jao_d {rs : List Re} (h : JE T e e0 e1 (.d x)) (h' : JAo T es e1 e2 rs) (hs : ∀ v : Env, starEach (e :: es) v = (false, eval e v) :: starEach es v := by intro _; rfl) : JAo T (e :: es) e0 e2 (.d x :: rs) := fun X hX =>
  (pa_cons (h X hX) (h' X hX) (hs X.env)).wk fun σ H Q ⟨R, C, E, k⟩ => ⟨R, C, E, fun v C1 H1 c1 E1 r1 => ⟨R, C1, E1, fun vs C2 H2 c2 E2 r2 => k (v :: vs) C2 H2 (c1.trans c2) E2 (.d (r1.mono c2) r2)⟩⟩
/-- with a further object as a part of what stands -/
theorem EnvC.lift {D : Addr} {o : HO} (E0 : EnvC K R C env σ H) (h1 : H D = some o) (h2 : C D = none) (h3 : NotOwn env σ D) : EnvC K (upd R D o) C env σ H := by
  refine ⟨E0.len, E0.cH, fun q u e => ?_, fun q e => ?_, E0.dat, fun j w x e => ?_, E0.apart⟩
  · by_cases h : q = D
    · subst h; rw [upd_same] at e; cases e; exact h1
    · rw [upd_ne h] at e; exact E0.rH _ _ e
  · by_cases h : q = D
    · subst h; exact h2
    · rw [upd_ne h] at e; exact E0.rc _ e
  · obtain ⟨q, k1, k0, k2, k3, k4⟩ := E0.own j w x e
    have hq : q ≠ D := fun h => by subst h; exact h3 j w x e k1
    exact ⟨q, k1, k0, k2, by rw [upd_ne hq]; exact k3, k4⟩
theorem EnvC.unlift {D : Addr} {o : HO} (E0 : EnvC K (upd R D o) C env σ H) (rD : R D = none) : EnvC K R C env σ H ∧ H D = some o ∧ C D = none ∧ NotOwn env σ D := by
  refine ⟨⟨E0.len, E0.cH, fun q u e => ?_, fun q e => ?_, E0.dat, fun j w x e => ?_, E0.apart⟩, E0.rH D o upd_same, E0.rc D (by rw [upd_same]; simp), fun j w x e s1 => ?_⟩
  · by_cases h : q = D
    · subst h; rw [rD] at e; cases e
    · exact E0.rH q u (by rw [upd_ne h]; exact e)
  · by_cases h : q = D
    · subst h; exact absurd rD e
    · exact E0.rc q (by rw [upd_ne h]; exact e)
  · obtain ⟨q, k1, k0, k2, k3, k4⟩ := E0.own j w x e
    have hq : q ≠ D := fun h => by subst h; rw [upd_same] at k3; cases k3
    exact ⟨q, k1, k0, k2, by rw [upd_ne hq] at k3; exact k3, k4⟩
  · obtain ⟨q, k1, k0, k2, k3, k4⟩ := E0.own j w x e
    rw [k1] at s1; cases s1
    rw [upd_same] at k3; cases k3
theorem Rrs.unlift {D : Addr} {o : HO} {vs : List V} {rs : List Re} (h : Rrs K (upd R D o) C H env σ vs rs) : Rrs K R C H env σ vs rs ∧ ∀ (i : Nat) y, rs[i]? = some (.o y) → vs[i]? ≠ some (.ref D) := by
  induction h with
  | nil => exact ⟨.nil, fun i y h => by cases h⟩
  | d h1 _ ih => exact ⟨.d h1 ih.1, fun i y h => by
      cases i with
      | zero => cases h
      | succ i => exact ih.2 i y h⟩
  | @o p x vs rs h1 h2 h3 h4 h5 _ ih =>
    have hp : p ≠ D := fun h => by subst h; rw [upd_same] at h2; cases h2
    refine ⟨.o h1 (by rw [upd_ne hp] at h2; exact h2) h3 h4 h5 ih.1, fun i y h => ?_⟩
    cases i with
    | zero => intro e; cases e; exact hp rfl
    | succ i => exact ih.2 i y h
theorem jao_o {rs : List Re} (h : JE T e e0 e1 (.o x)) (h' : JAo T es e1 e2 rs) (hs : ∀ v : Env, starEach (e :: es) v = (false, eval e v) :: starEach es v := by intro _; rfl) : JAo T (e :: es) e0 e2 (.o x :: rs) := fun X hX =>
  (pa_cons (h X hX) (h' X hX) (hs X.env)).wk fun σ H Q ⟨R, C, E, k⟩ => ⟨R, C, E, fun v C1 H1 c1 E1 ⟨p, ev, cp, rp, no, ow⟩ => by
    subst ev
    cases ho : H1 p with
    | none => rw [ho] at ow; exact absurd rfl ow.there
    | some o =>
      refine ⟨upd R p o, C1, E1.lift ho cp no, fun vs C2 H2 c2 E2 r2 => ?_⟩
      obtain ⟨E3, h3, cp3, no3⟩ := E2.unlift rp
      obtain ⟨r3, n3⟩ := r2.unlift
      exact k _ C2 H2 (c1.trans c2) E3 (.o cp3 rp no3 (by rw [h3, ← ho]; exact ow.mono c2) n3 r3)⟩
def reSl : Re → Sl
  | .d x => .d x | .o x => .o none x | .b _ => .u
/-- the targets' slots set from the left -/
def setAll {α : Type} (l : List α) : List Nat → List α → List α
  | i :: is, x :: xs => setAll (l.set i x) is xs
  | _, _ => l
theorem Rrs.setd {i : Nat} {v : V} {x : PyData} {vs : List V} {rs : List Re} (r : Rrs K R C H env σ vs rs) : Rrs K R C H (env.set i (.d x)) (σ.set i (some v)) vs rs := by
  induction r with
  | nil => exact .nil
  | d h _ ih => exact .d h ih
  | o a b c d e _ ih =>
    refine .o a b (fun j w y e s => ?_) d e ih
    by_cases hj : i = j
    · subst hj
      rw [List.getElem?_set_self'] at e
      cases q : env[i]? <;> rw [q] at e <;> simp at e
    · rw [List.getElem?_set_ne hj] at e s; exact c j w y e s
theorem Rrs.seto {i : Nat} {p : Addr} {x : PyData} {vs : List V} {rs : List Re} (r : Rrs K R C H env σ vs rs) (h5 : ∀ (i : Nat) y, rs[i]? = some (.o y) → vs[i]? ≠ some (.ref p)) : Rrs K R C H (env.set i (.o none x)) (σ.set i (some (.ref p))) vs rs := by
  induction r with
  | nil => exact .nil
  | d h _ ih => exact .d h (ih fun j y hj => h5 (j + 1) y hj)
  | @o q y vs' rs' a b c d e _ ih =>
    have hqp : q ≠ p := fun h => by subst h; exact h5 0 y rfl rfl
    refine .o a b (fun j w z e s => ?_) d e (ih fun j y hj => h5 (j + 1) y hj)
    by_cases hj : i = j
    · subst hj
      rw [List.getElem?_set_self'] at s
      cases q' : σ[i]? with
      | none => rw [q'] at s; cases s
      | some w2 => rw [q'] at s; simp at s; exact hqp s.symm
    · rw [List.getElem?_set_ne hj] at e s; exact c j w z e s
theorem Rrs.newO {t : Addr} {u : HO} {vs : List V} {rs : List Re} (ht : H t = none) (r : Rrs K R C H env σ vs rs) : Rrs K R C (upd H t u) env σ vs rs := by
  induction r with
  | nil => exact .nil
  | d h _ ih => exact .d h ih
  | @o q y vs' rs' a b c d e _ ih =>
    have hp : q ≠ t := fun h => by subst h; exact d.there ht
    exact .o a b c (by rw [upd_ne hp]; exact d) e ih
theorem EnvC.setAll : ∀ (is : List Nat) {vs : List V} {rs : List Re} {env : Env'} {σ : L2.St}, is.length = rs.length → EnvC K R C env σ H → Rrs K R C H env σ vs rs → EnvC K R C (J.setAll env is (rs.map reSl)) (J.setAll σ is (vs.map some)) H
  | [], vs, rs, env, σ, hl, E, r => by
    cases r with
    | nil => exact E
    | d => cases hl
    | o => cases hl
  | i :: is, vs, rs, env, σ, hl, E, r => by
    cases r with
    | nil => cases hl
    | d h r => exact EnvC.setAll is (by simpa using hl) (E.set i h) r.setd
    | o h1 h2 h3 h4 h5 r => exact EnvC.setAll is (by simpa using hl) (E.setO i h1 h2 h3 h4) (r.seto h5)
theorem Rrs.len {vs : List V} {rs : List Re} (h : Rrs K R C H env σ vs rs) : vs.length = rs.length := by
  induction h with
  | nil => rfl
  | d _ _ ih => simp [ih]
  | o _ _ _ _ _ _ ih => simp [ih]
/-- a, b = x, y with plain names -/
theorem js_par2 {n1 n2 : Str} {x1 x2 : Expr} {p1 p2 pt : Pos} {kt k2 pt2} (i j : Nat) {r1 r2 : Re} (hnd : T.N.Nodup) (hi : T.N[i]? = some n1) (hj : T.N[j]? = some n2) (hij : i ≠ j) (l1 : T.sc.names.lookup n1 = some .local) (l2 : T.sc.names.lookup n2 = some .local) (h : JAo T [x1, x2] e0 e1 [r1, r2])
    (hw : ∀ v : Env, v.scope = T.sc → swappedStores [.Tuple [.Name n1 p1, .Name n2 p2] kt pt] (.Tuple [x1, x2] k2 pt2) v = pure (some [n1, n2])) (hs : ∀ (v : Env) l, swapsWithSole [.Tuple [.Name n1 p1, .Name n2 p2] kt pt] (.Tuple [x1, x2] k2 pt2) l v = pure false := by intro _ _; rfl) :
    JS T (.Assign [.Tuple [.Name n1 p1, .Name n2 p2] kt pt] (.Tuple [x1, x2] k2 pt2) pos) e0 (.nx (setAll e1 [i, j] [reSl r1, reSl r2])) := fun X hX =>
  (ps_par (i := i) (j := j) hX.calm (by rw [hX.N]; exact hnd) (by rw [hX.N]; exact hi) (by rw [hX.N]; exact hj) hij (by rw [hX.sc]; exact l1) (by rw [hX.sc]; exact l2) (h X hX) (hw X.env hX.sc) (hs X.env pos.line)).wk fun D σ H ⟨R, C, E, k⟩ => ⟨R, C, E, fun vs C1 H1 c1 E1 r1 => by
    have hl := r1.len
    match vs, hl with
    | [v, w], _ => exact ⟨v, w, rfl, k _ C1 H1 c1 (E1.setAll [i, j] rfl r1)⟩⟩
theorem js_par3 {n1 n2 n3 : Str} {x1 x2 x3 : Expr} {p1 p2 p3 pt : Pos} {kt k2 pt2} (i j m : Nat) {r1 r2 r3 : Re} (hnd : T.N.Nodup) (hi : T.N[i]? = some n1) (hj : T.N[j]? = some n2) (hm : T.N[m]? = some n3) (hij : i ≠ j) (him : i ≠ m) (hjm : j ≠ m) (l1 : T.sc.names.lookup n1 = some .local) (l2 : T.sc.names.lookup n2 = some .local) (l3 : T.sc.names.lookup n3 = some .local) (h : JAo T [x1, x2, x3] e0 e1 [r1, r2, r3])
    (hw : ∀ v : Env, v.scope = T.sc → swappedStores [.Tuple [.Name n1 p1, .Name n2 p2, .Name n3 p3] kt pt] (.Tuple [x1, x2, x3] k2 pt2) v = pure (some [n1, n2, n3])) (hs : ∀ (v : Env) l, swapsWithSole [.Tuple [.Name n1 p1, .Name n2 p2, .Name n3 p3] kt pt] (.Tuple [x1, x2, x3] k2 pt2) l v = pure false := by intro _ _; rfl) :
    JS T (.Assign [.Tuple [.Name n1 p1, .Name n2 p2, .Name n3 p3] kt pt] (.Tuple [x1, x2, x3] k2 pt2) pos) e0 (.nx (setAll e1 [i, j, m] [reSl r1, reSl r2, reSl r3])) := fun X hX =>
  (ps_par3 (i := i) (j := j) (l := m) hX.calm (by rw [hX.N]; exact hnd) (by rw [hX.N]; exact hi) (by rw [hX.N]; exact hj) (by rw [hX.N]; exact hm) hij him hjm (by rw [hX.sc]; exact l1) (by rw [hX.sc]; exact l2) (by rw [hX.sc]; exact l3) (h X hX) (hw X.env hX.sc) (hs X.env pos.line)).wk fun D σ H ⟨R, C, E, k⟩ => ⟨R, C, E, fun vs C1 H1 c1 E1 r1 => by
    have hl := r1.len
    match vs, hl with
    | [u, v, w], _ => exact ⟨u, v, w, rfl, k _ C1 H1 c1 (E1.setAll [i, j, m] rfl r1)⟩⟩
def gSetAll (is : List Nat) : TGs := fun vs σ H Q => vs.length = is.length ∧ Q (setAll σ is (vs.map some)) H
theorem pgs_all_nil {X : Cx} : PGs X [] (gSetAll []) := pgs_nil.wk fun vs σ H Q ⟨h, q⟩ => by
  cases vs with
  | nil => exact ⟨rfl, q⟩
  | cons => cases h
theorem pgs_all_cons {X : Cx} {g : Expr} {gs : List Expr} {i : Nat} {is : List Nat} (h : PG X g (gName i)) (h' : PGs X gs (gSetAll is)) (hs : (assignEach (g :: gs) X.env).map (·.2) = assign g X.env :: (assignEach gs X.env).map (·.2)) : PGs X (g :: gs) (gSetAll (i :: is)) := (pgs_cons h h' hs).wk fun vs σ H Q ⟨hl, q⟩ => by
  cases vs with
  | nil => cases hl
  | cons v vs => exact ⟨v, vs, rfl, by simpa using hl, q⟩
/-- name targets -/
def JNs (T : TC) (gs : List Expr) (is : List Nat) : Prop := ∀ X, CT X T → PGs X gs (gSetAll is)
theorem jns_nil : JNs T [] [] := fun X hX => pgs_all_nil
theorem jns_cons {nm : Str} {gs : List Expr} {is : List Nat} (i : Nat) (hnd : T.N.Nodup) (h' : JNs T gs is) (hN : T.N[i]? = some nm := by rfl) (hl : locB T.sc nm = true := by rfl) (hf : T.fn nm = true ∨ T.sc.names.lookup nm = some .local := by first | exact .inl rfl | exact .inr rfl) (hs : ∀ v : Env, (assignEach (.Name nm p :: gs) v).map (·.2) = assign (.Name nm p) v :: (assignEach gs v).map (·.2) := by intro _; rfl) : JNs T (.Name nm p :: gs) (i :: is) := fun X hX =>
  pgs_all_cons (pg_name (i := i) (by rw [hX.N]; exact hnd) (by rw [hX.N]; exact hN) (by rw [hX.sc]; exact loc_of hl) (by rcases hf with h | h; exact .inl (hX.fn _ h); exact .inr (by rw [hX.sc]; exact h))) (h' X hX) (hs X.env)
theorem js_parN {gs es : List Expr} {pt pt2 : Pos} {kt k2 : Nat} {rs : List Re} (is : List Nat) (hg : JNs T gs is) (h : JAo T es e0 e1 rs) (hl : is.length = rs.length := by rfl) (hn : ∀ v : Env, (assignEach gs v).length = rs.length := by intro _; rfl) (hst : ∀ v : Env, (assignEach gs v).findIdx? (·.1) = none := by intro _; rfl)
    (hw : ∀ v : Env, v.scope = T.sc → swappedStores [.Tuple gs kt pt] (.Tuple es k2 pt2) v = pure none) (hs : ∀ (v : Env) l, swapsWithSole [.Tuple gs kt pt] (.Tuple es k2 pt2) l v = pure false := by intro _ _; rfl) (ha : ∀ v : Env, (assignEach [.Tuple gs kt pt] v).map (·.2) = [assign (.Tuple gs kt pt) v] := by intro _; rfl) (hll : rs.length ≤ LN := by exact Nat.le_of_ble_eq_true rfl) :
    JS T (.Assign [.Tuple gs kt pt] (.Tuple es k2 pt2) pos) e0 (.nx (setAll e1 is (rs.map reSl))) := fun X hX =>
  (ps_asg (pe_tup (h X hX)) (pg_tup hX.calm (hg X hX) (hn X.env) (hst X.env)) (hs X.env pos.line) (hw X.env hX.sc) (ha X.env)).wk fun D σ H ⟨R, C, E, k⟩ => ⟨R, C, E, fun vs C1 H1 c1 E1 r1 => ⟨lnS (by rw [r1.len]; exact hll), fun t ht => by
    refine ⟨t, vs, rfl, .inl (.inl upd_same), r1.len, by rw [r1.len]; exact hl.symm, ?_⟩
    exact k _ C1 _ c1 (EnvC.setAll is hl (E1.newO ht) (r1.newO ht))⟩⟩
/-- a, b = a tuple that is known -/
theorem js_unp {gs : List Expr} {pt : Pos} {kt : Nat} {ds : List PyData} (is : List Nat) (hg : JNs T gs is) (h : JE T e e0 e1 (.d (.tuple ds))) (hl : is.length = ds.length := by rfl) (hn : ∀ v : Env, (assignEach gs v).length = ds.length := by intro _; rfl) (hst : ∀ v : Env, (assignEach gs v).findIdx? (·.1) = none := by intro _; rfl)
    (hw : ∀ v : Env, swappedStores [.Tuple gs kt pt] e v = pure none := by intro _; rfl) (hs : ∀ (v : Env) l, swapsWithSole [.Tuple gs kt pt] e l v = pure false := by intro _ _; rfl) (ha : ∀ v : Env, (assignEach [.Tuple gs kt pt] v).map (·.2) = [assign (.Tuple gs kt pt) v] := by intro _; rfl) :
    JS T (.Assign [.Tuple gs kt pt] e pos) e0 (.nx (setAll e1 is (ds.map .d))) := fun X hX =>
  (ps_asg (h X hX) (pg_tup hX.calm (hg X hX) (hn X.env) (hst X.env)) (hs X.env pos.line) (hw X.env) (ha X.env)).wk fun D σ H ⟨R, C, E, k⟩ => ⟨R, C, E, fun v C1 H1 c1 E1 r1 => by
    cases r1 with
    | tup q l r =>
    refine ⟨_, _, rfl, E1.cH.t q, r.len, by rw [r.len]; exact hl.symm, ?_⟩
    have rr : ∀ {ds : List PyData} {vs : List V}, Rps X.K C1 vs ds → Rrs X.K R C1 H1 e1 σ vs (ds.map .d) := fun {ds} => by
      induction ds with
      | nil => intro vs r; cases r; exact .nil
      | cons d ds ih => intro vs r; cases r with
        | cons h r => exact .d h (ih r)
    have := EnvC.setAll is (by simpa using hl) E1 (rr r)
    rw [List.map_map] at this
    exact k _ C1 H1 c1 this⟩
end
end J
namespace J
open PySem L2 PySem.Spec PyProof.Rows
open AutoSeq1 (wpAny_loadPart')

/-! ### enumerate of a tuple, of a text -/
theorem meets_enumerate_new1B {v : Value} {o : Obj} {H : Heap → Prop} (B : Begins v o H) :
    Meets (Builtin.«enumerate.__new__» ⟨[.type "enumerate", v], []⟩) (fun _ R s => H s.heap ∧
      R (.ok (.ret (.ref (s.heap.push o).objs.size))) { s with heap := (s.heap.push o).push { cls := .type "enumerate", data := .fields #[.none, .bool false, .ref s.heap.objs.size, rawInt 0, .none, .none] } }) :=
  .of_wp fun prog w A R s h => by
    obtain ⟨hp, g, d, tk, os⟩ := s; obtain ⟨h1, h⟩ := h
    have hsub := sub_enumerate
    have q1 : ∀ {A' : Around} {E : Value → Shared → Prop} {Q : Value → Shared → Prop}, Q (.ref hp.objs.size) ⟨hp.push o, g, d, tk, os⟩ → wpAny (model prog w) A' (pyIter v) Q E ⟨hp, g, d, tk, os⟩ :=
      fun q => B.iter prog w _ _ ⟨hp, g, d, tk, os⟩ _ h1 q
    wp_walk using q1
    refine wpAny_stack_any fun st => wpAny_pure ?_
    split
    · rename_i c _ _ _ _ _
      cases (c == Value.type "enumerate")
      · wp_walk using q1
        exact ⟨_, rfl, h⟩
      · wp_walk using q1
        exact ⟨_, rfl, h⟩
    · wp_walk using q1
      exact ⟨_, rfl, h⟩
theorem call_enumerate_B {prog : Program} {w : World} {A : Around} {E : Value → Shared → Prop} {s : Shared} {v : Value} {o : Obj} {H : Heap → Prop} {Q : Value → Shared → Prop} (B : Begins v o H) (h1 : H s.heap)
    (h : ∀ h', IsEnum h' (s.heap.objs.size + 1) s.heap.objs.size 0 .none → h'.get? s.heap.objs.size = some o → h'.objs.size = s.heap.objs.size + 2 →
      (∀ b o, s.heap.get? b = some o → h'.get? b = some o) → Q (.ref (s.heap.objs.size + 1)) { s with heap := h' }) :
    wpAny (model prog w) A (call (.type "enumerate") [v]) Q E s := by
  refine callType_new F.called_enumerate (by decide) (F.typeCall_enumerate_1 _) (F.newCall_enumerate_1 _) (fun obj => F.args_object_init_2 obj _) F.entry_enumerate_new
    (meets_enumerate_new1B B) ⟨h1, ?_⟩
  have hz : (s.heap.push o).objs.size = s.heap.objs.size + 1 := Heap.size_push ..
  show _ ∧ _
  rw [hz]
  have he : IsEnum ((s.heap.push o).push { cls := .type "enumerate", data := .fields #[.none, .bool false, .ref s.heap.objs.size, rawInt 0, .none, .none] }) (s.heap.objs.size + 1) s.heap.objs.size 0 .none := by
    have := Heap.get?_push_size (s.heap.push o) (o := { cls := .type "enumerate", data := .fields #[.none, .bool false, .ref s.heap.objs.size, rawInt 0, .none, .none] }) rfl
    rw [hz] at this; exact this
  refine ⟨⟨_, he, rfl⟩, h _ he (Heap.get?_push_of_some _ (Heap.get?_push_size _ B.free)) (by rw [Heap.size_push, hz]) fun b o x => Heap.get?_push_of_some _ (Heap.get?_push_of_some _ x)⟩
def IteT (K : PySem.W.Frag) (a : Addr) : It :=
  ⟨fun i H => ∃ (xs : List V) (x : V), SqT K H a xs ∧ xs[i]? = some x, fun i H v H' => ∃ T x, v = .ref T ∧ H T = none ∧ H' = upd H T (.tup [.int (i : Nat), x]) ∧ ∀ xs, SqT K H a xs → xs[i]? = some x, fun i H => ∃ xs : List V, SqT K H a xs ∧ xs.length = i⟩
def IteS (z : Str) : It :=
  ⟨fun i _ => i < z.cps.size, fun i H v H' => ∃ T c, v = .ref T ∧ H T = none ∧ H' = upd H T (.tup [.int (i : Nat), .str ⟨#[c]⟩]) ∧ z.cps[i]? = some c, fun i _ => z.cps.size = i⟩
theorem turn_enumT {P : Program} {w : World} {K : PySem.W.Frag} {elts : List Expr} {kk : Nat} {tpos : Pos} (a e it : Addr) :
    Turn P w K (.Tuple elts kk tpos) (IteT K a) [e, it] e (fun i h => (∃ old, IsEnum h e it ((i : Nat) : Int) old) ∧ h.IsTupleIter it a i ∧ e ≠ it) where
  mem := by simp
  obj := fun i h st b hb => by
    obtain ⟨⟨old, he⟩, ⟨o, ho, hc, hd⟩, _⟩ := st
    have e' : b = e ∨ b = it := by simpa using hb
    rcases e' with z | z
    · rw [z]; exact ⟨_, he, fun v q => nomatch q⟩
    · rw [z]; exact ⟨o, ho, fun v q => by rw [hd] at q; cases q⟩
  keep := fun i h h' st k => let ⟨⟨old, he⟩, hi, hne⟩ := st; ⟨⟨old, k e (by simp) _ he⟩, hi.at fun o q => k it (by simp) o q, hne⟩
  item := by
    intro X hP hw hK hc i pins s σ H E I hf st hg
    subst hP hw hK
    obtain ⟨⟨old, he⟩, hit, hne⟩ := st
    obtain ⟨xs, x, hq, hx⟩ := hg
    obtain ⟨its, rv, p, hz⟩ := I.tuple hq
    obtain ⟨u, hu, ru⟩ := rv.get hx
    have hel : e < s.heap.objs.size := Heap.lt_size he
    have hil : it < s.heap.objs.size := by obtain ⟨_, q, _⟩ := hit; exact Heap.lt_size q
    have hai : a ≠ it := fun h => by
      subst h
      obtain ⟨o1, q1, c1, _⟩ := hit
      obtain ⟨o2, q2, c2, _⟩ := p
      rw [q1] at q2; cases q2
      rw [c1] at c2
      injection c2 with c3
      exact absurd c3 (by decide)
    have hae : a ≠ e := fun h => by
      subst h
      obtain ⟨o2, q2, c2, _⟩ := p
      rw [he] at q2; cases q2
      have c2' : Value.type "enumerate" = Value.type "tuple" := c2
      injection c2' with c3
      exact absurd c3 (by decide)
    have hlt : i < its.toArray.size := by have := (List.getElem?_eq_some_iff.mp hu).1; simpa using this
    refine wpAny_pyNext_enum_itemD (Draws.tuple (A := X.A.in1) (I.ok.hd hc) it a hai its.toArray) he ⟨hit, p⟩ hlt hne (show e ∉ [it, a] by simp only [List.mem_cons, List.not_mem_nil, or_false, not_or]; exact ⟨hne, Ne.symm hae⟩) fun y h' tk hP ho hit' hT hsz hk => ?_
    have hy : y = u := by
      have h2 : its[i]? = some y := by simpa using hP
      rw [hu] at h2; exact (Option.some.inj h2).symm
    subst hy
    refine ⟨_, rfl, wpAny_letOwnedTupleGo_enum (s := { s with heap := h', toks := tk + 1 }) ho fun h'' he' sb => ?_⟩
    have hT2 : h''.get? s.heap.objs.size = some { cls := .type "tuple", data := .seq #[.int i tk, y] } := (sb.2 _ (Nat.ne_of_gt hel)).trans hT
    have new : ObjOk X.prog X.w (upd H s.heap.objs.size (.tup [.int (i : Nat), x])) h'' s.heap.objs.size (.tup [.int (i : Nat), x]) :=
      ⟨by show 2 ≤ sizeLine; decide, [.int i tk, y], .cons ⟨_, rfl⟩ (.cons ru .nil), ⟨_, hT2, rfl, _, rfl⟩⟩
    have I1 : Inv X pins σ (upd H s.heap.objs.size (.tup [.int (i : Nat), x])) { s with heap := h'', toks := tk + 1 } :=
      I.turnedNew (ch := [e, it]) (fun b ob hb q => (sb.2 b (fun z => hb (by simp [z]))).trans (hk b ob (fun z => hb (by simp [z])) (fun z => hb (by simp [z])) q)) hf (Nat.le_refl _) new
    refine ⟨.ref s.heap.objs.size, _, I1, rfl, ⟨_, x, rfl, I.hok.fresh (Nat.le_refl _), rfl, fun ys hy => by rw [I.tuple_inj hy hq]; exact hx⟩, ⟨⟨y, ?_⟩, hit'.1.at fun o q => (sb.2 it (Ne.symm hne)).trans q, hne⟩, fun b hb => ?_⟩
    · have e1 : ((i + 1 : Nat) : Int) = (i : Int) + 1 := by omega
      rw [e1]; exact he'
    · have hb' : b < s.heap.objs.size := by
        have e' : b = e ∨ b = it := by simpa using hb
        rcases e' with z | z
        · rw [z]; exact hel
        · rw [z]; exact hil
      rw [upd_ne (Nat.ne_of_lt hb')]
      exact (hf b hb).1
  done := by
    intro X hP hw hK hc i pins s σ H E I hf st hg
    subst hP hw hK
    obtain ⟨⟨old, he⟩, hit, hne⟩ := st
    obtain ⟨xs, hq, hx⟩ := hg
    obtain ⟨its, rv, p, hz⟩ := I.tuple hq
    obtain ⟨f0, f1, f2, f3, f4, f5⟩ := hf it (by simp)
    have hl := rv.length
    have hai : a ≠ it := fun h => by
      subst h
      obtain ⟨o1, q1, c1, _⟩ := hit
      obtain ⟨o2, q2, c2, _⟩ := p
      rw [q1] at q2; cases q2
      rw [c1] at c2
      injection c2 with c3
      exact absurd c3 (by decide)
    refine wpAny_pyNext_enum_endD (Draws.tuple (A := X.A.in1) (I.ok.hd hc) it a hai its.toArray) he ⟨?_, p⟩ fun h' eb => ⟨rfl, I.turned (t' := s.toks) (fun b o hb q => eb b o hb q) f0 f1 f3 f4 f5⟩
    have e1 : its.toArray.size = i := by rw [List.size_toArray]; omega
    rw [e1]; exact hit
  self := fun A i s Q E st h => let ⟨⟨_, he⟩, _⟩ := st; wpAny_pyIter_enum he h
theorem turn_enumS {P : Program} {w : World} {K : PySem.W.Frag} {elts : List Expr} {kk : Nat} {tpos : Pos} (z : Str) (t : Tok) (e it : Addr) :
    Turn P w K (.Tuple elts kk tpos) (IteS z) [e, it] e (fun i h => (∃ old, IsEnum h e it ((i : Nat) : Int) old) ∧ h.IsStrIter it (strIterType z) z t i ∧ e ≠ it) where
  mem := by simp
  obj := fun i h st b hb => by
    obtain ⟨⟨old, he⟩, ⟨o, ho, hc, hd⟩, _⟩ := st
    have e' : b = e ∨ b = it := by simpa using hb
    rcases e' with z | z
    · rw [z]; exact ⟨_, he, fun v q => nomatch q⟩
    · rw [z]; exact ⟨o, ho, fun v q => by rw [hd] at q; cases q⟩
  keep := fun i h h' st k => let ⟨⟨old, he⟩, ⟨o, ho, r⟩, hne⟩ := st; ⟨⟨old, k e (by simp) _ he⟩, ⟨o, k it (by simp) o ho, r⟩, hne⟩
  item := by
    intro X hP hw hK hc i pins s σ H E I hf st hg
    subst hP hw hK
    obtain ⟨⟨old, he⟩, hit, hne⟩ := st
    have hg' : i < z.cps.size := hg
    have hel : e < s.heap.objs.size := Heap.lt_size he
    have hil : it < s.heap.objs.size := by obtain ⟨_, q, _⟩ := hit; exact Heap.lt_size q
    refine wpAny_pyNext_enum_itemD (Draws.text (A := X.A.in1) (I.ok.hd hc) it z t) he hit hg' hne (show e ∉ [it] by simp only [List.mem_cons, List.not_mem_nil, or_false]; exact hne) fun y h' tk hP ho hit' hT hsz hk => ?_
    obtain ⟨c, u, hcc, rfl⟩ := hP
    refine ⟨_, rfl, wpAny_letOwnedTupleGo_enum (s := { s with heap := h', toks := tk + 1 }) ho fun h'' he' sb => ?_⟩
    have hT2 : h''.get? s.heap.objs.size = some { cls := .type "tuple", data := .seq #[.int i tk, .str ⟨#[c]⟩ u] } := (sb.2 _ (Nat.ne_of_gt hel)).trans hT
    have new : ObjOk X.prog X.w (upd H s.heap.objs.size (.tup [.int (i : Nat), .str ⟨#[c]⟩])) h'' s.heap.objs.size (.tup [.int (i : Nat), .str ⟨#[c]⟩]) :=
      ⟨by show 2 ≤ sizeLine; decide, [.int i tk, .str ⟨#[c]⟩ u], .cons ⟨_, rfl⟩ (.cons ⟨_, rfl⟩ .nil), ⟨_, hT2, rfl, _, rfl⟩⟩
    have I1 : Inv X pins σ (upd H s.heap.objs.size (.tup [.int (i : Nat), .str ⟨#[c]⟩])) { s with heap := h'', toks := tk + 1 } :=
      I.turnedNew (ch := [e, it]) (fun b ob hb q => (sb.2 b (fun z => hb (by simp [z]))).trans (hk b ob (fun z => hb (by simp [z])) (fun z => hb (by simp [z])) q)) hf (Nat.le_refl _) new
    refine ⟨.ref s.heap.objs.size, _, I1, rfl, ⟨_, c, rfl, I.hok.fresh (Nat.le_refl _), rfl, hcc⟩, ⟨⟨.str ⟨#[c]⟩ u, ?_⟩, (let ⟨o, ho, r⟩ := hit'; ⟨o, (sb.2 it (Ne.symm hne)).trans ho, r⟩), hne⟩, fun b hb => ?_⟩
    · have e1 : ((i + 1 : Nat) : Int) = (i : Int) + 1 := by omega
      rw [e1]; exact he'
    · have hb' : b < s.heap.objs.size := by
        have e' : b = e ∨ b = it := by simpa using hb
        rcases e' with z | z
        · rw [z]; exact hel
        · rw [z]; exact hil
      rw [upd_ne (Nat.ne_of_lt hb')]
      exact (hf b hb).1
  done := by
    intro X hP hw hK hc i pins s σ H E I hf st hg
    subst hP hw hK
    obtain ⟨⟨old, he⟩, hit, hne⟩ := st
    obtain ⟨f0, f1, f2, f3, f4, f5⟩ := hf it (by simp)
    refine wpAny_pyNext_enum_endD (Draws.text (A := X.A.in1) (I.ok.hd hc) it z t) he ?_ fun h' eb => ⟨rfl, I.turned (t' := s.toks) (fun b o hb q => eb b o hb q) f0 f1 f3 f4 f5⟩
    have hg' : z.cps.size = i := hg
    rw [hg']; exact hit
  self := fun A i s Q E st h => let ⟨⟨_, he⟩, _⟩ := st; wpAny_pyIter_enum he h
def iEnumT (K : PySem.W.Frag) (ta : TA) : TI := fun σ H R => ta σ H fun vs H1 => ∃ a xs, vs = [.ref a] ∧ SqT K H1 a xs ∧ R (IteT K a) H1
def iEnumS (ta : TA) : TI := fun σ H R => ta σ H fun vs H1 => ∃ z, vs = [.str z] ∧ R (IteS z) H1
theorem pi_enumT {X : Cx} {e : Expr} {ta : TA} {p pos tpos : Pos} {elts : List Expr} {kk : Nat} (hg : Gl X "enumerate") (hm : X.mg "enumerate" = none) (ha : PA X [e] ta) (hs : starEach [e] X.env = [(false, eval e X.env)] := by rfl) :
    PI X (.Tuple elts kk tpos) (.Call (.Name "enumerate" p) [e] [] pos) (iEnumT X.K ta) := by
  refine ⟨fun pins s σ H R I h => ?_⟩
  refine Call_ (ld_blt I hg hm boot_enumerate (PyProof.Rows.callWith_type1 (thn (ha.run pos pins s σ H _ I h) fun us s1 ⟨vs, H1, I1, r1, q1⟩ => ?_) hs rfl))
  obtain ⟨a, xs, ex, hq, q⟩ := q1
  subst ex
  cases r1 with
  | cons r rr =>
    cases rr
    cases r
    obtain ⟨its, rv, p', hz⟩ := I1.tuple hq
    refine call_enumerate_B (begins_tuple a its.toArray) p' fun h' he hit hsz hk => wpAny_pyIter_enum he ?_
    have I2 : Inv X pins σ H1 { s1 with heap := h' } := I1.kept (t' := s1.toks) hk
    refine ⟨s1.heap.objs.size + 1, [s1.heap.objs.size + 1, s1.heap.objs.size], _, _, H1, rfl, I2, turn_enumT a (s1.heap.objs.size + 1) s1.heap.objs.size, ⟨⟨.none, he⟩, ⟨_, hit, rfl, rfl⟩, Nat.succ_ne_self _⟩, fun b hb => ?_, q⟩
    have e' : b = s1.heap.objs.size + 1 ∨ b = s1.heap.objs.size := by simpa using hb
    have hle : s1.heap.objs.size ≤ b := by
      rcases e' with z | z
      · rw [z]; exact Nat.le_add_right _ _
      · rw [z]; exact Nat.le_refl _
    exact I1.fpOk hle (I1.hok.fresh hle)
theorem pi_enumS {X : Cx} {e : Expr} {ta : TA} {p pos tpos : Pos} {elts : List Expr} {kk : Nat} (hg : Gl X "enumerate") (hm : X.mg "enumerate" = none) (ha : PA X [e] ta) (hs : starEach [e] X.env = [(false, eval e X.env)] := by rfl) :
    PI X (.Tuple elts kk tpos) (.Call (.Name "enumerate" p) [e] [] pos) (iEnumS ta) := by
  refine ⟨fun pins s σ H R I h => ?_⟩
  refine Call_ (ld_blt I hg hm boot_enumerate (PyProof.Rows.callWith_type1 (thn (ha.run pos pins s σ H _ I h) fun us s1 ⟨vs, H1, I1, r1, q1⟩ => ?_) hs rfl))
  obtain ⟨z, ex, q⟩ := q1
  subst ex
  cases r1 with
  | cons r rr =>
    cases rr
    obtain ⟨t, rfl⟩ := r
    refine call_enumerate_B (begins_text z t) trivial fun h' he hit hsz hk => wpAny_pyIter_enum he ?_
    have I2 : Inv X pins σ H1 { s1 with heap := h' } := I1.kept (t' := s1.toks) hk
    refine ⟨s1.heap.objs.size + 1, [s1.heap.objs.size + 1, s1.heap.objs.size], _, _, H1, rfl, I2, turn_enumS z t (s1.heap.objs.size + 1) s1.heap.objs.size, ⟨⟨.none, he⟩, ⟨_, hit, rfl, rfl⟩, Nat.succ_ne_self _⟩, fun b hb => ?_, q⟩
    have e' : b = s1.heap.objs.size + 1 ∨ b = s1.heap.objs.size := by simpa using hb
    have hle : s1.heap.objs.size ≤ b := by
      rcases e' with z | z
      · rw [z]; exact Nat.le_add_right _ _
      · rw [z]; exact Nat.le_refl _
    exact I1.fpOk hle (I1.hok.fresh hle)
section
variable {T : TC} {a b e : Expr} {es : List Expr} {env e0 e1 e2 e3 : Env'} {pos p tpos : Pos} {kk : Nat} {elts : List Expr} {tg : Expr}
/-- (0, x0), (1, x1), .. -/
def enumD (xs : List PyData) : List PyData := (xs.zipIdx).map fun q => .tuple [.int q.2, q.1]
theorem enumD_get {xs : List PyData} {i : Nat} {d : PyData} (h : (enumD xs)[i]? = some d) : ∃ x, xs[i]? = some x ∧ d = .tuple [.int i, x] := by
  unfold enumD at h
  rw [List.getElem?_map, List.getElem?_zipIdx] at h
  cases q : xs[i]? with
  | none => rw [q] at h; cases h
  | some x => rw [q] at h; simp at h; exact ⟨x, rfl, h.symm⟩
theorem enumD_len (xs : List PyData) : (enumD xs).length = xs.length := by unfold enumD; simp
/-- the pair that such an iterator yields -/
theorem EnvC.pair {K : PySem.W.Frag} {R C H : Hp} {env : Env'} {σ : L2.St} {t : Addr} {u v : V} {x y : PyData} (E : EnvC K R C env σ H) (ht : H t = none) (hu : Rp K C u x) (hv : Rp K C v y) :
    ∃ C2, Ex C C2 ∧ EnvC K R C2 env σ (upd H t (.tup [u, v])) ∧ (∀ D, (upd H t (.tup [u, v])) D = none → H D = none) ∧ (∀ D o, H D = some o → (upd H t (.tup [u, v])) D = some o) ∧ (∀ D o, H D = some o → C D = none → C2 D = none) ∧ Rp K C2 (.ref t) (.tuple [x, y]) := by
  obtain ⟨c, E', r⟩ := E.freshT (ds := [x, y]) ht (by show 2 ≤ LN; decide) (.cons hu (.cons hv .nil))
  refine ⟨_, c, E', fun D h => ?_, fun D o h => ?_, fun D o h hc => ?_, r⟩
  · by_cases q : D = t
    · subst q; rw [upd_same] at h; cases h
    · rw [upd_ne q] at h; exact h
  · rw [upd_ne (ne_of_none h ht)]; exact h
  · rw [upd_ne (ne_of_none h ht)]; exact hc
theorem ji_enumL {xs : List PyData} (hg : glB T.sc "enumerate" = true) (hm : T.mg "enumerate" = none) (h : JE T e e0 e1 (.d (.list xs))) (hs : ∀ v : Env, starEach [e] v = [(false, eval e v)] := by intro _; rfl) : JI T (.Tuple elts kk tpos) (.Call (.Name "enumerate" p) [e] [] pos) e0 e1 (enumD xs) := fun X hX =>
  (pi_enum (gl_of hX hg) (by rw [hX.mg]; exact hm) (pa_cons (h X hX) pa_nil (hs X.env)) (hs X.env)).wk fun σ H Rr' ⟨R, C, E, k⟩ => ⟨R, C, E, fun v C1 H1 c1 E1 r1 => by
    cases r1 with
    | lst q l r =>
    refine ⟨_, _, rfl, SqL.of (E1.cH _ _ q), k _ C1 H1 c1 E1 (by rw [enumD_len, ← r.len]; exact l) fun C2 env σ H2 c2 E2 => ⟨⟨_, SqL.of (E2.cH _ _ (c2 _ _ q)), by rw [enumD_len, r.len]; exact Nat.le_refl _⟩, fun i d hd => ?_⟩⟩
    obtain ⟨x, hx, rfl⟩ := enumD_get hd
    obtain ⟨w, hw, rw⟩ := r.getD hx
    refine ⟨⟨_, w, SqL.of (E2.cH _ _ (c2 _ _ q)), hw⟩, fun y H3 hy => ?_⟩
    obtain ⟨t, u, rfl, ht, rfl, hu⟩ := hy
    have := hu _ (SqL.of (E2.cH _ _ (c2 _ _ q)))
    rw [hw] at this; cases this
    exact E2.pair ht (.int _) (rw.mono c2)⟩
theorem ji_enumT {xs : List PyData} (hg : glB T.sc "enumerate" = true) (hm : T.mg "enumerate" = none) (h : JE T e e0 e1 (.d (.tuple xs))) (hs : ∀ v : Env, starEach [e] v = [(false, eval e v)] := by intro _; rfl) : JI T (.Tuple elts kk tpos) (.Call (.Name "enumerate" p) [e] [] pos) e0 e1 (enumD xs) := fun X hX =>
  (pi_enumT (gl_of hX hg) (by rw [hX.mg]; exact hm) (pa_cons (h X hX) pa_nil (hs X.env)) (hs X.env)).wk fun σ H Rr' ⟨R, C, E, k⟩ => ⟨R, C, E, fun v C1 H1 c1 E1 r1 => by
    cases r1 with
    | tup q l r =>
    refine ⟨_, _, rfl, E1.cH.t q, k _ C1 H1 c1 E1 (by rw [enumD_len, ← r.len]; exact l) fun C2 env σ H2 c2 E2 => ⟨⟨_, E2.cH.t (c2.t q), by rw [enumD_len, r.len]⟩, fun i d hd => ?_⟩⟩
    obtain ⟨x, hx, rfl⟩ := enumD_get hd
    obtain ⟨w, hw, rw⟩ := r.getD hx
    refine ⟨⟨_, w, E2.cH.t (c2.t q), hw⟩, fun y H3 hy => ?_⟩
    obtain ⟨t, u, rfl, ht, rfl, hu⟩ := hy
    have := hu _ (E2.cH.t (c2.t q))
    rw [hw] at this; cases this
    exact E2.pair ht (.int _) (rw.mono c2)⟩
/-- the signs of a text -/
def signs (s : Str) : List Str := s.cps.toList.map fun c => ⟨#[c]⟩
theorem signs_get {s : Str} {i : Nat} {d : PyData} (h : ((signs s).map PyData.str)[i]? = some d) : ∃ c, s.cps[i]? = some c ∧ d = .str ⟨#[c]⟩ ∧ i < s.cps.size := by
  unfold signs at h
  rw [List.getElem?_map, List.getElem?_map] at h
  cases q : s.cps.toList[i]? with
  | none => rw [q] at h; cases h
  | some x =>
    rw [q] at h; simp at h
    have hi := (List.getElem?_eq_some_iff.mp q).1
    exact ⟨x, by simpa using q, h.symm, by simpa using hi⟩
theorem signs_len (s : Str) : (signs s).length = s.length := by unfold signs; simp [Str.length]
theorem ji_str {s : Str} (h : JE T e e0 e1 (.d (.str s))) : JI T tg e e0 e1 ((signs s).map .str) := fun X hX =>
  (pi_str (h X hX)).wk fun σ H Rr' ⟨R, C, E, k⟩ => ⟨R, C, E, fun v C1 H1 c1 E1 r1 => by
    cases r1 with
    | str ok =>
    refine ⟨s, rfl, k _ C1 H1 c1 E1 (by rw [List.length_map, signs_len]; exact ok.2) fun C2 env σ H2 c2 E2 => ⟨by show s.cps.size ≤ _; rw [List.length_map, signs_len]; exact Nat.le_refl _, fun i d hd => ?_⟩⟩
    obtain ⟨c, hc, rfl, hi⟩ := signs_get hd
    refine ⟨hi, fun y H3 hy => ?_⟩
    obtain ⟨rfl, c', hc', rfl⟩ := hy
    rw [hc] at hc'; cases hc'
    exact ⟨C2, Ex.refl C2, E2, fun _ h => h, fun _ _ h => h, fun _ _ _ h => h, .str (sOk_one ok (i := i) (by simpa using hc))⟩⟩
theorem ji_enumS {s : Str} (hg : glB T.sc "enumerate" = true) (hm : T.mg "enumerate" = none) (h : JE T e e0 e1 (.d (.str s))) (hs : ∀ v : Env, starEach [e] v = [(false, eval e v)] := by intro _; rfl) : JI T (.Tuple elts kk tpos) (.Call (.Name "enumerate" p) [e] [] pos) e0 e1 (enumD ((signs s).map .str)) := fun X hX =>
  (pi_enumS (gl_of hX hg) (by rw [hX.mg]; exact hm) (pa_cons (h X hX) pa_nil (hs X.env)) (hs X.env)).wk fun σ H Rr' ⟨R, C, E, k⟩ => ⟨R, C, E, fun v C1 H1 c1 E1 r1 => by
    cases r1 with
    | str ok =>
    refine ⟨s, rfl, k _ C1 H1 c1 E1 (by rw [enumD_len, List.length_map, signs_len]; exact ok.2) fun C2 env σ H2 c2 E2 => ⟨by show s.cps.size = _; rw [enumD_len, List.length_map, signs_len]; rfl, fun i d hd => ?_⟩⟩
    obtain ⟨x, hx, rfl⟩ := enumD_get hd
    obtain ⟨c, hc, rfl, hi⟩ := signs_get hx
    refine ⟨hi, fun y H3 hy => ?_⟩
    obtain ⟨t, c', rfl, ht, rfl, hc'⟩ := hy
    rw [hc] at hc'; cases hc'
    exact E2.pair ht (.int _) (.str (sOk_one ok (i := i) (by simpa using hc)))⟩
/-- zip of two -/
def zipD (xs ys : List PyData) : List PyData := (xs.zip ys).map fun q => .tuple [q.1, q.2]
theorem zipD_get {xs ys : List PyData} {i : Nat} {d : PyData} (h : (zipD xs ys)[i]? = some d) : ∃ x y, xs[i]? = some x ∧ ys[i]? = some y ∧ d = .tuple [x, y] := by
  unfold zipD at h
  rw [List.getElem?_map] at h
  cases q : (xs.zip ys)[i]? with
  | none => rw [q] at h; cases h
  | some z =>
    rw [q] at h; simp at h
    obtain ⟨x, y⟩ := z
    rw [List.getElem?_zip_eq_some] at q
    exact ⟨x, y, q.1, q.2, h.symm⟩
theorem zipD_len (xs ys : List PyData) : (zipD xs ys).length = min xs.length ys.length := by unfold zipD; simp
theorem ji_zipT {xs ys : List PyData} (hg : glB T.sc "zip" = true) (hm : T.mg "zip" = none) (h : JA T [a, b] e0 e1 [.tuple xs, .tuple ys]) (hs : ∀ v : Env, starEach [a, b] v = (false, eval a v) :: starEach [b] v := by intro _; rfl) (hpl : ∀ v : Env, (backTo pos (starEach [b] v)).any (·.1) = false := by intro _; rfl) : JI T (.Tuple elts kk tpos) (.Call (.Name "zip" p) [a, b] [] pos) e0 e1 (zipD xs ys) := fun X hX =>
  (RZ.pi_zipA (gl_of hX hg) (by rw [hX.mg]; exact hm) (h X hX) (hs X.env) (hpl X.env)).wk fun σ H Rr' ⟨R, C, E, k⟩ => ⟨R, C, E, fun vs C1 H1 c1 E1 r1 => by
    cases r1 with
    | cons r1 r2 =>
    cases r2 with
    | cons r2 r3 =>
    cases r3
    cases r1 with
    | tup q1 l1 r1 =>
    cases r2 with
    | tup q2 l2 r2 =>
    refine ⟨_, _, _, _, rfl, .inr ⟨E1.cH.t q1, E1.cH.t q2, k _ C1 H1 c1 E1 (by rw [zipD_len, ← r1.len]; omega) fun C2 env σ H2 c2 E2 => ⟨⟨_, _, E2.cH.t (c2.t q1), E2.cH.t (c2.t q2), by rw [zipD_len, r1.len, r2.len]; omega⟩, fun i d hd => ?_⟩⟩⟩
    obtain ⟨x, y, hx, hy, rfl⟩ := zipD_get hd
    obtain ⟨u, hu, ru⟩ := r1.getD hx
    obtain ⟨w, hw, rw⟩ := r2.getD hy
    refine ⟨⟨_, _, u, w, E2.cH.t (c2.t q1), E2.cH.t (c2.t q2), hu, hw⟩, fun z H3 hz => ?_⟩
    obtain ⟨t, u', w', rfl, ht, rfl, h1, h2⟩ := hz
    have e1 := h1 _ (E2.cH.t (c2.t q1))
    have e2 := h2 _ (E2.cH.t (c2.t q2))
    rw [hu] at e1; cases e1
    rw [hw] at e2; cases e2
    exact E2.pair ht (ru.mono c2) (rw.mono c2)⟩
theorem ji_zipL {xs ys : List PyData} (hg : glB T.sc "zip" = true) (hm : T.mg "zip" = none) (h : JA T [a, b] e0 e1 [.list xs, .list ys]) (hs : ∀ v : Env, starEach [a, b] v = (false, eval a v) :: starEach [b] v := by intro _; rfl) (hpl : ∀ v : Env, (backTo pos (starEach [b] v)).any (·.1) = false := by intro _; rfl) : JI T (.Tuple elts kk tpos) (.Call (.Name "zip" p) [a, b] [] pos) e0 e1 (zipD xs ys) := fun X hX =>
  (RZ.pi_zipA (gl_of hX hg) (by rw [hX.mg]; exact hm) (h X hX) (hs X.env) (hpl X.env)).wk fun σ H Rr' ⟨R, C, E, k⟩ => ⟨R, C, E, fun vs C1 H1 c1 E1 r1 => by
    cases r1 with
    | cons r1 r2 =>
    cases r2 with
    | cons r2 r3 =>
    cases r3
    cases r1 with
    | lst q1 l1 r1 =>
    cases r2 with
    | lst q2 l2 r2 =>
    refine ⟨_, _, _, _, rfl, .inl ⟨SqL.of (E1.cH _ _ q1), SqL.of (E1.cH _ _ q2), k _ C1 H1 c1 E1 (by rw [zipD_len, ← r1.len]; omega) fun C2 env σ H2 c2 E2 => ⟨⟨_, _, SqL.of (E2.cH _ _ (c2 _ _ q1)), SqL.of (E2.cH _ _ (c2 _ _ q2)), by rw [zipD_len, r1.len, r2.len]; omega⟩, fun i d hd => ?_⟩⟩⟩
    obtain ⟨x, y, hx, hy, rfl⟩ := zipD_get hd
    obtain ⟨u, hu, ru⟩ := r1.getD hx
    obtain ⟨w, hw, rw⟩ := r2.getD hy
    refine ⟨⟨_, _, u, w, SqL.of (E2.cH _ _ (c2 _ _ q1)), SqL.of (E2.cH _ _ (c2 _ _ q2)), hu, hw⟩, fun z H3 hz => ?_⟩
    obtain ⟨t, u', w', rfl, ht, rfl, h1, h2⟩ := hz
    have e1 := h1 _ (SqL.of (E2.cH _ _ (c2 _ _ q1)))
    have e2 := h2 _ (SqL.of (E2.cH _ _ (c2 _ _ q2)))
    rw [hu] at e1; cases e1
    rw [hw] at e2; cases e2
    exact E2.pair ht (ru.mono c2) (rw.mono c2)⟩
end
end J
namespace J
open PySem L2 PySem.Spec PyProof.Rows

/-! ### comprehensions over data of one kind -/
section
variable {T : TC} {a b e : Expr} {es : List Expr} {env e0 e1 e2 e3 : Env'} {pos p : Pos} {x y z : PyData} {ds : List PyData} {K : PySem.W.Frag} {R C C' H H' : Hp} {σ σ' : L2.St} {v : V} {st : Stmt} {rest body : List Stmt} {oc : Oc}
variable {α β : Type} {tg iter elt : Expr} {ifs : List Expr} {scope : Scope}
theorem filter_snoc {α : Type} (p : α → Bool) {xs : List α} {i : Nat} {x : α} (h : xs[i]? = some x) : (xs.take (i + 1)).filter p = (xs.take i).filter p ++ (if p x = true then [x] else []) := by
  rw [take_get h, List.filter_append]
  congr 1
  by_cases q : p x = true
  · rw [if_pos q, List.filter_cons_of_pos q]; rfl
  · rw [if_neg q, List.filter_cons_of_neg q]; rfl
/-- what a comprehension whose parts leave the environment is to show -/
structure LcP (T : TC) (scope : Scope) (tg elt : Expr) (ifs : List Expr) (own : List (Str × Nat)) (e1 : Env') (d : PyData) (c : Bool) (w : PyData) : Prop where
  ex : ∃ (js : List Nat) (E1 : Env'), js ⊆ own.map (·.2) ∧ JG (T.blk scope) tg js d e1 E1 ∧ JTs (T.blk scope) ifs E1 E1 c ∧ Le e1 E1 ∧ (c = true → JE (T.blk scope) elt E1 E1 (.d w))
theorem lcp {js : List Nat} {own : List (Str × Nat)} {E1 : Env'} {d w : PyData} {c : Bool} (hjs : js ⊆ own.map (·.2)) (hg : JG (T.blk scope) tg js d e1 E1) (ht : JTs (T.blk scope) ifs E1 E1 c) (hl : Le e1 E1) (he : c = true → JE (T.blk scope) elt E1 E1 (.d w)) : LcP T scope tg elt ifs own e1 d c w := ⟨js, E1, hjs, hg, ht, hl, he⟩
theorem lcp_turn {enc : α → PyData} {xs : List α} {own : List (Str × Nat)} {p : α → Bool} {g : α → PyData} (turn : ∀ x, x ∈ xs → LcP T scope tg elt ifs own e1 (enc x) (p x) (g x)) :
    ∀ i d, (xs.map enc)[i]? = some d → LcTurn T scope tg elt ifs (own.map (·.2)) d e1 e1 (((xs.take i).filter p).map g) (((xs.take (i + 1)).filter p).map g) := fun i d hd => by
  rw [List.getElem?_map] at hd
  cases q : xs[i]? with
  | none => rw [q] at hd; cases hd
  | some x =>
    rw [q] at hd; cases hd
    obtain ⟨js, E1, h1, h2, h3, h4, h5⟩ := (turn x (List.mem_of_getElem? q)).ex
    refine ⟨js, E1, E1, p x, h1, h2, h3, fun hp => ⟨E1, g x, h5 hp, h4, ?_⟩, fun hp => ⟨h4, ?_⟩⟩
    · rw [filter_snoc p q, if_pos hp, List.map_append]; rfl
    · rw [filter_snoc p q, if_neg (by rw [hp]; exact Bool.false_ne_true), List.append_nil]
theorem je_lc {enc : α → PyData} {xs : List α} (own : List (Str × Nat)) (p : α → Bool) (g : α → PyData) (hi : JI T tg iter e0 e1 (xs.map enc)) (hnd : T.N.Nodup) (ok : blkC T.N T.sc scope own = true) (hu : unk e1 (own.map (·.2)))
    (turn : ∀ x, x ∈ xs → LcP T scope tg elt ifs own e1 (enc x) (p x) (g x)) (hs : ∀ (v : Env) x, foldedSetIterable iter v x = pure x := by intro _ _; rfl) : JE T (.ListComp elt [⟨tg, iter, ifs, 0⟩] scope pos) e0 e1 (.o (.list ((xs.filter p).map g))) := by
  have := je_lcG (pos := pos) (elt := elt) (ifs := ifs) (scope := scope) own (fun _ => e1) (fun i => ((xs.take i).filter p).map g) hi hnd ok rfl (by simp) (fun _ _ => hu) (lcp_turn turn) hs
  simpa using this
theorem js_setLc {enc : α → PyData} {xs : List α} (i : Nat) {nm : Str} {py spos : Pos} (own : List (Str × Nat)) (p : α → Bool) (g : α → PyData) (hi : JI T tg iter e0 e1 (xs.map enc)) (hnd : T.N.Nodup) (ok : blkC T.N T.sc scope own = true) (hu : unk e1 (own.map (·.2)))
    (turn : ∀ x, x ∈ xs → LcP T scope tg elt ifs own e1 (enc x) (p x) (g x)) (hN : T.N[i]? = some nm := by rfl) (hl : T.sc.names.lookup nm = some .local := by rfl) (hk : T.sc.kind = .function := by rfl) (hpl : (py.line == pos.line) = true := by rfl) (ha : (scope.names.any fun (n, k) => n == nm && (k == .local || k == .cell)) = false := by decide +kernel) (hs : ∀ (v : Env) x, foldedSetIterable iter v x = pure x := by intro _ _; rfl) :
    JS T (.Assign [.Name nm py] (.ListComp elt [⟨tg, iter, ifs, 0⟩] scope pos) spos) e0 (.nx (e1.set i (.o none (.list ((xs.filter p).map g))))) := by
  have := js_setLcG (py := py) (spos := spos) (pos := pos) (elt := elt) (ifs := ifs) (scope := scope) i own (fun _ => e1) (fun i => ((xs.take i).filter p).map g) hi hnd ok rfl (by simp) (fun _ _ => hu) (lcp_turn turn) hN hl hk hpl ha hs
  simpa using this
/-- name = .. where the name is a cell: an ordinary store -/
theorem sw_false {elt : Expr} {gs : List Comprehension} {scope : Scope} {pos py : Pos} {y : Str} {T : TC} (hy : T.sc.names.lookup y = some .cell) (v : Env) (hv : v.scope = T.sc) (l : Nat) : swapsWith (.ListComp elt gs scope pos) (some (.Name y py)) l v = pure false := by
  have ky : v.kindOf y = some .cell := by unfold Env.kindOf; rw [hv]; exact hy
  unfold swapsWith
  simp only [ky]
  have : ((some NameKind.cell : Option NameKind) == some NameKind.local) = false := by decide
  simp only [this, Bool.and_false, Bool.false_and]
theorem js_setC (i : Nat) {nm : Str} {pos' : Pos} {d : PyData} {elt : Expr} {gs : List Comprehension} {scope : Scope} {lpos : Pos} (hnd : T.N.Nodup) (h : JE T (.ListComp elt gs scope lpos) e0 e1 (.o d)) (hN : T.N[i]? = some nm := by rfl) (hl : T.sc.names.lookup nm = some .cell := by rfl) (hf : T.fn nm = true := by rfl) :
    JS T (.Assign [.Name nm pos'] (.ListComp elt gs scope lpos) pos) e0 (.nx (e1.set i (.o none d))) := fun X hX =>
  (ps_set (i := i) (by rw [hX.N]; exact hnd) (by rw [hX.N]; exact hN) (by rw [hX.sc]; exact .inr hl) (h X hX) (sw_false hl X.env hX.sc pos.line) (.inl (hX.fn _ hf))).wk fun D σ H ⟨R, C, E, k⟩ => ⟨R, C, E, fun v C' H' c E' ⟨p, ev, cp, rp, no, ow⟩ => by
    subst ev
    exact k _ C' H' c (E'.setO i cp rp no ow)⟩

/-! comprehensions whose elements change the environment: a state carried from element to element -/
def mapS {α β S : Type} (f : S → α → β × S) : S → List α → List β × S
  | s, [] => ([], s)
  | s, x :: xs => ((f s x).1 :: (mapS f (f s x).2 xs).1, (mapS f (f s x).2 xs).2)
theorem mapS_snoc {α β S : Type} (f : S → α → β × S) : ∀ (xs : List α) (s : S) (x : α), mapS f s (xs ++ [x]) = ((mapS f s xs).1 ++ [(f (mapS f s xs).2 x).1], (f (mapS f s xs).2 x).2)
  | [], s, x => rfl
  | y :: xs, s, x => by
    simp only [List.cons_append, mapS, mapS_snoc f xs (f s y).2 x]
structure LcD {β S : Type} (T : TC) (scope : Scope) (tg elt : Expr) (own : List (Str × Nat)) (Ev : S → Env') (dec : β → PyData) (d : PyData) (s : S) (r : β × S) : Prop where
  ex : ∃ (js : List Nat) (E1 E2 : Env'), js ⊆ own.map (·.2) ∧ JG (T.blk scope) tg js d (Ev s) E1 ∧ JE (T.blk scope) elt E1 E2 (.d (dec r.1)) ∧ Le (Ev r.2) E2
theorem lcd {β S : Type} {own : List (Str × Nat)} {Ev : S → Env'} {dec : β → PyData} {d : PyData} {s : S} {r : β × S} {js : List Nat} {E1 E2 : Env'} (hjs : js ⊆ own.map (·.2)) (hg : JG (T.blk scope) tg js d (Ev s) E1) (he : JE (T.blk scope) elt E1 E2 (.d (dec r.1))) (hl : Le (Ev r.2) E2) : LcD T scope tg elt own Ev dec d s r := ⟨js, E1, E2, hjs, hg, he, hl⟩
theorem lcd_turn {β S : Type} {enc : α → PyData} {xs : List α} {own : List (Str × Nat)} {Ev : S → Env'} {dec : β → PyData} {f : S → α → β × S} {s0 : S} (turn : ∀ s x, x ∈ xs → LcD T scope tg elt own Ev dec (enc x) s (f s x)) :
    ∀ i d, (xs.map enc)[i]? = some d → LcTurn T scope tg elt [] (own.map (·.2)) d (Ev (mapS f s0 (xs.take i)).2) (Ev (mapS f s0 (xs.take (i + 1))).2) ((mapS f s0 (xs.take i)).1.map dec) ((mapS f s0 (xs.take (i + 1))).1.map dec) := fun i d hd => by
  rw [List.getElem?_map] at hd
  cases q : xs[i]? with
  | none => rw [q] at hd; cases hd
  | some x =>
    rw [q] at hd; cases hd
    obtain ⟨js, E1, E2, h1, h2, h3, h4⟩ := (turn (mapS f s0 (xs.take i)).2 x (List.mem_of_getElem? q)).ex
    rw [take_get q, mapS_snoc]
    exact ⟨js, E1, E1, true, h1, h2, jts_nil, fun _ => ⟨E2, _, h3, h4, by rw [List.map_append]; rfl⟩, fun h => by cases h⟩
theorem je_lcD {β S : Type} {enc : α → PyData} {xs : List α} (own : List (Str × Nat)) (Ev : S → Env') (dec : β → PyData) (f : S → α → β × S) (s0 : S) (hi : JI T tg iter e0 (Ev s0) (xs.map enc)) (hnd : T.N.Nodup) (ok : blkC T.N T.sc scope own = true) (hu : ∀ s, unk (Ev s) (own.map (·.2)))
    (turn : ∀ s x, x ∈ xs → LcD T scope tg elt own Ev dec (enc x) s (f s x)) (hs : ∀ (v : Env) x, foldedSetIterable iter v x = pure x := by intro _ _; rfl) : JE T (.ListComp elt [⟨tg, iter, [], 0⟩] scope pos) e0 (Ev (mapS f s0 xs).2) (.o (.list ((mapS f s0 xs).1.map dec))) := by
  have := je_lcG (pos := pos) (elt := elt) (ifs := []) (scope := scope) own (fun i => Ev (mapS f s0 (xs.take i)).2) (fun i => (mapS f s0 (xs.take i)).1.map dec) hi hnd ok (by simp [mapS]) (by simp [mapS]) (fun _ _ => hu _) (lcd_turn turn) hs
  simpa using this
theorem js_setLcD {β S : Type} {enc : α → PyData} {xs : List α} (i : Nat) {nm : Str} {py spos : Pos} (own : List (Str × Nat)) (Ev : S → Env') (dec : β → PyData) (f : S → α → β × S) (s0 : S) (hi : JI T tg iter e0 (Ev s0) (xs.map enc)) (hnd : T.N.Nodup) (ok : blkC T.N T.sc scope own = true) (hu : ∀ s, unk (Ev s) (own.map (·.2)))
    (turn : ∀ s x, x ∈ xs → LcD T scope tg elt own Ev dec (enc x) s (f s x)) (hN : T.N[i]? = some nm := by rfl) (hl : T.sc.names.lookup nm = some .local := by rfl) (hk : T.sc.kind = .function := by rfl) (hpl : (py.line == pos.line) = true := by rfl) (ha : (scope.names.any fun (n, k) => n == nm && (k == .local || k == .cell)) = false := by decide +kernel) (hs : ∀ (v : Env) x, foldedSetIterable iter v x = pure x := by intro _ _; rfl) :
    JS T (.Assign [.Name nm py] (.ListComp elt [⟨tg, iter, [], 0⟩] scope pos) spos) e0 (.nx ((Ev (mapS f s0 xs).2).set i (.o none (.list ((mapS f s0 xs).1.map dec))))) := by
  have := js_setLcG (py := py) (spos := spos) (pos := pos) (elt := elt) (ifs := []) (scope := scope) i own (fun i => Ev (mapS f s0 (xs.take i)).2) (fun i => (mapS f s0 (xs.take i)).1.map dec) hi hnd ok (by simp [mapS]) (by simp [mapS]) (fun _ _ => hu _) (lcd_turn turn) hN hl hk hpl ha hs
  simpa using this
/-! .. whose tests change it -/
def filS {α β S : Type} (c : S → α → Bool × S) (g : α → β) : S → List α → List β × S
  | s, [] => ([], s)
  | s, x :: xs => ((if (c s x).1 = true then g x :: (filS c g (c s x).2 xs).1 else (filS c g (c s x).2 xs).1), (filS c g (c s x).2 xs).2)
theorem filS_snoc {α β S : Type} (c : S → α → Bool × S) (g : α → β) : ∀ (xs : List α) (s : S) (x : α), filS c g s (xs ++ [x]) = ((filS c g s xs).1 ++ (if (c (filS c g s xs).2 x).1 = true then [g x] else []), (c (filS c g s xs).2 x).2)
  | [], s, x => by simp only [List.nil_append, filS]; rfl
  | y :: xs, s, x => by
    simp only [List.cons_append, filS, filS_snoc c g xs (c s y).2 x]
    split <;> rfl
structure LcF {S : Type} (T : TC) (scope : Scope) (tg elt : Expr) (ifs : List Expr) (own : List (Str × Nat)) (Ev : S → Env') (d : PyData) (s : S) (r : Bool × S) (w : PyData) : Prop where
  ex : ∃ (js : List Nat) (E1 E2 : Env'), js ⊆ own.map (·.2) ∧ JG (T.blk scope) tg js d (Ev s) E1 ∧ JTs (T.blk scope) ifs E1 E2 r.1 ∧ (r.1 = true → JE (T.blk scope) elt E2 E2 (.d w)) ∧ Le (Ev r.2) E2
theorem lcf {S : Type} {own : List (Str × Nat)} {Ev : S → Env'} {d w : PyData} {s : S} {r : Bool × S} {js : List Nat} {E1 E2 : Env'} (hjs : js ⊆ own.map (·.2)) (hg : JG (T.blk scope) tg js d (Ev s) E1) (ht : JTs (T.blk scope) ifs E1 E2 r.1) (he : r.1 = true → JE (T.blk scope) elt E2 E2 (.d w)) (hl : Le (Ev r.2) E2) : LcF T scope tg elt ifs own Ev d s r w := ⟨js, E1, E2, hjs, hg, ht, he, hl⟩
theorem je_lcF {β S : Type} {enc : α → PyData} {xs : List α} (own : List (Str × Nat)) (Ev : S → Env') (dec : β → PyData) (c : S → α → Bool × S) (g : α → β) (s0 : S) (hi : JI T tg iter e0 (Ev s0) (xs.map enc)) (hnd : T.N.Nodup) (ok : blkC T.N T.sc scope own = true) (hu : ∀ s, unk (Ev s) (own.map (·.2)))
    (turn : ∀ s x, x ∈ xs → LcF T scope tg elt ifs own Ev (enc x) s (c s x) (dec (g x))) (hs : ∀ (v : Env) x, foldedSetIterable iter v x = pure x := by intro _ _; rfl) : JE T (.ListComp elt [⟨tg, iter, ifs, 0⟩] scope pos) e0 (Ev (filS c g s0 xs).2) (.o (.list ((filS c g s0 xs).1.map dec))) := by
  have := je_lcG (pos := pos) (elt := elt) (ifs := ifs) (scope := scope) own (fun i => Ev (filS c g s0 (xs.take i)).2) (fun i => (filS c g s0 (xs.take i)).1.map dec) hi hnd ok (by simp [filS]) (by simp [filS]) (fun _ _ => hu _) (fun i d hd => by
    rw [List.getElem?_map] at hd
    cases q : xs[i]? with
    | none => rw [q] at hd; cases hd
    | some x =>
      rw [q] at hd; cases hd
      obtain ⟨js, E1, E2, h1, h2, h3, h4, h5⟩ := (turn (filS c g s0 (xs.take i)).2 x (List.mem_of_getElem? q)).ex
      simp only [take_get q, filS_snoc]
      refine ⟨js, E1, E2, _, h1, h2, h3, fun hc => ⟨E2, _, h4 hc, h5, ?_⟩, fun hc => ⟨h5, ?_⟩⟩
      · rw [if_pos hc, List.map_append]; rfl
      · rw [if_neg (by rw [hc]; exact Bool.false_ne_true), List.append_nil]) hs
  simpa using this

/-! ### least and greatest, sorted -/
theorem readsAll_of {X : Cx} {pins : List (Addr × Obj)} {s : Shared} (I : L2.Inv X pins σ H s) {xs : List PyData} {vs : List V} {us : List Value} (r : Rps X.K C vs xs) (e : Ex C H) (hv : Vals vs us) (hp : pureAll xs = true) : ∃ as, ReadsAll s.heap us xs as :=
  Dp.readsAll I xs vs us ((r.mono e).dps hp) hv
end
end J
namespace J
open PySem L2 PySem.Spec PyProof.Rows PySem.W

/-! ### least, greatest, sorted -/
theorem foldl_pick {α : Type} (f : α → α → Bool) : ∀ (xs : List α) (x : α), xs.foldl (fun a y => if f y a = true then y else a) x ∈ x :: xs
  | [], x => by simp
  | y :: xs, x => by
    have := foldl_pick f xs (if f y x = true then y else x)
    rw [List.foldl_cons]
    rcases List.mem_cons.mp this with h | h
    · rw [h]; split <;> simp
    · exact List.mem_cons_of_mem _ (List.mem_cons_of_mem _ h)
theorem minD_mem (x : PyData) (xs : List PyData) : minD x xs ∈ x :: xs := foldl_pick dataLt xs x
theorem maxD_mem (x : PyData) (xs : List PyData) : maxD x xs ∈ x :: xs := foldl_pick (fun y a => dataLt a y) xs x
theorem isList_of {h : Heap} {a : Addr} {its : Array Value} (p : PlainL h a its) : h.IsList a its := p.isList
section
variable {X : Cx}
/-- the i-th one is the one -/
def rBest (best : PyData → List PyData → PyData) (K : PySem.W.Frag) : List V → Hp → VK → Prop := fun vs H Q => ∃ (a : Addr) (ys : List V) (x : PyData) (xs : List PyData), vs = [.ref a] ∧ (SqL K H a ys ∨ SqT K H a ys) ∧ DpAll K H ys (x :: xs) ∧ AlikeAll (x :: xs) ∧ PyData.depthAll (x :: xs) ≤ 64 ∧
  ∀ (i : Nat) w, ys[i]? = some w → (x :: xs)[i]? = some (best x xs) → Q w H
theorem at_best {h : Heap} {best : PyData → List PyData → PyData} (hb : ∀ x xs, best x xs ∈ x :: xs) {x : PyData} {xs : List PyData} {us : List Value} {as bs : List Addr} {i : Nat} {u : Value} (al : AlikeAll (x :: xs)) (r : ReadsAll h us (x :: xs) as) (hu : us[i]? = some u) (hr : Reads h u (best x xs) bs) : (x :: xs)[i]? = some (best x xs) := by
  obtain ⟨cs, h1, h2, h3, _⟩ := readsAll_at (vs := us) r i u (by simpa using hu)
  have e := alike_unique _ _ u cs bs (al.1 _ h3 _ (hb x xs)) h1 hr
  rw [← e, List.getD_eq_getElem?_getD, List.getElem?_eq_getElem h2]
  rfl
theorem cr_minD (hc : X.calm = true) (hu : X.A.units + 200 < cLine) : CallR X (.builtin "min") (rBest minD X.K) := by
  intro pins s σ H xs us Q I rv h
  obtain ⟨a, ys, x, ds, rfl, hq, hd, al, dp, q⟩ := h
  have eu := Vals.ref1 rv
  subst eu
  have fin : ∀ (its : List Value), Vals ys its → ∀ (i : Nat) v h' tk bs, its.toArray[i]? = some v → Reads h' v (minD x ds) bs → (∀ b o, s.heap.get? b = some o → h'.get? b = some o) → EP X pins σ Q v { s with heap := h', toks := tk } := fun its r i v h' tk bs hv hr hk => by
    obtain ⟨as, ra⟩ := Dp.readsAll I (x :: ds) ys its hd r
    have hv' : its[i]? = some v := by simpa using hv
    have hi := at_best minD_mem al (ReadsAll.keeps hk ra) hv' hr
    have hl : i < ys.length := by rw [r.length]; exact (List.getElem?_eq_some_iff.mp hv').1
    obtain ⟨u, hu', ru⟩ := r.get (List.getElem?_eq_getElem hl)
    rw [hv'] at hu'; cases hu'
    exact ⟨_, H, I.kept (t' := tk) hk, ru, q i _ (List.getElem?_eq_getElem hl) hi⟩
  rcases hq with hq | hq
  · obtain ⟨its, r, pl, hz⟩ := I.list hq
    obtain ⟨as, ra⟩ := Dp.readsAll I (x :: ds) ys its hd r
    exact min_list_data (I.ok.hd hc) pl.isList (by simpa using ra) al (by omega) (fin its r)
  · obtain ⟨its, r, pl, hz⟩ := I.tuple hq
    obtain ⟨as, ra⟩ := Dp.readsAll I (x :: ds) ys its hd r
    exact min_tuple_data (I.ok.hd hc) pl (by simpa using ra) al (by omega) (fin its r)
theorem cr_maxD (hc : X.calm = true) (hu : X.A.units + 200 < cLine) : CallR X (.builtin "max") (rBest maxD X.K) := by
  intro pins s σ H xs us Q I rv h
  obtain ⟨a, ys, x, ds, rfl, hq, hd, al, dp, q⟩ := h
  have eu := Vals.ref1 rv
  subst eu
  have fin : ∀ (its : List Value), Vals ys its → ∀ (i : Nat) v h' tk bs, its.toArray[i]? = some v → Reads h' v (maxD x ds) bs → (∀ b o, s.heap.get? b = some o → h'.get? b = some o) → EP X pins σ Q v { s with heap := h', toks := tk } := fun its r i v h' tk bs hv hr hk => by
    obtain ⟨as, ra⟩ := Dp.readsAll I (x :: ds) ys its hd r
    have hv' : its[i]? = some v := by simpa using hv
    have hi := at_best maxD_mem al (ReadsAll.keeps hk ra) hv' hr
    have hl : i < ys.length := by rw [r.length]; exact (List.getElem?_eq_some_iff.mp hv').1
    obtain ⟨u, hu', ru⟩ := r.get (List.getElem?_eq_getElem hl)
    rw [hv'] at hu'; cases hu'
    exact ⟨_, H, I.kept (t' := tk) hk, ru, q i _ (List.getElem?_eq_getElem hl) hi⟩
  rcases hq with hq | hq
  · obtain ⟨its, r, pl, hz⟩ := I.list hq
    obtain ⟨as, ra⟩ := Dp.readsAll I (x :: ds) ys its hd r
    exact max_list_data (I.ok.hd hc) pl.isList (by simpa using ra) al (by omega) (fin its r)
  · obtain ⟨its, r, pl, hz⟩ := I.tuple hq
    obtain ⟨as, ra⟩ := Dp.readsAll I (x :: ds) ys its hd r
    exact max_tuple_data (I.ok.hd hc) pl (by simpa using ra) al (by omega) (fin its r)
theorem zipR : ∀ {ys : List V} {its : List Value} {ds : List PyData}, Vals ys its → ys.length = ds.length → EachIs (fun (u : Value) (b : V × PyData) => L2.RelV b.1 u) its (ys.zip ds)
  | _, _, _, .nil, _ => .nil
  | _, _, [], .cons _ _, h => by cases h
  | _, _, d :: ds, .cons h1 t, h => .cons h1 (zipR t (by simpa using h))
theorem zipRd {h : Heap} : ∀ {ds : List PyData} {ys : List V} {its : List Value} {as : List Addr}, Vals ys its → ReadsAll h its ds as → EachIs (fun (u : Value) (b : V × PyData) => ∃ as, Reads h u b.2 as) its (ys.zip ds)
  | [], _, _, _, v, r => by cases r; cases v; exact .nil
  | d :: ds, _, _, _, v, r => by
    cases r with
    | cons r1 r2 => cases v with
      | cons v1 v2 => exact .cons ⟨_, r1⟩ (zipRd v2 r2)
theorem eachVals : ∀ {out : List Value} {zs : List (V × PyData)}, EachIs (fun (u : Value) (b : V × PyData) => L2.RelV b.1 u) out zs → Vals (zs.map (·.1)) out
  | _, _, .nil => .nil
  | _, _, .cons h t => .cons h (eachVals t)
theorem depth_mem : ∀ {ds : List PyData} {d : PyData}, d ∈ ds → d.depth ≤ PyData.depthAll ds
  | d :: ds, e, h => by
    rw [PyData.depthAll]
    rcases List.mem_cons.mp h with h | h
    · rw [h]; exact Nat.le_max_left _ _
    · exact Nat.le_trans (depth_mem h) (Nat.le_max_right _ _)
theorem dpAll_len {K : PySem.W.Frag} {H : Hp} : ∀ {ds : List PyData} {vs : List V}, DpAll K H vs ds → vs.length = ds.length
  | [], _, h => by cases h; rfl
  | d :: ds, _, h => by cases h with
    | cons h1 h2 => simp [dpAll_len h2]
/-- sorted: the values in their order by what they read as -/
def rSortD (K : PySem.W.Frag) : List V → Hp → VK → Prop := fun vs H Q => ∃ (a : Addr) (ys : List V) (ds : List PyData), vs = [.ref a] ∧ SqL K H a ys ∧ DpAll K H ys ds ∧ AllAlike ds ∧ Sortable ds ∧ PyData.depthAll ds ≤ 64 ∧
  ∀ p, H p = none → Q (.ref p) (upd H p (.lst (((ys.zip ds).mergeSort (dataLe false (·.2))).map (·.1))))
theorem cr_sortD (hu : X.A.units + 200 < cLine) : CallR X (.builtin "sorted") (rSortD X.K) := by
  intro pins s σ H xs us Q I rv h
  obtain ⟨a, ys, ds, rfl, hq, hd, al, so, dp, q⟩ := h
  have eu := Vals.ref1 rv
  subst eu
  obtain ⟨its, r, pl, hz⟩ := I.list hq
  obtain ⟨as, ra⟩ := Dp.readsAll I ds ys its hd r
  have hlen : ys.length = ds.length := dpAll_len hd
  have e1 : (ys.zip ds).map (·.2) = ds := List.map_snd_zip (by omega)
  have R1 := zipR r hlen
  have R2 := zipRd r ra
  have hdep : ∀ b, b ∈ ys.zip ds → X.A.units + 2 + b.2.depth < cLine := fun b hb => by
    have hm : b.2 ∈ ds := by
      have : b.2 ∈ (ys.zip ds).map (·.2) := List.mem_map.mpr ⟨b, hb, rfl⟩
      rw [e1] at this; exact this
    have := depth_mem hm
    omega
  refine sorted_data (R := fun (u : Value) (b : V × PyData) => RelV b.1 u) (enc := fun b => b.2) (bs := ys.zip ds) pl.isList R1 R2 (by rw [e1]; exact al) (by rw [e1]; exact so) (by rw [List.length_zip]; omega) hdep fun out ho hout => ?_
  obtain ⟨e, he⟩ := sortedAll_at s.heap its out.toArray
  have hv := eachVals hout
  have hn : H (s.heap.objs.size + 1) = none := I.hok.fresh (Nat.le_succ _)
  refine ⟨.ref (s.heap.objs.size + 1), _, I.laid (a := s.heap.objs.size + 1) (o := .lst _) (t' := s.toks) (fun b ob q => sortedAll_old q) (Nat.le_succ _) ?_, rfl, q _ hn⟩
  exact ⟨by rw [List.length_map, List.length_mergeSort, List.length_zip]; omega, out, e, hv, he⟩
end
section
variable {T : TC} {a b e : Expr} {es : List Expr} {env e0 e1 e2 e3 : Env'} {pos p : Pos} {x y z : PyData} {ds : List PyData} {K : PySem.W.Frag} {R C C' H H' : Hp} {σ σ' : L2.St} {v : V}
theorem shN_all {n : Nat} {xs : List PyData} (h : shN (n + 1) (.list xs) = true) : pureAll xs = true ∧ PyData.depthAll xs ≤ n := by
  have h' : ∀ x ∈ xs, shN n x = true := by simpa [shN] using h
  exact ⟨pureAll_of fun x hx => (shN_of (h' x hx)).1, depthAll_le fun x hx => (shN_of (h' x hx)).2⟩
theorem room_units {X : Cx} (hX : CT X T) : X.A.units + 200 < cLine := by have := hX.room.un; omega
theorem best_list {best : PyData → List PyData → PyData} {x : PyData} {xs : List PyData} (al : AlikeAll (x :: xs)) (sh : shN 64 (.list (x :: xs)) = true) : CallOk1 T (rBest best) (.list (x :: xs)) (.d (best x xs)) := fun R C H env σ v Q E hv k => by
  obtain ⟨p, vs, rfl, h1, l1, r1⟩ := rb_lst E hv
  obtain ⟨q1, q2⟩ := shN_all (n := 63) sh
  refine ⟨p, vs, x, xs, rfl, .inl (SqL.of h1), (r1.mono E.cH).dps q1, al, by omega, fun i w hw hi => ?_⟩
  obtain ⟨d, hd, rd⟩ := r1.get hw
  rw [hi] at hd; cases hd
  exact k w C H (Ex.refl C) E rd
theorem best_tup {best : PyData → List PyData → PyData} {x : PyData} {xs : List PyData} (al : AlikeAll (x :: xs)) (sh : shN 64 (.list (x :: xs)) = true) : CallOk1 T (rBest best) (.tuple (x :: xs)) (.d (best x xs)) := fun R C H env σ v Q E hv k => by
  obtain ⟨p, vs, rfl, h1, c1, l1, r1⟩ := rb_tup E hv
  obtain ⟨q1, q2⟩ := shN_all (n := 63) sh
  refine ⟨p, vs, x, xs, rfl, .inr h1, (r1.mono E.cH).dps q1, al, by omega, fun i w hw hi => ?_⟩
  obtain ⟨d, hd, rd⟩ := r1.get hw
  rw [hi] at hd; cases hd
  exact k w C H (Ex.refl C) E rd
/-- the first of the least, by what they read as -/
def pyMin {α : Type} [Inhabited α] (enc : α → PyData) : List α → α
  | [] => default
  | x :: xs => xs.foldl (fun a y => if dataLt (enc y) (enc a) = true then y else a) x
def pyMax {α : Type} [Inhabited α] (enc : α → PyData) : List α → α
  | [] => default
  | x :: xs => xs.foldl (fun a y => if dataLt (enc a) (enc y) = true then y else a) x
def pySort {α : Type} (enc : α → PyData) (xs : List α) : List α := xs.mergeSort (dataLe false enc)
theorem fold_enc {α : Type} (enc : α → PyData) (f : PyData → PyData → Bool) : ∀ (xs : List α) (x : α), enc (xs.foldl (fun a y => if f (enc y) (enc a) = true then y else a) x) = (xs.map enc).foldl (fun a y => if f y a = true then y else a) (enc x)
  | [], _ => rfl
  | y :: xs, x => by
    rw [List.foldl_cons, List.map_cons, List.foldl_cons, fold_enc enc f xs]
    congr 1
    split <;> rfl
theorem pyMin_enc {α : Type} [Inhabited α] (enc : α → PyData) (x : α) (xs : List α) : enc (pyMin enc (x :: xs)) = minD (enc x) (xs.map enc) := fold_enc enc dataLt xs x
theorem pyMax_enc {α : Type} [Inhabited α] (enc : α → PyData) (x : α) (xs : List α) : enc (pyMax enc (x :: xs)) = maxD (enc x) (xs.map enc) := fold_enc enc (fun y a => dataLt a y) xs x
/-- alike, all of them -/
def AlkE {α : Type} (enc : α → PyData) : Prop := (∀ a b, alike (enc a) (enc b) = true) ∧ ∀ a, enc a ≠ .none
theorem AlkE.all {α : Type} {enc : α → PyData} (h : AlkE enc) (xs : List α) : AlikeAll (xs.map enc) := ⟨fun x hx y hy => by
  obtain ⟨a, _, rfl⟩ := List.mem_map.mp hx
  obtain ⟨b, _, rfl⟩ := List.mem_map.mp hy
  exact h.1 a b, fun x hx => by
  obtain ⟨a, _, rfl⟩ := List.mem_map.mp hx
  exact h.2 a⟩
variable {α : Type} [Inhabited α] {enc : α → PyData} {xs : List α}
theorem je_minL (hg : glB T.sc "min" = true) (hm : T.mg "min" = none) (ha : JE T e e0 e1 (.b (.list (xs.map enc)))) (al : AlkE enc) (hne : xs ≠ []) (sh : shN 64 (.list (xs.map enc)) = true := by simp [shN]) (hp : Plain e [] pos := by exact ⟨fun _ => rfl, fun _ => rfl⟩) : JE T (.Call (.Name "min" p) [e] [] pos) e0 e1 (.d (enc (pyMin enc xs))) := by
  cases xs with
  | nil => exact absurd rfl hne
  | cons x xs =>
    rw [pyMin_enc (enc := enc) x xs]
    exact je_bi1 (r := rBest minD) (fun X hX => cr_minD hX.calm (room_units hX)) hg hm (by decide +kernel) ha (best_list (al.all (x :: xs)) sh) hp
theorem je_maxL (hg : glB T.sc "max" = true) (hm : T.mg "max" = none) (ha : JE T e e0 e1 (.b (.list (xs.map enc)))) (al : AlkE enc) (hne : xs ≠ []) (sh : shN 64 (.list (xs.map enc)) = true := by simp [shN]) (hp : Plain e [] pos := by exact ⟨fun _ => rfl, fun _ => rfl⟩) : JE T (.Call (.Name "max" p) [e] [] pos) e0 e1 (.d (enc (pyMax enc xs))) := by
  cases xs with
  | nil => exact absurd rfl hne
  | cons x xs =>
    rw [pyMax_enc (enc := enc) x xs]
    exact je_bi1 (r := rBest maxD) (fun X hX => cr_maxD hX.calm (room_units hX)) hg hm (by decide +kernel) ha (best_list (al.all (x :: xs)) sh) hp
theorem je_minT (hg : glB T.sc "min" = true) (hm : T.mg "min" = none) (ha : JE T e e0 e1 (.b (.tuple (xs.map enc)))) (al : AlkE enc) (hne : xs ≠ []) (sh : shN 64 (.list (xs.map enc)) = true := by simp [shN]) (hp : Plain e [] pos := by exact ⟨fun _ => rfl, fun _ => rfl⟩) : JE T (.Call (.Name "min" p) [e] [] pos) e0 e1 (.d (enc (pyMin enc xs))) := by
  cases xs with
  | nil => exact absurd rfl hne
  | cons x xs =>
    rw [pyMin_enc (enc := enc) x xs]
    exact je_bi1 (r := rBest minD) (fun X hX => cr_minD hX.calm (room_units hX)) hg hm (by decide +kernel) ha (best_tup (al.all (x :: xs)) sh) hp
theorem je_maxT (hg : glB T.sc "max" = true) (hm : T.mg "max" = none) (ha : JE T e e0 e1 (.b (.tuple (xs.map enc)))) (al : AlkE enc) (hne : xs ≠ []) (sh : shN 64 (.list (xs.map enc)) = true := by simp [shN]) (hp : Plain e [] pos := by exact ⟨fun _ => rfl, fun _ => rfl⟩) : JE T (.Call (.Name "max" p) [e] [] pos) e0 e1 (.d (enc (pyMax enc xs))) := by
  cases xs with
  | nil => exact absurd rfl hne
  | cons x xs =>
    rw [pyMax_enc (enc := enc) x xs]
    exact je_bi1 (r := rBest maxD) (fun X hX => cr_maxD hX.calm (room_units hX)) hg hm (by decide +kernel) ha (best_tup (al.all (x :: xs)) sh) hp
omit [Inhabited α] in
theorem rps_pairs {vs : List V} {ds : List PyData} (r : Rps K C vs ds) : ∀ b ∈ vs.zip ds, Rp K C b.1 b.2 := by
  intro b hb
  obtain ⟨i, hi⟩ := List.mem_iff_getElem?.mp hb
  obtain ⟨v, d⟩ := b
  rw [List.getElem?_zip_eq_some] at hi
  obtain ⟨d', h1, h2⟩ := r.get hi.1
  rw [hi.2] at h1; cases h1; exact h2
omit [Inhabited α] in
theorem rps_of_pairs : ∀ {zs : List (V × PyData)}, (∀ b ∈ zs, Rp K C b.1 b.2) → Rps K C (zs.map (·.1)) (zs.map (·.2))
  | [], _ => .nil
  | z :: zs, h => .cons (h z (by simp)) (rps_of_pairs fun b hb => h b (by simp [hb]))
/-- what may be sorted -/
def SrtE {α : Type} (enc : α → PyData) : Prop := (∀ a, ∃ x r, enc a = .tuple (x :: r)) ∨ ∀ a, ∀ xs, enc a ≠ .tuple xs
omit [Inhabited α] in
theorem je_sortL (hg : glB T.sc "sorted" = true) (hm : T.mg "sorted" = none) (ha : JE T e e0 e1 (.b (.list (xs.map enc)))) (al : AlkE enc) (so : SrtE enc) (sh : shN 64 (.list (xs.map enc)) = true := by simp [shN]) (hp : Plain e [] pos := by exact ⟨fun _ => rfl, fun _ => rfl⟩) : JE T (.Call (.Name "sorted" p) [e] [] pos) e0 e1 (.o (.list ((pySort enc xs).map enc))) :=
  je_bi1 (r := rSortD) (fun X hX => cr_sortD (room_units hX)) hg hm (by decide +kernel) ha (fun R C H env σ v Q E hv k => by
    obtain ⟨p, vs, rfl, h1, l1, r1⟩ := rb_lst E hv
    obtain ⟨q1, q2⟩ := shN_all (n := 63) sh
    have aa := al.all xs
    refine ⟨p, vs, xs.map enc, rfl, SqL.of h1, (r1.mono E.cH).dps q1, aa.1, ?_, by omega, fun q hq => ?_⟩
    · rcases so with so | so
      · left; intro d hd
        obtain ⟨a, _, rfl⟩ := List.mem_map.mp hd
        exact so a
      · right; intro d hd
        obtain ⟨a, _, rfl⟩ := List.mem_map.mp hd
        exact ⟨al.2 a, so a⟩
    · have e1 : (vs.zip (xs.map enc)).map (·.2) = xs.map enc := List.map_snd_zip (by rw [r1.len]; exact Nat.le_refl _)
      have key : ((vs.zip (xs.map enc)).mergeSort (dataLe false (·.2))).map (·.2) = (pySort enc xs).map enc := by
        rw [sort_maps (r := dataLe false fun b : V × PyData => b.2) (s := dataLe false fun d => d) (fun b : V × PyData => b.2) (fun _ _ _ _ => rfl), e1]
        unfold pySort
        rw [sort_maps (r := dataLe false enc) (s := dataLe false fun d => d) enc (fun _ _ _ _ => rfl)]
      have rr := rps_of_pairs (zs := (vs.zip (xs.map enc)).mergeSort (dataLe false (·.2))) (K := T.K) (C := C) fun b hb => rps_pairs r1 b (List.mem_mergeSort.mp hb)
      rw [key] at rr
      obtain ⟨E', r⟩ := E.freshO hq (by rw [List.length_map, List.length_mergeSort, List.length_zip]; omega) rr
      exact k _ C _ (Ex.refl C) E' r) hp
end
end J
namespace J
open PySem L2 PySem.Spec PyProof.Rows PySem.W

/-! ### a def by its body -/
def startE (N : List Str) (ds : List PyData) : Env' := ds.map .d ++ List.replicate (N.length - ds.length) .u
def uE (N : List Str) : Env' := List.replicate N.length .u
/-- a named value -/
def Let {α : Type} {ρ : Sort _} (a : α) (k : α → ρ) : ρ := k a
section
variable {P : Program} {w : World} {K : PySem.W.Frag} {mg : Str → Option Value} {base : Heap}
abbrev tc (P : Program) (w : World) (K : PySem.W.Frag) (mg : Str → Option Value) (base : Heap) (N : List Str) (st : Stmt) (k : Nat) : TC := ⟨P, w, K, mg, base, N, defScope st, fun _ => true, k⟩
theorem ct_def {N : List Str} {qual : Str} {st : Stmt} {f : Addr} {cdv : Value} {A : Around} {outer : List Env} {s : Shared} {H : Hp} {E : XK} {k : Nat} (hd : (A.deeper (envOfC qual (defScope st) s.heap.objs.size f cdv)).handled = none) (hr : Room k (A.deeper (envOfC qual (defScope st) s.heap.objs.size f cdv))) :
    CT (cxOf CX0 P w K mg base N qual (defScope st) f cdv A outer s H E).nox (tc P w K mg base N st k) := ⟨rfl, rfl, rfl, rfl, rfl, rfl, rfl, rfl, hr, fun _ _ => rfl, rfl⟩
/-- all that is not in C -/
def frameOf (C H : Hp) : Hp := fun p => match C p with
  | none => H p
  | some _ => none
theorem frameOf_some {C H : Hp} {p : Addr} {o : HO} (h : frameOf C H p = some o) : C p = none ∧ H p = some o := by
  unfold frameOf at h
  cases q : C p with
  | none => rw [q] at h; exact ⟨rfl, h⟩
  | some u => rw [q] at h; cases h
theorem frameOf_of {C H : Hp} {p : Addr} {o : HO} (h : H p = some o) (c : C p = none) : frameOf C H p = some o := by
  unfold frameOf; rw [c]; exact h
theorem start_get {N : List Str} {vs : List V} {i : Nat} {v : V} (h : vs[i]? = some v) : (start N vs)[i]? = some (some v) := by
  unfold L2.start
  have hi := (List.getElem?_eq_some_iff.mp h).1
  rw [List.getElem?_append_left (by simpa using hi), List.getElem?_map, h]; rfl
theorem envC_start {N : List Str} {vs : List V} {ds : List PyData} {C H : Hp} (hl : vs.length ≤ N.length) (r : Rps K C vs ds) (e : Ex C H) : EnvC K (frameOf C H) C (startE N ds) (start N vs) H := by
  have hds := r.len
  have key : ∀ (i : Nat) (s : Sl), (startE N ds)[i]? = some s → s = .u ∨ ∃ d, s = .d d ∧ ds[i]? = some d := fun i s h => by
    unfold startE at h
    by_cases hi : i < ds.length
    · rw [List.getElem?_append_left (by simpa using hi), List.getElem?_map, List.getElem?_eq_getElem hi] at h
      cases h
      exact .inr ⟨_, rfl, List.getElem?_eq_getElem hi⟩
    · rw [List.getElem?_append_right (by simpa using hi), List.getElem?_replicate] at h
      split at h
      · cases h; exact .inl rfl
      · cases h
  refine ⟨?_, e, fun p o h => (frameOf_some h).2, fun p h => ?_, fun i x h => ?_, fun i q x h => ?_, fun i j q q' x y p h => ?_⟩
  · unfold startE L2.start; simp; omega
  · cases q : frameOf C H p with
    | none => exact absurd q h
    | some o => exact (frameOf_some q).1
  · rcases key i _ h with z | ⟨d, z, hd⟩
    · cases z
    · cases z
      obtain ⟨v, hv, rv⟩ := r.getD hd
      exact ⟨v, start_get hv, rv⟩
  · rcases key i _ h with z | ⟨d, z, hd⟩ <;> cases z
  · rcases key i _ h with z | ⟨d, z, hd⟩ <;> cases z
theorem rps_lens {K : PySem.W.Frag} {C : Hp} : ∀ {ds : List PyData} {vs : List V}, Rps K C vs ds → ∀ d ∈ ds, lenOk d
  | [], _, _ => fun d h => by cases h
  | d :: ds, _, .cons h r => fun e he => by
    rcases List.mem_cons.mp he with he | he
    · rw [he]; exact h.lenOk
    · exact rps_lens r e he
theorem fn_ok {A ρ : Type} {x qual : Str} {st : Stmt} {f : Addr} {fd : FuncData} {N ps : List Str} {k : Nat} (F : Fun K x qual st f fd) (S : FnScope N ps (defScope st)) {pre : A → Prop} {args : A → List PyData} (cr : ρ → PyData) (fr : A → ρ) (hlen : ∀ a, (args a).length = ps.length) (hN : ps.length ≤ N.length)
    (hbody : ∀ a, pre a → (∀ d ∈ args a, lenOk d) → JB (tc P w K mg base N st k) cr (fun _ => uE N) (defBody st) (startE N (args a)) (fr a)) : FnOk P w K mg base CX0 (k + 1) f fd ps (SpD K pre args (fun a => cr (fr a))) := by
  refine F.ok S (fun vs H Q E h => ?_) (fun cdv A' outer s H vs Q E hr h => ?_)
  · obtain ⟨a, C, _, _, r, _⟩ := h
    rw [r.len]; exact hlen a
  · obtain ⟨a, C, hp, e, r, kk⟩ := h
    refine ⟨_, hbody a hp (rps_lens r) _ (ct_def hr.hd hr), frameOf C H, C, envC_start (by rw [r.len, hlen a]; exact hN) r e, ?_⟩
    exact fun v σ' C' H' c E' r' => kk v C' H' c E'.cH (fun p o h1 h2 => ⟨E'.rH _ _ (frameOf_of h1 h2), E'.rc p (by rw [frameOf_of h1 h2]; simp)⟩) r'
/-- a def that hands back a new object -/
theorem fn_okF {A : Type} {x qual : Str} {st : Stmt} {f : Addr} {fd : FuncData} {N ps : List Str} {k : Nat} (F : Fun K x qual st f fd) (S : FnScope N ps (defScope st)) {pre : A → Prop} {args : A → List PyData} {res : A → PyData} (hlen : ∀ a, (args a).length = ps.length) (hN : ps.length ≤ N.length)
    (hbody : ∀ a, pre a → (∀ d ∈ args a, lenOk d) → ∃ e, JSs (tc P w K mg base N st k) (defBody st) (startE N (args a)) (.rt (.o (res a)) e)) : FnOk P w K mg base CX0 (k + 1) f fd ps (SpF K pre args res) := by
  refine F.ok S (fun vs H Q E h => ?_) (fun cdv A' outer s H vs Q E hr h => ?_)
  · obtain ⟨a, C, _, _, r, _⟩ := h
    rw [r.len]; exact hlen a
  · obtain ⟨a, C, hp, e, r, kk⟩ := h
    obtain ⟨er, hb⟩ := hbody a hp (rps_lens r)
    refine ⟨_, hb _ (ct_def hr.hd hr), frameOf C H, C, envC_start (by rw [r.len, hlen a]; exact hN) r e, ?_⟩
    rintro v σ' C' H' c E' ⟨p, rfl, cp, rp, no, ow⟩
    refine kk p C' H' c E'.cH (fun p o h1 h2 => ⟨E'.rH _ _ (frameOf_of h1 h2), E'.rc p (by rw [frameOf_of h1 h2]; simp)⟩) ?_ cp ow
    cases q : H p with
    | none => rfl
    | some o =>
      cases q2 : C p with
      | none => rw [frameOf_of q q2] at rp; cases rp
      | some u => rw [c p u q2] at cp; cases cp
/-- a def whose first argument is an object that it changes -/
def startO (N : List Str) (p : Addr) (d : PyData) (ds : List PyData) : Env' := .o (some p) d :: (ds.map .d ++ List.replicate (N.length - 1 - ds.length) .u)
def endO (N : List Str) (p : Addr) (d : PyData) : Env' := .o (some p) d :: List.replicate (N.length - 1) .u
theorem fn_okO {A ρ : Type} {x qual : Str} {st : Stmt} {f : Addr} {fd : FuncData} {N ps : List Str} {k : Nat} (F : Fun K x qual st f fd) (S : FnScope N ps (defScope st)) {pre : A → Prop} {d0 : A → PyData} {args : A → List PyData} (cr : ρ → PyData) (d1 : ρ → PyData) (fr : A → ρ) (hlen : ∀ a, (args a).length + 1 = ps.length) (hN : ps.length ≤ N.length)
    (hbody : ∀ a (p : Addr), pre a → (∀ d ∈ args a, lenOk d) → JB (tc P w K mg base N st k) cr (fun r => endO N p (d1 r)) (defBody st) (startO N p (d0 a) (args a)) (fr a)) : FnOk P w K mg base CX0 (k + 1) f fd ps (SpO K pre d0 (fun a => d1 (fr a)) args (fun a => cr (fr a))) := by
  refine F.ok S (fun vs H Q E h => ?_) (fun cdv A' outer s H vs Q E hr h => ?_)
  · obtain ⟨a, C, p, vs', rfl, _, _, _, _, r, _⟩ := h
    rw [List.length_cons, r.len]; exact hlen a
  · obtain ⟨a, C, p, vs', rfl, hp, e, cp, ow, r, kk⟩ := h
    have hl := hlen a
    have hr' := r.len
    let R : Hp := fun q => if q = p then none else frameOf C H q
    have rS : ∀ {q : Addr} {o : HO}, R q = some o → q ≠ p ∧ C q = none ∧ H q = some o := fun {q o} h => by
      by_cases hq : q = p
      · simp only [R, hq, if_true] at h; cases h
      · simp only [R, if_neg hq] at h
        exact ⟨hq, frameOf_some h⟩
    have rO : ∀ {q : Addr} {o : HO}, q ≠ p → H q = some o → C q = none → R q = some o := fun {q o} h1 h2 h3 => by
      simp only [R, if_neg h1]; exact frameOf_of h2 h3
    have key : ∀ (i : Nat) (s : Sl), (startO N p (d0 a) (args a))[i]? = some s → s = .u ∨ (i = 0 ∧ s = .o (some p) (d0 a)) ∨ ∃ j d, i = j + 1 ∧ s = .d d ∧ (args a)[j]? = some d := fun i s h => by
      cases i with
      | zero => exact .inr (.inl ⟨rfl, by simpa [startO] using h.symm⟩)
      | succ j =>
        simp only [startO, List.getElem?_cons_succ] at h
        by_cases hi : j < (args a).length
        · rw [List.getElem?_append_left (by simpa using hi), List.getElem?_map, List.getElem?_eq_getElem hi] at h
          cases h
          exact .inr (.inr ⟨j, _, rfl, rfl, List.getElem?_eq_getElem hi⟩)
        · rw [List.getElem?_append_right (by simpa using hi), List.getElem?_replicate] at h
          split at h
          · cases h; exact .inl rfl
          · cases h
    have E0 : EnvC K R C (startO N p (d0 a) (args a)) (start N (.ref p :: vs')) H := by
      refine ⟨?_, e, fun q o h => (rS h).2.2, fun q h => ?_, fun i x h => ?_, fun i q x h => ?_, fun i j q q' x y t h1 h2 s1 s2 => ?_⟩
      · unfold startO L2.start; simp; omega
      · cases q' : R q with
        | none => exact absurd q' h
        | some o => exact (rS q').2.1
      · rcases key i _ h with z | ⟨_, z⟩ | ⟨j, d, rfl, z, hd⟩
        · cases z
        · cases z
        · cases z
          obtain ⟨v, hv, rv⟩ := r.getD hd
          exact ⟨v, start_get (by simpa using hv), rv⟩
      · rcases key i _ h with z | ⟨hi, z⟩ | ⟨j, d, rfl, z, hd⟩
        · cases z
        · cases z; subst hi
          exact ⟨p, start_get rfl, fun p' hp' => by cases hp'; rfl, cp, by simp [R], ow⟩
        · cases z
      · rcases key i _ h1 with z | ⟨hi, z⟩ | ⟨_, d, _, z, _⟩
        · cases z
        · rcases key j _ h2 with z | ⟨hj, z⟩ | ⟨_, d, _, z, _⟩
          · cases z
          · rw [hi, hj]
          · cases z
        · cases z
    refine ⟨_, hbody a p hp (rps_lens r) _ (ct_def hr.hd hr), R, C, E0, ?_⟩
    intro v σ' C' H' c E' r'
    obtain ⟨p', _, hq, cp', _, ow'⟩ := E'.own 0 (some p) _ rfl
    have := hq p rfl
    subst this
    exact kk v C' H' c E'.cH (fun q o h0 h1 h2 => ⟨E'.rH _ _ (rO h0 h1 h2), E'.rc q (by rw [rO h0 h1 h2]; simp)⟩) cp' ow' r'
end

/-! ### blocks that go on, by what they carry -/
section
variable {T : TC} {a b e : Expr} {es : List Expr} {env e0 e1 e2 e3 : Env'} {pos p : Pos} {x y z : PyData} {ds : List PyData} {st : Stmt} {rest body A B : List Stmt} {oc : Oc}
def JN (T : TC) {L : Type} (E : L → Env') (sts : List Stmt) (env : Env') (l : L) : Prop := ∃ e', JSs T sts env (.nx e') ∧ Le (E l) e'
section
variable {L : Type} {E : L → Env'}
theorem jn_nil {l : L} (h : Le (E l) env) : JN T E [] env l := ⟨_, jss_nil, h⟩
theorem jn_cons {l : L} (h : JS T st e0 (.nx e1)) (h' : JN T E rest e1 l) : JN T E (st :: rest) e0 l := by
  obtain ⟨e', h1, h2⟩ := h'
  exact ⟨e', jss_cons h h1, h2⟩
theorem jn_let {α : Type} {F : α → Env'} {v : α} {k : α → L} (h : ∀ x, x = v → JN T E rest (F x) (k x)) : JN T E rest (F v) (Let v k) := h v rfl
theorem jn_le {l : L} (h : Le e0 env) (h' : JN T E rest e0 l) : JN T E rest env l := by
  obtain ⟨e', h1, h2⟩ := h'
  exact ⟨e', js_le h h1, h2⟩
theorem jn_frz {l : L} {i : Nat} {k0 : Option Addr} (he : env[i]? = some (.o k0 x)) (h : JN T E rest (env.set i (.d x)) l) : JN T E rest env l := by
  obtain ⟨e', h1, h2⟩ := h
  exact ⟨e', jss_frz he h1, h2⟩
theorem jn_len {l : L} {i : Nat} (he : env[i]? = some (.d x)) (h : lenOk x → JN T E rest env l) : JN T E rest env l := by
  by_cases q : lenOk x
  · exact h q
  · exact ⟨E l, jss_len he fun h => absurd h q, Le.refl _⟩
/-- an if whose ways meet -/
theorem js_ifN {c : Bool} {l l' : L} (ht : JT T e e0 e1 c) (ha : c = true → JN T E A e1 l) (hb : c = false → JN T E B e1 l') : JS T (.If e A B pos) e0 (.nx (E (if c = true then l else l'))) := js_ifn E ht ha hb
theorem js_forN {α : Type} {enc : α → PyData} {tg iter : Expr} {xs : List α} (E : L → Env') (step : L → α → L) (l0 : L) (hi : JI T tg iter e0 e1 (xs.map enc)) (h0 : Le (E l0) e1)
    (turn : ∀ i x l, xs[i]? = some x → l = (xs.take i).foldl step l0 → ∃ js E1, JG T tg js (enc x) (E l) E1 ∧ JN T E body E1 (step l x))
    (hs : ∀ (v : Env) x, foldedSetIterable iter v x = pure x := by intro _ _; rfl) : JS T (.For tg iter body [] pos) e0 (.nx (E (xs.foldl step l0))) := js_for E step l0 hi h0 (fun i x l hx hl => by
  obtain ⟨js, E1, h1, e', h2, h3⟩ := turn i x l hx hl
  exact ⟨js, E1, _, h1, h2, LoopGo.nx h3⟩) hs
theorem js_whileN {test : Expr} (E : L → Env') (c : L → Bool) (step : L → L) (n : Nat) (l0 : L) (h0 : Le (E l0) env) (ends : whileEnds (ρ := PyData) c (fun l => .inl (step l)) n l0)
    (ht : ∀ l, Reach (ρ := PyData) c (fun l => .inl (step l)) l0 l → JT T test (E l) (E l) (c l))
    (turn : ∀ l, Reach (ρ := PyData) c (fun l => .inl (step l)) l0 l → c l = true → JN T E body (E l) (step l)) : JS T (.While test body [] pos) env (.nx (E (whileL c step n l0))) := js_while E c step n l0 h0 ends ht fun l hr hc => by
  obtain ⟨e', h2, h3⟩ := turn l hr hc
  exact ⟨_, h2, .inl ⟨_, rfl, _, rfl, h3⟩⟩
end
section
variable {ρ : Type} {cr : ρ → PyData} {er : ρ → Env'}
theorem jb_let {α : Type} {F : α → Env'} {v : α} {k : α → ρ} (h : ∀ x, x = v → JB T cr er rest (F x) (k x)) : JB T cr er rest (F v) (Let v k) := h v rfl
theorem jb_frz {r : ρ} {i : Nat} {k0 : Option Addr} (he : env[i]? = some (.o k0 x)) (h : JB T cr er rest (env.set i (.d x)) r) : JB T cr er rest env r := jss_frz he h
theorem jb_len {r : ρ} {i : Nat} (he : env[i]? = some (.d x)) (h : lenOk x → JB T cr er rest env r) : JB T cr er rest env r := jss_len he h
variable {L : Type} {E : L → Env'}
theorem jm_let {α : Type} {F : α → Env'} {v : α} {k : α → L ⊕ ρ} (h : ∀ x, x = v → JM T E cr er rest (F x) (k x)) : JM T E cr er rest (F v) (Let v k) := h v rfl
theorem jm_frz {o : L ⊕ ρ} {i : Nat} {k0 : Option Addr} (he : env[i]? = some (.o k0 x)) (h : JM T E cr er rest (env.set i (.d x)) o) : JM T E cr er rest env o := by
  obtain ⟨oc, h1, h2⟩ := h
  exact ⟨oc, jss_frz he h1, h2⟩
theorem jm_len {o : L ⊕ ρ} {i : Nat} (he : env[i]? = some (.d x)) (h : lenOk x → JM T E cr er rest env o) : JM T E cr er rest env o := by
  by_cases q : lenOk x
  · exact h q
  · cases o with
    | inl l => exact ⟨.nx (E l), jss_len he fun h => absurd h q, .inl ⟨l, rfl, _, rfl, Le.refl _⟩⟩
    | inr r => exact ⟨.rt (.d (cr r)) (er r), jss_len he fun h => absurd h q, .inr ⟨r, rfl, rfl⟩⟩
theorem js_forM {α : Type} {enc : α → PyData} {tg iter : Expr} {xs : List α} (E : L → Env') (step : L → α → L ⊕ ρ) (l0 : L) (hi : JI T tg iter e0 e1 (xs.map enc)) (h0 : Le (E l0) e1)
    (turn : ∀ i x l, xs[i]? = some x → forR step l0 (xs.take i) = .inl l → ∃ js E1, JG T tg js (enc x) (E l) E1 ∧ JM T E cr er body E1 (step l x))
    (hs : ∀ (v : Env) x, foldedSetIterable iter v x = pure x := by intro _ _; rfl) : JS T (.For tg iter body [] pos) e0 (ocR E cr er (forR step l0 xs)) := js_forR cr er E step l0 hi h0 (fun i x l hx hl => by
  obtain ⟨js, E1, h1, oc, h2, h3⟩ := turn i x l hx hl
  refine ⟨js, E1, oc, h1, h2, ?_⟩
  rcases h3 with ⟨l', h4, e', h5, h6⟩ | h3
  · subst h5; exact .inl ⟨l', h4, LoopGo.nx h6⟩
  · exact .inr h3) hs
end
theorem le_nil : Le [] [] := Le.refl _
theorem le_r {s : Sl} {a b : Env'} (h : Le a b) : Le (s :: a) (s :: b) := ⟨by simp [h.1], fun i t e => by
  cases i with
  | zero => exact .inr e
  | succ i => exact h.2 i t (by simpa using e)⟩
theorem le_u {s : Sl} {a b : Env'} (h : Le a b) : Le (.u :: a) (s :: b) := ⟨by simp [h.1], fun i t e => by
  cases i with
  | zero => simp at e; exact .inl e.symm
  | succ i => exact h.2 i t (by simpa using e)⟩
theorem js_frz {i : Nat} {k0 : Option Addr} (h : JS T st e0 (.nx e1)) (he : e1[i]? = some (.o k0 x)) : JS T st e0 (.nx (e1.set i (.d x))) := fun X hX => (h X hX).wk fun D σ H ⟨R, C, E, k⟩ => ⟨R, C, E, fun σ' C' H' c E' => by
  obtain ⟨C2, c2, E2⟩ := E'.frz he
  exact k σ' C2 H' (c.trans c2) E2⟩
end
end J
namespace J
open PySem L2 PySem.Spec PyProof.Rows PySem.W

/-! ### the kinds of data -/
@[reducible] def eN : Unit → PyData := fun _ => .none
@[reducible] def eL {α : Type} (f : α → PyData) : List α → PyData := fun xs => .list (xs.map f)
@[reducible] def eT {α : Type} (f : α → PyData) : List α → PyData := fun xs => .tuple (xs.map f)
@[reducible] def eP1 {α : Type} (f : α → PyData) : α → PyData := fun a => .tuple [f a]
@[reducible] def eP2 {α β : Type} (f : α → PyData) (g : β → PyData) : α × β → PyData := fun p => .tuple [f p.1, g p.2]
@[reducible] def eP3 {α β γ : Type} (f : α → PyData) (g : β → PyData) (h : γ → PyData) : α × β × γ → PyData := fun p => .tuple [f p.1, g p.2.1, h p.2.2]
@[reducible] def eP4 {α β γ δ : Type} (f : α → PyData) (g : β → PyData) (h : γ → PyData) (i : δ → PyData) : α × β × γ × δ → PyData := fun p => .tuple [f p.1, g p.2.1, h p.2.2.1, i p.2.2.2]
@[reducible] def eP5 {α β γ δ ε : Type} (f : α → PyData) (g : β → PyData) (h : γ → PyData) (i : δ → PyData) (j : ε → PyData) : α × β × γ × δ × ε → PyData := fun p => .tuple [f p.1, g p.2.1, h p.2.2.1, i p.2.2.2.1, j p.2.2.2.2]
@[reducible] def eP6 {α β γ δ ε ζ : Type} (f : α → PyData) (g : β → PyData) (h : γ → PyData) (i : δ → PyData) (j : ε → PyData) (k : ζ → PyData) : α × β × γ × δ × ε × ζ → PyData := fun p => .tuple [f p.1, g p.2.1, h p.2.2.1, i p.2.2.2.1, j p.2.2.2.2.1, k p.2.2.2.2.2]
@[reducible] def eO {α : Type} (f : α → PyData) : Option α → PyData := fun o => match o with
  | none => .none
  | some a => f a
section
variable {α β γ δ ε ζ : Type} {f : α → PyData} {g : β → PyData} {h : γ → PyData} {i : δ → PyData} {j : ε → PyData} {k : ζ → PyData} {n : Nat}
/-- no dict, not deep -/
def ShE (n : Nat) {α : Type} (f : α → PyData) : Prop := ∀ a, shN n (f a) = true
theorem sh_int : ShE n PyData.int := fun a => by cases n <;> rfl
theorem sh_bool : ShE n PyData.bool := fun a => by cases n <;> rfl
theorem sh_str : ShE n PyData.str := fun a => by cases n <;> rfl
theorem sh_n : ShE n eN := fun a => by cases n <;> rfl
theorem sh_l (F : ShE n f) : ShE (n + 1) (eL f) := fun xs => by
  show (xs.map f).all (shN n) = true
  rw [List.all_map, List.all_eq_true]
  exact fun x _ => F x
theorem sh_t (F : ShE n f) : ShE (n + 1) (eT f) := fun xs => by
  show (xs.map f).all (shN n) = true
  rw [List.all_map, List.all_eq_true]
  exact fun x _ => F x
theorem sh_o (F : ShE n f) : ShE n (eO f) := fun o => by
  cases o with
  | none => cases n <;> rfl
  | some a => exact F a
theorem sh_p1 (F : ShE n f) : ShE (n + 1) (eP1 f) := fun p => by simp [shN, F p]
theorem sh_p2 (F : ShE n f) (G : ShE n g) : ShE (n + 1) (eP2 f g) := fun p => by simp [shN, F p.1, G p.2]
theorem sh_p3 (F : ShE n f) (G : ShE n g) (H : ShE n h) : ShE (n + 1) (eP3 f g h) := fun p => by simp [shN, F p.1, G p.2.1, H p.2.2]
theorem sh_p4 (F : ShE n f) (G : ShE n g) (H : ShE n h) (I : ShE n i) : ShE (n + 1) (eP4 f g h i) := fun p => by simp [shN, F p.1, G p.2.1, H p.2.2.1, I p.2.2.2]
theorem sh_p5 (F : ShE n f) (G : ShE n g) (H : ShE n h) (I : ShE n i) (J : ShE n j) : ShE (n + 1) (eP5 f g h i j) := fun p => by simp [shN, F p.1, G p.2.1, H p.2.2.1, I p.2.2.2.1, J p.2.2.2.2]
theorem sh_p6 (F : ShE n f) (G : ShE n g) (H : ShE n h) (I : ShE n i) (J : ShE n j) (K : ShE n k) : ShE (n + 1) (eP6 f g h i j k) := fun p => by simp [shN, F p.1, G p.2.1, H p.2.2.1, I p.2.2.2.1, J p.2.2.2.2.1, K p.2.2.2.2.2]
/-- == says whether the things are the same -/
def EqE {α : Type} [DecidableEq α] (f : α → PyData) : Prop := ∀ a b, PyData.eqv (f a) (f b) = decide (a = b)
theorem eqe_int : EqE PyData.int := fun a b => by simp only [PyData.eqv]; exact Bool.beq_eq_decide_eq a b
theorem eqe_bool : EqE PyData.bool := fun a b => by simp only [PyData.eqv]; exact Bool.beq_eq_decide_eq a b
theorem eqe_str : EqE PyData.str := fun a b => by simp only [PyData.eqv]; exact Bool.beq_eq_decide_eq a b
theorem eqe_n : EqE eN := fun a b => rfl
variable [DecidableEq α] [DecidableEq β] [DecidableEq γ] [DecidableEq δ] [DecidableEq ε] [DecidableEq ζ]
theorem eqvAll_map (F : EqE f) : ∀ xs ys : List α, PyData.eqvAll (xs.map f) (ys.map f) = decide (xs = ys)
  | [], [] => by simp [PyData.eqvAll]
  | [], _ :: _ => by simp [PyData.eqvAll]
  | _ :: _, [] => by simp [PyData.eqvAll]
  | x :: xs, y :: ys => by
    rw [List.map_cons, List.map_cons, PyData.eqvAll, F x y, eqvAll_map F xs ys, Bool.eq_iff_iff]
    simp
theorem eqe_l (F : EqE f) : EqE (eL f) := fun xs ys => by simp only [PyData.eqv]; exact eqvAll_map F xs ys
theorem eqe_t (F : EqE f) : EqE (eT f) := fun xs ys => by simp only [PyData.eqv]; exact eqvAll_map F xs ys
theorem eqe_p1 (F : EqE f) : EqE (eP1 f) := fun p q => by
  rw [Bool.eq_iff_iff]; simp [PyData.eqv, PyData.eqvAll, F _ _]
theorem eqe_p2 (F : EqE f) (G : EqE g) : EqE (eP2 f g) := fun p q => by
  rw [Bool.eq_iff_iff]; simp [PyData.eqv, PyData.eqvAll, F _ _, G _ _, Prod.ext_iff]
theorem eqe_p3 (F : EqE f) (G : EqE g) (H : EqE h) : EqE (eP3 f g h) := fun p q => by
  rw [Bool.eq_iff_iff]; simp [PyData.eqv, PyData.eqvAll, F _ _, G _ _, H _ _, Prod.ext_iff]
theorem eqe_p4 (F : EqE f) (G : EqE g) (H : EqE h) (I : EqE i) : EqE (eP4 f g h i) := fun p q => by
  rw [Bool.eq_iff_iff]; simp [PyData.eqv, PyData.eqvAll, F _ _, G _ _, H _ _, I _ _, Prod.ext_iff]
theorem eqe_p5 (F : EqE f) (G : EqE g) (H : EqE h) (I : EqE i) (J : EqE j) : EqE (eP5 f g h i j) := fun p q => by
  rw [Bool.eq_iff_iff]; simp [PyData.eqv, PyData.eqvAll, F _ _, G _ _, H _ _, I _ _, J _ _, Prod.ext_iff]
theorem eqe_p6 (F : EqE f) (G : EqE g) (H : EqE h) (I : EqE i) (J : EqE j) (K : EqE k) : EqE (eP6 f g h i j k) := fun p q => by
  rw [Bool.eq_iff_iff]; simp [PyData.eqv, PyData.eqvAll, F _ _, G _ _, H _ _, I _ _, J _ _, K _ _, Prod.ext_iff]
/-- .. where None is a thing of its own -/
theorem eqe_o (F : EqE f) (hn : ∀ a, PyData.eqv .none (f a) = false ∧ PyData.eqv (f a) .none = false) : EqE (eO f) := fun p q => by
  cases p with
  | none => cases q with
    | none => rfl
    | some b => simpa using (hn b).1
  | some a => cases q with
    | none => simpa using (hn a).2
    | some b => simpa using F a b
omit [DecidableEq α] [DecidableEq β] [DecidableEq γ] [DecidableEq δ] [DecidableEq ε] [DecidableEq ζ]
/-- comparable with one another -/
theorem alk_int : AlkE PyData.int := ⟨fun a b => rfl, fun a => by simp⟩
theorem alk_bool : AlkE PyData.bool := ⟨fun a b => rfl, fun a => by simp⟩
theorem alk_str : AlkE PyData.str := ⟨fun a b => rfl, fun a => by simp⟩
theorem alk_all (F : AlkE f) : ∀ xs ys : List α, alikeAll (xs.map f) (ys.map f) = true
  | [], [] => rfl
  | [], _ :: _ => rfl
  | _ :: _, [] => rfl
  | x :: xs, y :: ys => by
    rw [List.map_cons, List.map_cons, alikeAll, F.1 x y, alk_all F xs ys]; rfl
theorem alk_l (F : AlkE f) : AlkE (eL f) := ⟨fun xs ys => by rw [alike]; exact alk_all F xs ys, fun a => by simp⟩
theorem alk_t (F : AlkE f) : AlkE (eT f) := ⟨fun xs ys => by rw [alike]; exact alk_all F xs ys, fun a => by simp⟩
theorem alk_p1 (F : AlkE f) : AlkE (eP1 f) := ⟨fun p q => by simp [alike, alikeAll, F.1], fun a => by simp⟩
theorem alk_p2 (F : AlkE f) (G : AlkE g) : AlkE (eP2 f g) := ⟨fun p q => by simp [alike, alikeAll, F.1, G.1], fun a => by simp⟩
theorem alk_p3 (F : AlkE f) (G : AlkE g) (H : AlkE h) : AlkE (eP3 f g h) := ⟨fun p q => by simp [alike, alikeAll, F.1, G.1, H.1], fun a => by simp⟩
theorem alk_p4 (F : AlkE f) (G : AlkE g) (H : AlkE h) (I : AlkE i) : AlkE (eP4 f g h i) := ⟨fun p q => by simp [alike, alikeAll, F.1, G.1, H.1, I.1], fun a => by simp⟩
theorem alk_p5 (F : AlkE f) (G : AlkE g) (H : AlkE h) (I : AlkE i) (J : AlkE j) : AlkE (eP5 f g h i j) := ⟨fun p q => by simp [alike, alikeAll, F.1, G.1, H.1, I.1, J.1], fun a => by simp⟩
theorem srt_p1 : SrtE (eP1 f) := .inl fun p => ⟨_, _, rfl⟩
theorem srt_p2 : SrtE (eP2 f g) := .inl fun p => ⟨_, _, rfl⟩
theorem srt_p3 : SrtE (eP3 f g h) := .inl fun p => ⟨_, _, rfl⟩
theorem srt_p4 : SrtE (eP4 f g h i) := .inl fun p => ⟨_, _, rfl⟩
theorem srt_int : SrtE PyData.int := .inr fun p xs => by simp
theorem srt_str : SrtE PyData.str := .inr fun p xs => by simp
theorem srt_l : SrtE (eL f) := .inr fun p xs => by simp
/-- flat things -/
def FlE {α : Type} (f : α → PyData) : Prop := ∀ a, flatD (f a) = true
theorem fl_int : FlE PyData.int := fun _ => rfl
theorem fl_bool : FlE PyData.bool := fun _ => rfl
theorem fl_str : FlE PyData.str := fun _ => rfl
theorem fl_o (F : FlE f) : FlE (eO f) := fun o => by
  cases o with
  | none => rfl
  | some a => exact F a
end

/-! ### the rules, for data of a kind -/
/-- the item at a place, as Python counts -/
def gI {α : Type} [Inhabited α] (xs : List α) (i : Int) : α := (atI xs i).getD default
def inR (n : Nat) (i : Int) : Prop := -(n : Int) ≤ i ∧ i < n
theorem atI_inR {α : Type} {xs : List α} {i : Int} (h : inR xs.length i) : ∃ x, atI xs i = some x := by
  unfold atI ixN
  obtain ⟨h1, h2⟩ := h
  by_cases h0 : 0 ≤ i
  · rw [if_pos h0, if_pos (by omega)]
    exact ⟨_, List.getElem?_eq_getElem (show i.toNat < xs.length by omega)⟩
  · rw [if_neg h0, if_pos h1]
    exact ⟨_, List.getElem?_eq_getElem (show (i + xs.length).toNat < xs.length by omega)⟩
theorem atI_map {α β : Type} (f : α → β) (xs : List α) (i : Int) : atI (xs.map f) i = (atI xs i).map f := by
  unfold atI
  rw [List.length_map]
  cases ixN xs.length i with
  | none => rfl
  | some j => simp
theorem gI_at {α : Type} [Inhabited α] {f : α → PyData} {xs : List α} {i : Int} (h : inR xs.length i) : atI (xs.map f) i = some (f (gI xs i)) := by
  obtain ⟨x, hx⟩ := atI_inR h
  rw [atI_map, hx]
  unfold gI
  rw [hx]; rfl
/-- a list with the item at a place set -/
def setI {α : Type} (xs : List α) (i : Int) (x : α) : List α := match ixN xs.length i with
  | some m => xs.set m x
  | none => xs
theorem setI_ix {α : Type} {xs : List α} {i : Int} (h : inR xs.length i) : ∃ m, ixN xs.length i = some m := by
  unfold ixN
  obtain ⟨h1, h2⟩ := h
  by_cases h0 : 0 ≤ i
  · rw [if_pos h0, if_pos (by omega)]; exact ⟨_, rfl⟩
  · rw [if_neg h0, if_pos h1]; exact ⟨_, rfl⟩
/-- the sign at a place -/
def gS (s : Str) (i : Int) : Str := ⟨#[gI s.cps.toList i]⟩
/-- (0, x0), (1, x1), .. -/
def enumL {α : Type} (xs : List α) : List (Int × α) := xs.zipIdx.map fun q => ((q.2 : Int), q.1)
theorem zipIdx_map' {α β : Type} (f : α → β) : ∀ (xs : List α) (n : Nat), (xs.map f).zipIdx n = (xs.zipIdx n).map fun q => (f q.1, q.2)
  | [], _ => rfl
  | x :: xs, n => by simp only [List.map_cons, List.zipIdx_cons, zipIdx_map' f xs (n + 1)]
theorem enumD_map {α : Type} (f : α → PyData) (xs : List α) : enumD (xs.map f) = (enumL xs).map (eP2 PyData.int f) := by
  unfold enumD enumL
  rw [zipIdx_map', List.map_map, List.map_map]; rfl
theorem zipD_map {α β : Type} (f : α → PyData) (g : β → PyData) (xs : List α) (ys : List β) : zipD (xs.map f) (ys.map g) = (xs.zip ys).map (eP2 f g) := by
  unfold zipD
  rw [List.zip_map, List.map_map]; rfl
section
variable {T : TC} {a b e : Expr} {es : List Expr} {env e0 e1 e2 e3 : Env'} {pos p : Pos} {kk : Nat} {tpos : Pos} {elts : List Expr} {α β : Type} {enc : α → PyData} {dec : β → PyData} {xs ys : List α} {zs : List β}
theorem je_lenL' (hg : glB T.sc "len" = true) (hm : T.mg "len" = none) (ha : JE T e e0 e1 (.b (.list (xs.map enc)))) (hp : Plain e [] pos := by exact ⟨fun _ => rfl, fun _ => rfl⟩) : JE T (.Call (.Name "len" p) [e] [] pos) e0 e1 (.d (.int xs.length)) := by
  have := je_lenL (pos := pos) (p := p) hg hm ha hp
  rw [List.length_map] at this; exact this
theorem je_lenT' (hg : glB T.sc "len" = true) (hm : T.mg "len" = none) (ha : JE T e e0 e1 (.b (.tuple (xs.map enc)))) (hp : Plain e [] pos := by exact ⟨fun _ => rfl, fun _ => rfl⟩) : JE T (.Call (.Name "len" p) [e] [] pos) e0 e1 (.d (.int xs.length)) := by
  have := je_lenT (pos := pos) (p := p) hg hm ha hp
  rw [List.length_map] at this; exact this
theorem je_ixL' [Inhabited α] {i : Int} (h : JE2 T a b e0 e2 (.list (xs.map enc)) (.int i)) (hr : inR xs.length i) (hs : PlainIx b := by intro _ _; rfl) : JE T (.Subscript a b pos) e0 e2 (.d (enc (gI xs i))) := je_ixL h (gI_at hr) hs
theorem je_ixT' [Inhabited α] {i : Int} (h : JE2 T a b e0 e2 (.tuple (xs.map enc)) (.int i)) (hr : inR xs.length i) (hs : PlainIx b := by intro _ _; rfl) : JE T (.Subscript a b pos) e0 e2 (.d (enc (gI xs i))) := je_ixT h (gI_at hr) hs
theorem je_ixS' {s : Str} {i : Int} (h : JE2 T a b e0 e2 (.str s) (.int i)) (hr : inR s.length i) (hs : PlainIx b := by intro _ _; rfl) : JE T (.Subscript a b pos) e0 e2 (.d (.str (gS s i))) := by
  have hr' : inR s.cps.toList.length i := by simpa [Str.length] using hr
  obtain ⟨x, hx⟩ := atI_inR hr'
  have := je_ixS (pos := pos) h hx hs
  have e : gS s i = ⟨#[x]⟩ := by unfold gS gI; rw [hx]; rfl
  rw [e]; exact this
theorem je_slL' {lo hi : Option Int} {l u : Option Expr} {p2 : Pos} (h : JE T a e0 e1 (.d (.list (xs.map enc)))) (hl : JO T l e1 e2 lo) (hu : JO T u e2 e3 hi) : JE T (.Subscript a (.Slice l u none p2) pos) e0 e3 (.o (.list ((cutL xs lo hi).map enc))) := by
  rw [← cutL_map]; exact je_slL h hl hu
theorem je_slLb' {lo hi : Option Int} {l u : Option Expr} {p2 : Pos} (h : JE T a e0 e1 (.b (.list (xs.map enc)))) (hl : JO T l e1 e1 lo) (hu : JO T u e1 e1 hi) : JE T (.Subscript a (.Slice l u none p2) pos) e0 e1 (.o (.list ((cutL xs lo hi).map enc))) := by
  rw [← cutL_map]; exact je_slLb h hl hu
theorem je_slT' {lo hi : Option Int} {l u : Option Expr} {p2 : Pos} (h : JE T a e0 e1 (.d (.tuple (xs.map enc)))) (hl : JO T l e1 e2 lo) (hu : JO T u e2 e3 hi) : JE T (.Subscript a (.Slice l u none p2) pos) e0 e3 (.d (.tuple ((cutL xs lo hi).map enc))) := by
  rw [← cutL_map]; exact je_slT h hl hu
theorem je_catL' (h : JE2 T a b e0 e2 (.list (xs.map enc)) (.list (ys.map enc))) (hl : xs.length + ys.length ≤ LN) : JE T (.BinOp a .Add b pos) e0 e2 (.o (.list ((xs ++ ys).map enc))) := by
  rw [List.map_append]; exact je_catL h (by simpa using hl)
theorem je_catT' (h : JE2 T a b e0 e2 (.tuple (xs.map enc)) (.tuple (ys.map enc))) (hl : xs.length + ys.length ≤ LN) : JE T (.BinOp a .Add b pos) e0 e2 (.d (.tuple ((xs ++ ys).map enc))) := by
  rw [List.map_append]; exact je_catT h (by simpa using hl)
theorem je_append' {nm : Str} {apos np : Pos} (i : Nat) {x : α} {k0 : Option Addr} (h : JE T e e0 e1 (.d (enc x))) (hl : xs.length < LN) (hN : T.N[i]? = some nm := by rfl) (hv : visB T.sc nm = true := by rfl) (h0 : ∃ xs0, e0[i]? = some (.o k0 (.list xs0)) := by exact ⟨_, rfl⟩) (he : e1[i]? = some (.o k0 (.list (xs.map enc))) := by rfl)
    (hp : PlainM (.Name nm np) "append" apos e [] pos := by exact ⟨fun _ => rfl, fun _ => rfl, rfl, fun _ => rfl, fun _ => rfl⟩)
    (hd : (nm == ("__debug__" : Str)) = false := by decide) (hcd : (nm == ("__classdict__" : Str)) = false := by decide) :
    JE T (.Call (.Attribute (.Name nm np) "append" apos) [e] [] pos) e0 (e1.set i (.o k0 (.list ((xs ++ [x]).map enc)))) (.d .none) := by
  rw [List.map_append]; exact je_append i hN hv h h0 he (by simpa using hl) hp hd hcd
theorem js_setIx' {nm : Str} {np tp : Pos} {ix : Expr} (j : Nat) {k0 : Option Addr} {i : Int} {x : α} (h : JE T e e0 e1 (.d (enc x))) (hi : JE T ix e1 e2 (.d (.int i))) (hr : inR xs.length i) (hN : T.N[j]? = some nm := by rfl) (hv : visB T.sc nm = true := by rfl) (h1 : ∃ xs0, e1[j]? = some (.o k0 (.list xs0)) := by exact ⟨_, rfl⟩) (h2 : e2[j]? = some (.o k0 (.list (xs.map enc))) := by rfl)
    (hs : ∀ (v : Env) l, swapsWithSole [.Subscript (.Name nm np) ix tp] e l v = pure false := by intro _ _; rfl) (hw : ∀ v : Env, swappedStores [.Subscript (.Name nm np) ix tp] e v = pure none := by intro _; rfl) (ha1 : ∀ v : Env, (assignEach [.Subscript (.Name nm np) ix tp] v).map (·.2) = [assign (.Subscript (.Name nm np) ix tp) v] := by intro _; rfl)
    (ha : ∀ (env : Env) v, assign (.Subscript (.Name nm np) ix tp) env v = (do
      let ov ← holding [v] (eval (.Name nm np) env)
      let iv ← holding [v, ov] (eval ix env)
      standAt tp
      holding [v, ov, iv] (setItem ov iv v)
      release [v, ov, iv] []) := by intro _ _; rfl)
    (hd : (nm == ("__debug__" : Str)) = false := by decide) (hcd : (nm == ("__classdict__" : Str)) = false := by decide) :
    JS T (.Assign [.Subscript (.Name nm np) ix tp] e pos) e0 (.nx (e2.set j (.o k0 (.list ((setI xs i x).map enc))))) := by
  obtain ⟨m, hm⟩ := setI_ix hr
  have e : (setI xs i x).map enc = (xs.map enc).set m (enc x) := by unfold setI; rw [hm]; exact List.map_set
  rw [e]
  exact js_setIx j hN hv h hi h1 h2 (by rw [List.length_map]; exact hm) hs hw ha1 ha hd hcd
theorem cj_eqE [DecidableEq α] {x y : α} (h : JE2 T a b e0 e2 (enc x) (enc y)) (sh : ShE 64 enc) (eq : EqE enc) : CJ T .Eq a b e0 e2 (decide (x = y)) := by
  have := cj_eqD h (sh x) (sh y)
  rw [eq x y] at this; exact this
theorem cj_neE [DecidableEq α] {x y : α} (h : JE2 T a b e0 e2 (enc x) (enc y)) (sh : ShE 64 enc) (eq : EqE enc) : CJ T .NotEq a b e0 e2 (!decide (x = y)) := by
  have := cj_neD h (sh x) (sh y)
  rw [eq x y] at this; exact this
theorem any_eqE [DecidableEq α] (eq : EqE enc) (x : α) (ys : List α) : ((ys.map enc).any fun z => PyData.eqv z (enc x)) = decide (x ∈ ys) := by
  rw [List.any_map, Bool.eq_iff_iff, List.any_eq_true]
  simp only [Function.comp_apply, eq _ _, decide_eq_true_eq]
  exact ⟨fun ⟨y, h1, h2⟩ => h2 ▸ h1, fun h => ⟨x, h, rfl⟩⟩
theorem cj_inL' [DecidableEq α] {x : α} (h : JE2 T a b e0 e2 (enc x) (.list (ys.map enc))) (sh : ShE 63 enc) (sh' : ShE 64 enc) (eq : EqE enc) (hm : behindInMarks .In b = false := by rfl) : CJ T .In a b e0 e2 (decide (x ∈ ys)) := by
  have s1 := sh' x
  have := cj_inL h s1 (sh_l sh ys) hm
  rw [any_eqE eq] at this; exact this
theorem cj_notInL' [DecidableEq α] {x : α} (h : JE2 T a b e0 e2 (enc x) (.list (ys.map enc))) (sh : ShE 63 enc) (sh' : ShE 64 enc) (eq : EqE enc) (hm : behindInMarks .NotIn b = false := by rfl) : CJ T .NotIn a b e0 e2 (!decide (x ∈ ys)) := by
  have := cj_notInL h (sh' x) (sh_l sh ys) hm
  rw [any_eqE eq] at this; exact this
theorem cj_inT' [DecidableEq α] {x : α} (h : JE2 T a b e0 e2 (enc x) (.tuple (ys.map enc))) (fl : FlE enc) (eq : EqE enc) (hm : behindInMarks .In b = false := by rfl) : CJ T .In a b e0 e2 (decide (x ∈ ys)) := by
  have := cj_inT h (fl x) (by rw [List.all_map, List.all_eq_true]; exact fun y _ => fl y) hm
  rw [any_eqE eq] at this; exact this
theorem cj_notInT' [DecidableEq α] {x : α} (h : JE2 T a b e0 e2 (enc x) (.tuple (ys.map enc))) (fl : FlE enc) (eq : EqE enc) (hm : behindInMarks .NotIn b = false := by rfl) : CJ T .NotIn a b e0 e2 (!decide (x ∈ ys)) := by
  have := cj_notInT h (fl x) (by rw [List.all_map, List.all_eq_true]; exact fun y _ => fl y) hm
  rw [any_eqE eq] at this; exact this
theorem ji_enumL' (hg : glB T.sc "enumerate" = true) (hm : T.mg "enumerate" = none) (h : JE T e e0 e1 (.d (.list (xs.map enc)))) (hs : ∀ v : Env, starEach [e] v = [(false, eval e v)] := by intro _; rfl) : JI T (.Tuple elts kk tpos) (.Call (.Name "enumerate" p) [e] [] pos) e0 e1 ((enumL xs).map (eP2 PyData.int enc)) := by
  rw [← enumD_map]; exact ji_enumL hg hm h hs
theorem ji_enumT' (hg : glB T.sc "enumerate" = true) (hm : T.mg "enumerate" = none) (h : JE T e e0 e1 (.d (.tuple (xs.map enc)))) (hs : ∀ v : Env, starEach [e] v = [(false, eval e v)] := by intro _; rfl) : JI T (.Tuple elts kk tpos) (.Call (.Name "enumerate" p) [e] [] pos) e0 e1 ((enumL xs).map (eP2 PyData.int enc)) := by
  rw [← enumD_map]; exact ji_enumT hg hm h hs
theorem ji_enumS' {s : Str} (hg : glB T.sc "enumerate" = true) (hm : T.mg "enumerate" = none) (h : JE T e e0 e1 (.d (.str s))) (hs : ∀ v : Env, starEach [e] v = [(false, eval e v)] := by intro _; rfl) : JI T (.Tuple elts kk tpos) (.Call (.Name "enumerate" p) [e] [] pos) e0 e1 ((enumL (signs s)).map (eP2 PyData.int PyData.str)) := by
  rw [← enumD_map]; exact ji_enumS hg hm h hs
theorem ji_zipL' (hg : glB T.sc "zip" = true) (hm : T.mg "zip" = none) (h : JA T [a, b] e0 e1 [.list (xs.map enc), .list (zs.map dec)]) (hs : ∀ v : Env, starEach [a, b] v = (false, eval a v) :: starEach [b] v := by intro _; rfl) (hpl : ∀ v : Env, (backTo pos (starEach [b] v)).any (·.1) = false := by intro _; rfl) : JI T (.Tuple elts kk tpos) (.Call (.Name "zip" p) [a, b] [] pos) e0 e1 ((xs.zip zs).map (eP2 enc dec)) := by
  rw [← zipD_map]; exact ji_zipL hg hm h hs hpl
theorem ji_zipT' (hg : glB T.sc "zip" = true) (hm : T.mg "zip" = none) (h : JA T [a, b] e0 e1 [.tuple (xs.map enc), .tuple (zs.map dec)]) (hs : ∀ v : Env, starEach [a, b] v = (false, eval a v) :: starEach [b] v := by intro _; rfl) (hpl : ∀ v : Env, (backTo pos (starEach [b] v)).any (·.1) = false := by intro _; rfl) : JI T (.Tuple elts kk tpos) (.Call (.Name "zip" p) [a, b] [] pos) e0 e1 ((xs.zip zs).map (eP2 enc dec)) := by
  rw [← zipD_map]; exact ji_zipT hg hm h hs hpl
variable {tg iter elt : Expr} {ifs : List Expr} {scope : Scope}
/-- [elt for tg in iter], elements of one kind -/
theorem je_lc0 (own : List (Str × Nat)) (g : α → β) (hi : JI T tg iter e0 e1 (xs.map enc)) (hnd : T.N.Nodup) (ok : blkC T.N T.sc scope own = true) (hu : unk e1 (own.map (·.2)))
    (turn : ∀ x, x ∈ xs → LcP T scope tg elt [] own e1 (enc x) true (dec (g x))) (hs : ∀ (v : Env) x, foldedSetIterable iter v x = pure x := by intro _ _; rfl) : JE T (.ListComp elt [⟨tg, iter, [], 0⟩] scope pos) e0 e1 (.o (.list ((xs.map g).map dec))) := by
  have := je_lc (pos := pos) own (fun _ => true) (fun x => dec (g x)) hi hnd ok hu turn hs
  rw [show xs.filter (fun _ => true) = xs from List.filter_eq_self.mpr (fun _ _ => rfl)] at this
  rw [List.map_map]; exact this
theorem je_lc1 (own : List (Str × Nat)) (p : α → Bool) (g : α → β) (hi : JI T tg iter e0 e1 (xs.map enc)) (hnd : T.N.Nodup) (ok : blkC T.N T.sc scope own = true) (hu : unk e1 (own.map (·.2)))
    (turn : ∀ x, x ∈ xs → LcP T scope tg elt ifs own e1 (enc x) (p x) (dec (g x))) (hs : ∀ (v : Env) x, foldedSetIterable iter v x = pure x := by intro _ _; rfl) : JE T (.ListComp elt [⟨tg, iter, ifs, 0⟩] scope pos) e0 e1 (.o (.list (((xs.filter p).map g).map dec))) := by
  have := je_lc (pos := pos) own p (fun x => dec (g x)) hi hnd ok hu turn hs
  rw [List.map_map]; exact this
theorem js_lc0 (i : Nat) {nm : Str} {py spos : Pos} (own : List (Str × Nat)) (g : α → β) (hi : JI T tg iter e0 e1 (xs.map enc)) (hnd : T.N.Nodup) (ok : blkC T.N T.sc scope own = true) (hu : unk e1 (own.map (·.2)))
    (turn : ∀ x, x ∈ xs → LcP T scope tg elt [] own e1 (enc x) true (dec (g x))) (hN : T.N[i]? = some nm := by rfl) (hl : T.sc.names.lookup nm = some .local := by rfl) (hk : T.sc.kind = .function := by rfl) (hpl : (py.line == pos.line) = true := by rfl) (ha : (scope.names.any fun (n, k) => n == nm && (k == .local || k == .cell)) = false := by decide +kernel) (hs : ∀ (v : Env) x, foldedSetIterable iter v x = pure x := by intro _ _; rfl) :
    JS T (.Assign [.Name nm py] (.ListComp elt [⟨tg, iter, [], 0⟩] scope pos) spos) e0 (.nx (e1.set i (.o none (.list ((xs.map g).map dec))))) := by
  have := js_setLc (pos := pos) (py := py) (spos := spos) i own (fun _ => true) (fun x => dec (g x)) hi hnd ok hu turn hN hl hk hpl ha hs
  rw [show xs.filter (fun _ => true) = xs from List.filter_eq_self.mpr (fun _ _ => rfl)] at this
  rw [List.map_map]; exact this
theorem js_lc1 (i : Nat) {nm : Str} {py spos : Pos} (own : List (Str × Nat)) (p : α → Bool) (g : α → β) (hi : JI T tg iter e0 e1 (xs.map enc)) (hnd : T.N.Nodup) (ok : blkC T.N T.sc scope own = true) (hu : unk e1 (own.map (·.2)))
    (turn : ∀ x, x ∈ xs → LcP T scope tg elt ifs own e1 (enc x) (p x) (dec (g x))) (hN : T.N[i]? = some nm := by rfl) (hl : T.sc.names.lookup nm = some .local := by rfl) (hk : T.sc.kind = .function := by rfl) (hpl : (py.line == pos.line) = true := by rfl) (ha : (scope.names.any fun (n, k) => n == nm && (k == .local || k == .cell)) = false := by decide +kernel) (hs : ∀ (v : Env) x, foldedSetIterable iter v x = pure x := by intro _ _; rfl) :
    JS T (.Assign [.Name nm py] (.ListComp elt [⟨tg, iter, ifs, 0⟩] scope pos) spos) e0 (.nx (e1.set i (.o none (.list (((xs.filter p).map g).map dec))))) := by
  have := js_setLc (pos := pos) (py := py) (spos := spos) i own p (fun x => dec (g x)) hi hnd ok hu turn hN hl hk hpl ha hs
  rw [List.map_map]; exact this
/-- is None -/
theorem isN_eO {o : Option α} (h : ∀ a, isNoneD (enc a) = false) : isNoneD (eO enc o) = o.isNone := by
  cases o with
  | none => rfl
  | some a => exact h a
end
end J
namespace J
open PySem L2 PySem.Spec PyProof.Rows

/-! ### the draws -/
def iabs (x : Int) : Int := if x < 0 then -x else x
theorem iabs_nn (x : Int) : 0 ≤ iabs x := by unfold iabs; split <;> omega
structure Dr where
  ns : List Int
  i : Nat
  x : Int
  st : Int
@[reducible] def drD (d : Dr) : PyData := .list [.list (d.ns.map .int), .int d.i, .int d.x, .int d.st]
def nxtM (d : Dr) (many : Int) : Dr ⊕ (Int × Dr) :=
  if decide ((d.i : Int) < d.ns.length) = true then
    Let (iabs (gI d.ns d.i)) fun cell =>
    Let (⟨d.ns, d.i + 1, d.x, d.st⟩ : Dr) fun d =>
    if decide ((10 : Int) ^ 18 ≤ cell) = true then .inr (Int.fmod cell many, ⟨d.ns, d.i, Int.fdiv cell many, d.st⟩)
    else .inl ⟨d.ns, d.i, d.x, Int.fmod (d.st * 48271 + cell + 11) 2147483647⟩
  else .inl ⟨d.ns, d.i, d.x, Int.fmod (d.st * 48271 + 12345) 2147483647⟩
def nxt (d : Dr) (many : Int) : Int × Dr :=
  if decide (0 < d.x) = true then
    Let (Int.fmod d.x many) fun found =>
    Let (⟨d.ns, d.i, Int.fdiv d.x many, d.st⟩ : Dr) fun d => (found, d)
  else orR (nxtM d many) fun d => (Int.fmod (Int.fdiv (Int.fmod (d.st * 69621) 2147483629) 7) many, d)
theorem nxtM_l {d d' : Dr} {many : Int} (h : nxtM d many = .inl d') : d'.ns = d.ns ∧ (d'.i = d.i ∨ d'.i = d.i + 1) := by
  unfold nxtM at h
  simp only [Let] at h
  by_cases c1 : (d.i : Int) < d.ns.length
  · by_cases c2 : (1000000000000000000 : Int) ≤ iabs (gI d.ns d.i)
    · simp [c1, c2] at h
    · simp [c1, c2] at h; rw [← h]; exact ⟨rfl, .inr rfl⟩
  · simp [c1] at h; rw [← h]; exact ⟨rfl, .inl rfl⟩
theorem nxtM_r {d : Dr} {many : Int} {r : Int × Dr} (h : nxtM d many = .inr r) : (∃ c, r.1 = Int.fmod c many) ∧ r.2.ns = d.ns ∧ r.2.i = d.i + 1 := by
  unfold nxtM at h
  simp only [Let] at h
  by_cases c1 : (d.i : Int) < d.ns.length
  · by_cases c2 : (1000000000000000000 : Int) ≤ iabs (gI d.ns d.i)
    · simp [c1, c2] at h; rw [← h]; exact ⟨⟨_, rfl⟩, rfl, rfl⟩
    · simp [c1, c2] at h
  · simp [c1] at h
theorem nxt_c (d : Dr) (many : Int) : (∃ c, (nxt d many).1 = Int.fmod c many) ∧ (nxt d many).2.ns = d.ns ∧ ((nxt d many).2.i = d.i ∨ (nxt d many).2.i = d.i + 1) := by
  unfold nxt
  by_cases c : 0 < d.x
  · simp [c, Let]; exact ⟨_, rfl⟩
  · simp only [c, decide_false, Bool.false_eq_true, if_false]
    cases h : nxtM d many with
    | inl l => have := nxtM_l h; exact ⟨⟨_, rfl⟩, this⟩
    | inr r => have := nxtM_r h; exact ⟨this.1, this.2.1, .inr this.2.2⟩
theorem nxt_lo {d : Dr} {many : Int} (h : 0 < many) : 0 ≤ (nxt d many).1 := by
  obtain ⟨c, q⟩ := (nxt_c d many).1
  rw [q]; exact Int.fmod_nonneg_of_pos _ h
theorem nxt_hi {d : Dr} {many : Int} (h : 0 < many) : (nxt d many).1 < many := by
  obtain ⟨c, q⟩ := (nxt_c d many).1
  rw [q]; exact Int.fmod_lt_of_pos _ h
/-- what _law_same asks of data -/
def sameD : PyData → PyData → Bool
  | .list xs, .list ys => decide (xs.length = ys.length) && sameAll xs ys
  | .tuple xs, .tuple ys => decide (xs.length = ys.length) && sameAll xs ys
  | .none, .none => true
  | .int i, .int j => decide (i = j)
  | .bool i, .bool j => i == j
  | .str i, .str j => decide (i = j)
  | _, _ => false
where sameAll : List PyData → List PyData → Bool
  | [], _ => true
  | _, [] => true
  | x :: xs, y :: ys => sameD x y && sameAll xs ys
def drN (many : Int) : Prop := 0 < many ∧ many < 1073741824
abbrev drPre (a : Dr × Int) : Prop := drN a.2
abbrev SpDraw (K : PySem.W.Frag) : Sp := SpF K (fun _ : List Int => True) (fun ns => [.dict [(.none, .list (ns.map .int))]]) (fun ns => drD ⟨ns, 0, 0, 17⟩)
abbrev SpNext (K : PySem.W.Frag) : Sp := SpO K drPre (fun a => drD a.1) (fun a => drD (nxt a.1 a.2).2) (fun a => [.int a.2]) (fun a => .int (nxt a.1 a.2).1)
end J
namespace J
open PySem L2 PySem.Spec PyProof.Rows
section
variable {T : TC} {a b e : Expr} {es : List Expr} {env e0 e1 e2 e3 : Env'} {pos p p1 p2 p3 : Pos} {x y z : PyData} {ds : List PyData} {K : PySem.W.Frag} {R C C' H H' : Hp} {σ : L2.St} {v : V}
/-! ### isinstance of built-in types -/
theorem b_list : bootBuiltins "list" = some (.type "list") := by decide +kernel
theorem b_tuple : bootBuiltins "tuple" = some (.type "tuple") := by decide +kernel
theorem b_bool : bootBuiltins "bool" = some (.type "bool") := by decide +kernel
theorem b_str : bootBuiltins "str" = some (.type "str") := by decide +kernel
theorem b_int : bootBuiltins "int" = some (.type "int") := by decide +kernel
def tyD : PyData → String
  | .none => "NoneType" | .bool _ => "bool" | .int _ => "int" | .str _ => "str" | .list _ => "list" | .tuple _ => "tuple" | .dict _ => "dict"
def noDc : PyData → Bool
  | .dict _ => false | _ => true
theorem tyx_sqT {a : Addr} {vs : List V} (h : SqT K H a vs) : TyX K H (.ref a) (.type "tuple") := by
  rcases h with h | ⟨o, its, n, h1, h2, _⟩
  · rcases h with h | ⟨o, h⟩
    · exact .base (.tup h)
    · exact .fTuple h
  · exact .kTuple h1 h2
theorem tyx {x : PyData} (h : Rp K H v x) (hn : noDc x = true) : TyX K H v (.type (tyD x)) := by
  cases h with
  | non => exact .base .non
  | bl b => exact .base (.bl b)
  | int i => exact .base (.int i)
  | str _ => exact .base (.str _)
  | lst e _ _ => exact .base (.lst e)
  | tup q _ _ => exact tyx_sqT q
  | scr _ _ _ => cases hn
  | dK _ _ _ => cases hn
  | dT _ _ _ => cases hn
theorem je_isi {id : String} {nm : Str} {c : Bool} (hg : glB T.sc "isinstance" = true) (hm : T.mg "isinstance" = none) (hg1 : glB T.sc nm = true) (hm1 : T.mg nm = none) (hv1 : bootBuiltins nm = some (.type id)) (ha : JE T e e0 e1 (.d x))
    (hk : kitB (tyD x) id = some c) (hn : noDc x = true := by rfl) (hp : Plain e [.Name nm p1] pos := by exact ⟨fun _ => rfl, fun _ => rfl⟩) (hs : ∀ v : Env, starEach [.Name nm p1] v = [(false, eval (.Name nm p1) v)] := by intro _; rfl) (h1 : nm ≠ "__name__" := by decide) (h2 : (nm == ("__debug__" : Str)) = false := by decide) :
    JE T (.Call (.Name "isinstance" p) [e, .Name nm p1] [] pos) e0 e1 (.d (.bool c)) := fun X hX =>
  (pe_callB call_isi (gl_of hX hg) (by rw [hX.mg]; exact hm) boot_isinstance (pa_cons (ha X hX) (pa_cons (pe_bltn (v := V.ty id) (gl_of hX hg1) (by rw [hX.mg]; exact hm1) hv1 rfl h1 h2) pa_nil (hs X.env)) (hp.he X.env)) (by decide) (by decide) (hp.he X.env) (hp.hp X.env)).wk fun σ H Q ⟨R, C, E, k⟩ => by
    rw [hX.K] at *
    refine ⟨R, C, E, fun v C1 H1 c1 E1 r1 => ?_⟩
    exact ⟨v, .ty id, _, _, c, rfl, .ty id, tyx (r1.mono E1.cH) hn, kit_ty hk, k _ C1 H1 c1 E1 (.bl c)⟩
theorem je_isi2 {id1 id2 : String} {n1 n2 : Str} {b1 b2 : Bool} {tk : Nat} {tp : Pos} (hg : glB T.sc "isinstance" = true) (hm : T.mg "isinstance" = none) (hg1 : glB T.sc n1 = true) (hm1 : T.mg n1 = none) (hv1 : bootBuiltins n1 = some (.type id1)) (hg2 : glB T.sc n2 = true) (hm2 : T.mg n2 = none) (hv2 : bootBuiltins n2 = some (.type id2)) (ha : JE T e e0 e1 (.d x))
    (hk1 : kitB (tyD x) id1 = some b1) (hk2 : kitB (tyD x) id2 = some b2) (hn : noDc x = true := by rfl) (hp : Plain e [.Tuple [.Name n1 p1, .Name n2 p2] tk tp] pos := by exact ⟨fun _ => rfl, fun _ => rfl⟩) (hs : ∀ v : Env, starEach [.Tuple [.Name n1 p1, .Name n2 p2] tk tp] v = [(false, eval (.Tuple [.Name n1 p1, .Name n2 p2] tk tp) v)] := by intro _; rfl)
    (hs1 : ∀ v : Env, starEach [.Name n1 p1, .Name n2 p2] v = (false, eval (.Name n1 p1) v) :: starEach [.Name n2 p2] v := by intro _; rfl) (hs2 : ∀ v : Env, starEach [.Name n2 p2] v = [(false, eval (.Name n2 p2) v)] := by intro _; rfl)
    (h1 : n1 ≠ "__name__" := by decide) (h2 : (n1 == ("__debug__" : Str)) = false := by decide) (h3 : n2 ≠ "__name__" := by decide) (h4 : (n2 == ("__debug__" : Str)) = false := by decide) :
    JE T (.Call (.Name "isinstance" p) [e, .Tuple [.Name n1 p1, .Name n2 p2] tk tp] [] pos) e0 e1 (.d (.bool (b1 || b2))) := fun X hX =>
  (pe_callB call_isiT (gl_of hX hg) (by rw [hX.mg]; exact hm) boot_isinstance (pa_cons (ha X hX) (pa_cons (pe_tup (pa_cons (pe_bltn (v := V.ty id1) (gl_of hX hg1) (by rw [hX.mg]; exact hm1) hv1 rfl h1 h2) (pa_cons (pe_bltn (v := V.ty id2) (gl_of hX hg2) (by rw [hX.mg]; exact hm2) hv2 rfl h3 h4) pa_nil (hs2 X.env)) (hs1 X.env))) pa_nil (hs X.env)) (hp.he X.env)) (by decide) (by decide) (hp.he X.env) (hp.hp X.env)).wk fun σ H Q ⟨R, C, E, k⟩ => by
    rw [hX.K] at *
    refine ⟨R, C, E, fun v C1 H1 c1 E1 r1 => ⟨lnS (Nat.le_of_ble_eq_true rfl), fun t ht => ?_⟩⟩
    have E2 := E1.new (o := .tup [.ty id1, .ty id2]) ht
    have c3 : Ex C1 (upd C1 t (.tup [.ty id1, .ty id2])) := Ex.new (E1.cN ht)
    refine ⟨v, t, [.ty id1, .ty id2], _, [.type id1, .type id2], b1 || b2, rfl, upd_same, .cons (.ty id1) (.cons (.ty id2) .nil), tyx ((r1.mono c3).mono E2.cH) hn, ?_, k _ _ _ (Ex.trans c1 c3) E2 (.bl _)⟩
    refine kitAny_cons (kit_ty hk1) (fun q => ?_) fun q => by rw [q]; rfl
    refine kitAny_cons (kit_ty hk2) (fun q' => ?_) fun q' => by rw [q, q']; rfl
    rw [q, q']; exact kitAny_nil
/-! ### calls, by what they give -/
variable {mm : Str}
theorem je_call' {A : Type} {nm : Str} {k : Nat} {f : Addr} {fd : FuncData} {ps : List Str} {pre : A → Prop} {args : A → List PyData} {res : A → PyData} {d : PyData} (F : FnOk T.P T.w T.K T.mg T.base CX0 k f fd ps (SpD T.K pre args res)) (a : A) (hm : T.mg nm = some (.ref f)) (kp : PySem.W.keepIn T.K (.ref f) = true) (bi : Binds T.K fd ps [])
    (ha : JA T (e :: es) e0 e1 (args a)) (hpre : pre a) (hg : glB T.sc nm = true := by rfl) (hk : k ≤ T.k := by exact Nat.le_of_ble_eq_true rfl) (hq : res a = d := by rfl) (hp : Plain e es pos := by exact ⟨fun _ => rfl, fun _ => rfl⟩) (hdb : (nm == ("__debug__" : Str)) = false := by decide) : JE T (.Call (.Name nm p) (e :: es) [] pos) e0 e1 (.d d) :=
  hq ▸ je_call F a hm kp bi hg hk ha hpre hp hdb
theorem je_callF' {A : Type} {nm : Str} {k : Nat} {f : Addr} {fd : FuncData} {ps : List Str} {pre : A → Prop} {args : A → List PyData} {res : A → PyData} {d : PyData} (F : FnOk T.P T.w T.K T.mg T.base CX0 k f fd ps (SpF T.K pre args res)) (a : A) (hm : T.mg nm = some (.ref f)) (kp : PySem.W.keepIn T.K (.ref f) = true) (bi : Binds T.K fd ps [])
    (ha : JA T (e :: es) e0 e1 (args a)) (hpre : pre a) (hg : glB T.sc nm = true := by rfl) (hk : k ≤ T.k := by exact Nat.le_of_ble_eq_true rfl) (hq : res a = d := by rfl) (hp : Plain e es pos := by exact ⟨fun _ => rfl, fun _ => rfl⟩) (hdb : (nm == ("__debug__" : Str)) = false := by decide) : JE T (.Call (.Name nm p) (e :: es) [] pos) e0 e1 (.o d) :=
  hq ▸ je_callF F a hm kp bi hg hk ha hpre hp hdb
theorem je_callO' {A : Type} {nm x : Str} {k : Nat} (i : Nat) {f : Addr} {fd : FuncData} {ps : List Str} {pre : A → Prop} {d0 d1 : A → PyData} {args : A → List PyData} {res : A → PyData} {k0 : Option Addr} {px : Pos} {d : PyData} (F : FnOk T.P T.w T.K T.mg T.base CX0 k f fd ps (SpO T.K pre d0 d1 args res)) (a : A) (hm : T.mg nm = some (.ref f)) (kp : PySem.W.keepIn T.K (.ref f) = true) (bi : Binds T.K fd ps [])
    (ha : JA T es e0 e1 (args a)) (hpre : pre a) (hi : e1[i]? = some (.o k0 (d0 a)) := by rfl) (hi0 : ∃ d, e0[i]? = some (.o k0 d) := by exact ⟨_, rfl⟩) (hq : res a = d := by rfl) (he : e1.set i (.o k0 (d1 a)) = e2 := by rfl) (hg : glB T.sc nm = true := by rfl) (hk : k ≤ T.k := by exact Nat.le_of_ble_eq_true rfl) (hN : T.N[i]? = some x := by rfl) (hv : visB T.sc x = true := by rfl) (hp : Plain (.Name x px) es pos := by exact ⟨fun _ => rfl, fun _ => rfl⟩) (hdb : (nm == ("__debug__" : Str)) = false := by decide)
    (hd : (x == ("__debug__" : Str)) = false := by decide) (hcd : (x == ("__classdict__" : Str)) = false := by decide) : JE T (.Call (.Name nm p) (.Name x px :: es) [] pos) e0 e2 (.d d) := by
  subst hq; subst he
  exact je_callO F a hm kp bi hg hk hN hv hi0 ha hi hpre hp hdb hd hcd
/-! ### ifs that are known -/
section
variable {ρ : Type} {cr : ρ → PyData} {er : ρ → Env'} {A B rest : List Stmt}
theorem jb_no {r : ρ} (ht : JT T e e0 e1 false) (h : JB T cr er rest e1 r) : JB T cr er (.If e A [] pos :: rest) e0 r :=
  jb_is (jb_ifr (r := r) ht (fun h => by cases h) (fun _ => h)) rfl
theorem jb_yes {r : ρ} (ht : JT T e e0 e1 true) (h : JB T cr er A e1 r) : JB T cr er (.If e A [] pos :: rest) e0 r :=
  jb_is (jb_ifr (r' := r) ht (fun _ => h) (fun h => by cases h)) rfl
theorem jb_noc {r : ρ} {c : Bool} (ht : JT T e e0 e1 c) (hc : c = false) (h : JB T cr er rest e1 r) : JB T cr er (.If e A [] pos :: rest) e0 r := by
  subst hc; exact jb_no ht h
theorem jb_yesc {r : ρ} {c : Bool} (ht : JT T e e0 e1 c) (hc : c = true) (h : JB T cr er A e1 r) : JB T cr er (.If e A [] pos :: rest) e0 r := by
  subst hc; exact jb_yes ht h
end
end
/-- pairs of data that _law_same can be asked about, with the nesting of the second -/
inductive SameP : Nat → PyData → PyData → Prop
  | non {n : Nat} : SameP n .none .none
  | non1 {n : Nat} {y : PyData} : noDc y = true → SameP n .none y
  | non2 {n : Nat} {x : PyData} : noDc x = true → SameP n x .none
  | int {n : Nat} (i j : Int) : SameP n (.int i) (.int j)
  | bool {n : Nat} (i j : Bool) : SameP n (.bool i) (.bool j)
  | str {n : Nat} (i j : Str) : SameP n (.str i) (.str j)
  | lst {n : Nat} {xs ys : List PyData} : (∀ (i : Nat) x y, xs[i]? = some x → ys[i]? = some y → SameP n x y) → SameP (n + 1) (.list xs) (.list ys)
  | tup {n : Nat} {xs ys : List PyData} : (∀ (i : Nat) x y, xs[i]? = some x → ys[i]? = some y → SameP n x y) → SameP (n + 1) (.tuple xs) (.tuple ys)
abbrev SpSame (K : PySem.W.Frag) (n : Nat) : Sp := SpD K (fun a : PyData × PyData => SameP n a.1 a.2) (fun a => [a.1, a.2]) (fun a => .bool (sameD a.1 a.2))
instance : Inhabited PyData := ⟨.none⟩
theorem gI_some {α : Type} [Inhabited α] {xs : List α} {i : Int} (h : inR xs.length i) : atI xs i = some (gI xs i) := by
  obtain ⟨x, hx⟩ := atI_inR h
  unfold gI; rw [hx]; rfl
theorem gI_nat {α : Type} [Inhabited α] (xs : List α) (k : Nat) : gI xs (k : Int) = xs.getD k default := by
  unfold gI
  by_cases h : k < xs.length
  · have : atI xs (k : Int) = some xs[k] := by
      unfold atI ixN
      simp [h]
    rw [this]; simp [h]
  · have : atI xs (k : Int) = none := by
      unfold atI ixN
      simp [h]
    rw [this]; simp [h]
theorem gI_getE {α : Type} [Inhabited α] {xs : List α} {i : Int} (h : 0 ≤ i ∧ i < xs.length) : xs[i.toNat]? = some (gI xs i) := by
  have := gI_nat xs i.toNat
  rw [show ((i.toNat : Nat) : Int) = i by omega] at this
  rw [this, List.getD_eq_getElem?_getD, List.getElem?_eq_getElem (show i.toNat < xs.length by omega)]; rfl
theorem rgI_zero (n : Nat) : rgI 0 n = (List.range n).map fun (i : Nat) => (i : Int) := by
  unfold rgI; simp
theorem sameAll_map : ∀ (xs ys : List PyData), xs.length = ys.length → sameD.sameAll xs ys = ((rgI 0 ys.length).map fun k => sameD (gI xs k) (gI ys k)).all id
  | [], ys, h => by
    have : ys = [] := List.length_eq_zero_iff.mp h.symm
    subst this; simp [sameD.sameAll, rgI]
  | x :: xs, [], h => by simp at h
  | x :: xs, y :: ys, h => by
    rw [sameD.sameAll, sameAll_map xs ys (by simpa using h), List.length_cons, rgI_zero, rgI_zero, List.range_succ_eq_map]
    simp only [List.map_map, List.map_cons, List.all_cons, Function.comp_def, gI_nat]
    simp [Function.comp_def]
theorem rgI_mem {lo hi k : Int} (h : k ∈ rgI lo hi) : lo ≤ k ∧ k < hi := by
  unfold rgI at h
  obtain ⟨i, hi, rfl⟩ := List.mem_map.mp h
  have := List.mem_range.mp hi
  omega
theorem sameD_list (xs ys : List PyData) : (if (!decide ((xs.length : Int) = ys.length)) = true then false else sameD.sameAll xs ys) = sameD (.list xs) (.list ys) := by
  have e : decide ((xs.length : Int) = ys.length) = decide (xs.length = ys.length) := by rw [decide_eq_decide]; omega
  rw [sameD, e]; cases decide (xs.length = ys.length) <;> rfl
theorem sameD_tuple (xs ys : List PyData) : (if (!decide ((xs.length : Int) = ys.length)) = true then false else sameD.sameAll xs ys) = sameD (.tuple xs) (.tuple ys) := by
  have e : decide ((xs.length : Int) = ys.length) = decide (xs.length = ys.length) := by rw [decide_eq_decide]; omega
  rw [sameD, e]; cases decide (xs.length = ys.length) <;> rfl
theorem of_nec {m n : Nat} (h : (!decide ((m : Int) = n)) = false) : m = n := by
  have : (m : Int) = n := by simpa using h
  omega
theorem noDc_cases {x : PyData} (h : noDc x = true) : x = .none ∨ (∃ b, x = .bool b) ∨ (∃ b, x = .int b) ∨ (∃ b, x = .str b) ∨ (∃ b, x = .list b) ∨ (∃ b, x = .tuple b) := by
  cases x <;> first | (simp; done) | cases h
end J
namespace J
open PySem L2 PySem.Spec PyProof.Rows
section
variable {T : TC} {a b e : Expr} {es : List Expr} {env e0 e1 e2 e3 : Env'} {pos p p1 p2 p3 : Pos} {x y z : PyData} {ds : List PyData} {K : PySem.W.Frag} {R C C' H H' : Hp} {σ : L2.St} {v : V} {α β γ : Type} {enc : α → PyData} {dec : β → PyData}
/-! ### values told ahead -/
theorem let_ok {α : Type} {v : α} {k : α → Prop} (h : Let v k) (x : α) (e : x = v) : k x := e ▸ h
section
variable {ρ L : Type} {cr : ρ → PyData} {er : ρ → Env'} {E : L → Env'} {rest : List Stmt}
theorem jb_pre {α : Type} {v : α} {k : α → ρ} (h : ∀ x, x = v → JB T cr er rest env (k x)) : JB T cr er rest env (Let v k) := h v rfl
theorem jn_pre {α : Type} {v : α} {k : α → L} (h : ∀ x, x = v → JN T E rest env (k x)) : JN T E rest env (Let v k) := h v rfl
theorem jm_pre {α : Type} {v : α} {k : α → L ⊕ ρ} (h : ∀ x, x = v → JM T E cr er rest env (k x)) : JM T E cr er rest env (Let v k) := h v rfl
def orJ {L' : Type} (o : L' ⊕ ρ) (k : L' → L ⊕ ρ) : L ⊕ ρ := match o with
  | .inl l => k l
  | .inr r => .inr r
variable {st : Stmt}
theorem jm_orJ {L' : Type} {E' : L' → Env'} {o : L' ⊕ ρ} {k : L' → L ⊕ ρ} (h : JS T st e0 (ocR E' cr er o)) (h' : ∀ l, o = .inl l → JM T E cr er rest (E' l) (k l)) : JM T E cr er (st :: rest) e0 (orJ o k) := by
  have := jm_or h h'
  cases o <;> exact this
end
theorem lcd_let {S : Type} {scope : Scope} {tg elt : Expr} {own : List (Str × Nat)} {Ev : S → Env'} {d : PyData} {s : S} {α : Type} {w : α} {k : α → β × S} (h : ∀ x, x = w → LcD T scope tg elt own Ev dec d s (k x)) : LcD T scope tg elt own Ev dec d s (Let w k) := h w rfl
/-! ### None or a value -/
theorem je_isNo {o : Option α} {j pos'} (ha : JE T a e0 e1 (.b (eO enc o))) (h : ∀ a, isNoneD (enc a) = false := by intro _; rfl) : JE T (.Compare a [.Is] [.Constant .none j pos'] pos) e0 e1 (.d (.bool o.isNone)) := by
  rw [← isN_eO h]; exact je_isN ha
theorem je_notNo {o : Option α} {j pos'} (ha : JE T a e0 e1 (.b (eO enc o))) (h : ∀ a, isNoneD (enc a) = false := by intro _; rfl) : JE T (.Compare a [.IsNot] [.Constant .none j pos'] pos) e0 e1 (.d (.bool (!o.isNone))) := by
  rw [← isN_eO h]; exact je_notN ha
theorem jt_isNo {o : Option α} {j pos'} (ha : JE T a e0 e1 (.b (eO enc o))) (h : ∀ a, isNoneD (enc a) = false := by intro _; rfl) : JT T (.Compare a [.Is] [.Constant .none j pos'] pos) e0 e1 o.isNone := by
  rw [← isN_eO h]; exact jt_isN ha
theorem jt_notNo {o : Option α} {j pos'} (ha : JE T a e0 e1 (.b (eO enc o))) (h : ∀ a, isNoneD (enc a) = false := by intro _; rfl) : JT T (.Compare a [.IsNot] [.Constant .none j pos'] pos) e0 e1 (!o.isNone) := by
  rw [← isN_eO h]; exact jt_notN ha
/-- the value of what is not None -/
def unO [Inhabited α] (o : Option α) : α := o.getD default
theorem je_un [Inhabited α] {o : Option α} (ha : JE T a e0 e1 (.d (eO enc o))) (h : o.isSome = true) : JE T a e0 e1 (.d (enc (unO o))) := by
  cases o with
  | none => cases h
  | some x => exact ha
/-! ### truth of lists -/
theorem jt_tL {xs : List α} (h : JE T e e0 e1 (.b (.list (xs.map enc)))) (he : ∀ (v : Env) whole, isTrue e v whole = (do let v ← whole; standAt e.pos; holding [v] (truthy v)) := by intro _ _; rfl) : JT T e e0 e1 (!xs.isEmpty) := by
  have := jt_t h rfl he
  simp only [truD, List.isEmpty_map] at this
  exact this
theorem jt_tT {xs : List α} (h : JE T e e0 e1 (.b (.tuple (xs.map enc)))) (he : ∀ (v : Env) whole, isTrue e v whole = (do let v ← whole; standAt e.pos; holding [v] (truthy v)) := by intro _ _; rfl) : JT T e e0 e1 (!xs.isEmpty) := by
  have := jt_t h rfl he
  simp only [truD, List.isEmpty_map] at this
  exact this
/-! ### list(range(..)) -/
theorem rgV_rgI (lo hi : Int) : Rps K C (rgV lo hi) ((rgI lo hi).map .int) := by
  have : rgV lo hi = (rgI lo hi).map V.int := by unfold rgV rgI; rw [List.map_map]; rfl
  rw [this]; exact Rps.ints
def rg1 (n : Int) : Prop := -(2 ^ 62) ≤ n ∧ n ≤ 16777216
def rg2 (m n : Int) : Prop := -(2 ^ 62) ≤ m ∧ m < 2 ^ 62 ∧ -(2 ^ 62) ≤ n ∧ n < 2 ^ 62 ∧ n - m ≤ 16777216
theorem je_listRg1 {n : Int} (hg : glB T.sc "list" = true) (hm : T.mg "list" = none) (hg' : glB T.sc "range" = true) (hm' : T.mg "range" = none) (h : JE T a e0 e1 (.d (.int n))) (hn : rg1 n)
    (hs : ∀ v : Env, starEach [a] v = [(false, eval a v)] := by intro _; rfl) (hs' : ∀ v : Env, starEach [.Call (.Name "range" p2) [a] [] p3] v = [(false, eval (.Call (.Name "range" p2) [a] [] p3) v)] := by intro _; rfl) : JE T (.Call (.Name "list" p) [.Call (.Name "range" p2) [a] [] p3] [] pos) e0 e1 (.o (.list ((rgI 0 n).map .int))) := fun X hX =>
  (pe_listRg hX.calm (gl_of hX hg) (by rw [hX.mg]; exact hm) (prg_1 (gl_of hX hg') (by rw [hX.mg]; exact hm') (h X hX) (hs X.env)) (hs' X.env)).wk fun σ H Q ⟨R, C, E, k⟩ => ⟨R, C, E, fun v C1 H1 c1 E1 r1 => by
    cases r1
    obtain ⟨h1, h2⟩ := hn
    refine ⟨n, rfl, ⟨by omega, by omega, h1, by omega, by omega⟩, fun q hq => ?_⟩
    obtain ⟨E2, r⟩ := E1.freshO hq (by rw [rgV_length]; show _ ≤ 16777216; omega) (rgV_rgI 0 n)
    exact k _ C1 _ c1 E2 r⟩
theorem je_listRg2 {m n : Int} (hg : glB T.sc "list" = true) (hm : T.mg "list" = none) (hg' : glB T.sc "range" = true) (hm' : T.mg "range" = none) (h : JE T a e0 e1 (.d (.int m))) (h' : JE T b e1 e2 (.d (.int n))) (hn : rg2 m n)
    (hs : ∀ v : Env, starEach [a, b] v = (false, eval a v) :: starEach [b] v := by intro _; rfl) (hsb : ∀ v : Env, starEach [b] v = (false, eval b v) :: starEach [] v := by intro _; rfl) (hpp : ∀ v : Env, (backTo p3 (starEach [b] v)).any (·.1) = false := by intro _; rfl) (hs' : ∀ v : Env, starEach [.Call (.Name "range" p2) [a, b] [] p3] v = [(false, eval (.Call (.Name "range" p2) [a, b] [] p3) v)] := by intro _; rfl) : JE T (.Call (.Name "list" p) [.Call (.Name "range" p2) [a, b] [] p3] [] pos) e0 e2 (.o (.list ((rgI m n).map .int))) := fun X hX =>
  (pe_listRg hX.calm (gl_of hX hg) (by rw [hX.mg]; exact hm) (prg_2 (gl_of hX hg') (by rw [hX.mg]; exact hm') (h X hX) (h' X hX) (hs X.env) (hsb X.env) (hpp X.env)) (hs' X.env)).wk fun σ H Q ⟨R, C, E, k⟩ => ⟨R, C, E, fun v C1 H1 c1 E1 r1 => ⟨R, C1, E1, fun v2 C2 H2 c2 E2 r2 => by
    cases r1; cases r2
    obtain ⟨h1, h2, h3, h4, h5⟩ := hn
    refine ⟨m, n, rfl, rfl, ⟨by omega, by omega, h3, by omega, by omega⟩, fun q hq => ?_⟩
    obtain ⟨E3, r⟩ := E2.freshO hq (by rw [rgV_length]; show _ ≤ 16777216; omega) (rgV_rgI m n)
    exact k _ C2 _ (c1.trans c2) E3 r⟩⟩
/-! ### own defs of the text -/
structure Own (K : PySem.W.Frag) (mg : Str → Option Value) (nm : Str) (st : Stmt) (ps : List Str) (f : Addr) (fd : FuncData) : Prop where
  F : Fun K nm nm st f fd
  m : mg nm = some (.ref f)
  b : Binds K fd ps []
/-- the law's own promise -/
def spLawJ (K : PySem.W.Frag) : Sp := fun vs H Q _ => ∃ (a : Addr) (ns : List Int), vs = [.ref a] ∧ SqL K H a (ns.map V.int) ∧ ns.length ≤ 63 ∧ ∀ H', Q (.bl true) H'
theorem law_top {P : Program} {w : World} {mg : Str → Option Value} {base : Heap} {k : Nat} {f : Addr} {fd : FuncData} {m : List Int → Bool} {pre : List Int → Prop}
    (F : FnOk P w K mg base CX0 k f fd ["script"] (SpD K pre (fun ns => [.dict [(.none, .list (ns.map .int))]]) (fun ns => .bool (m ns)))) (hm : ∀ ns : List Int, ns.length ≤ 63 → pre ns ∧ m ns = true) : FnOk P w K mg base CX0 k f fd ["script"] (spLawJ K) :=
  F.imp fun vs H Q E ⟨a, ns, h1, h2, h3, q⟩ => by
    subst h1
    refine ⟨ns, H, (hm ns h3).1, Ex.refl H, .cons (.scr h2 (by rw [List.length_map]; show _ ≤ 16777216; omega) Rps.ints) .nil, fun v C' H' _ _ _ r => ?_⟩
    have r : Rp K C' v (.bool (m ns)) := r
    rw [(hm ns h3).2] at r
    cases r
    exact q H'
theorem walkJ {l : PySem.W.OpenLaw} {q : Program} {loose : List Str} {XP : (Str → Option Value) → Heap → Prop} {YP : World → Heap → Prop} {d : DefRec} {K : Params → PySem.W.Frag} {k : Nat} (hn : l.most = some 63) (hdf : d.params.defaults = []) (hr : Room k callerA)
    (hY : ∀ (w : World) (h : Heap), YP w h → (K w.params).In h)
    (F : ∀ (w : World) (mg : Str → Option Value) (fa : Addr) (h : Heap), (K w.params).In h → h.Ns mainGlobals mg → mg d.name = some (.ref fa) →
      ∃ fd : FuncData, (∀ (s : Shared) (u : Value), BindsTo s fd ⟨[u], []⟩ [("script", u)]) ∧ ∀ base : Heap, (K w.params).In base → base.Ns mainGlobals mg → FnOk l.prog w (K w.params) mg base CX0 k fa fd ["script"] (spLawJ (K w.params))) :
    PySem.W.WalkO q loose XP YP l.row.toRowW d [] (fun f vs => PySem.call f vs) :=
  L2.walk_of (n := 63) (k := k) (x := "script") (CX := fun _ => CX0) (sp := fun w => spLawJ (K w.params)) hn (by decide) hdf hr hY F (fun _ _ a ns hl _ hS => ⟨a, ns, rfl, hS, hl, fun _ => rfl⟩) fun _ _ _ _ _ z => z
end
end J
namespace J
open PySem L2 PySem.Spec PyProof.Rows
/-! ### what _law_same says of data of one kind -/
section
variable {α β γ δ ε ζ : Type} {f : α → PyData} {g : β → PyData} {h : γ → PyData} {i : δ → PyData} {j : ε → PyData} {k : ζ → PyData} {n : Nat}
theorem sameP_up {x y : PyData} {m : Nat} (h : SameP m x y) : ∀ {n : Nat}, m ≤ n → SameP n x y := by
  induction h with
  | non => intro n hn; exact .non
  | non1 h => intro n hn; exact .non1 h
  | non2 h => intro n hn; exact .non2 h
  | int i j => intro n hn; exact .int i j
  | bool i j => intro n hn; exact .bool i j
  | str i j => intro n hn; exact .str i j
  | lst h ih =>
    intro n hn
    obtain ⟨m, rfl⟩ : ∃ m, n = m + 1 := ⟨n - 1, by omega⟩
    exact .lst fun i x y h1 h2 => ih i x y h1 h2 (by omega)
  | tup h ih =>
    intro n hn
    obtain ⟨m, rfl⟩ : ∃ m, n = m + 1 := ⟨n - 1, by omega⟩
    exact .tup fun i x y h1 h2 => ih i x y h1 h2 (by omega)
def SpE (f : α → PyData) (n : Nat) : Prop := ∀ a b, SameP n (f a) (f b)
theorem sp_int : SpE PyData.int n := fun a b => .int a b
theorem sp_bool : SpE PyData.bool n := fun a b => .bool a b
theorem sp_str : SpE PyData.str n := fun a b => .str a b
theorem SpE.all (F : SpE f n) (xs ys : List α) : ∀ (i : Nat) x y, (xs.map f)[i]? = some x → (ys.map f)[i]? = some y → SameP n x y := fun i x y h1 h2 => by
  rw [List.getElem?_map] at h1 h2
  cases q1 : xs[i]? with
  | none => rw [q1] at h1; cases h1
  | some a =>
    cases q2 : ys[i]? with
    | none => rw [q2] at h2; cases h2
    | some b => rw [q1] at h1; rw [q2] at h2; cases h1; cases h2; exact F a b
theorem sp_l (F : SpE f n) : SpE (eL f) (n + 1) := fun a b => .lst (F.all a b)
theorem sp_t (F : SpE f n) : SpE (eT f) (n + 1) := fun a b => .tup (F.all a b)
theorem sp_o (F : SpE f n) (hn : ∀ a, noDc (f a) = true) : SpE (eO f) n := fun a b => by
  cases a with
  | none => cases b with
    | none => exact .non
    | some b => exact .non1 (hn b)
  | some a => cases b with
    | none => exact .non2 (hn a)
    | some b => exact F a b
def SameL (n : Nat) : List PyData → List PyData → Prop
  | [], _ => True
  | _ :: _, [] => True
  | x :: xs, y :: ys => SameP n x y ∧ SameL n xs ys
theorem SameL.get : ∀ {xs ys : List PyData}, SameL n xs ys → ∀ (i : Nat) x y, xs[i]? = some x → ys[i]? = some y → SameP n x y
  | [], _, _ => fun i x y h => by simp at h
  | _ :: _, [], _ => fun i x y _ h => by simp at h
  | a :: xs, b :: ys, h => fun i x y h1 h2 => by
    cases i with
    | zero => simp at h1 h2; subst h1; subst h2; exact h.1
    | succ i => exact SameL.get h.2 i x y (by simpa using h1) (by simpa using h2)
theorem sp_p1 (F : SpE f n) : SpE (eP1 f) (n + 1) := fun a b => .tup (SameL.get ⟨F _ _, trivial⟩)
theorem sp_p2 (F : SpE f n) (G : SpE g n) : SpE (eP2 f g) (n + 1) := fun a b => .tup (SameL.get ⟨F _ _, G _ _, trivial⟩)
theorem sp_p3 (F : SpE f n) (G : SpE g n) (H : SpE h n) : SpE (eP3 f g h) (n + 1) := fun a b => .tup (SameL.get ⟨F _ _, G _ _, H _ _, trivial⟩)
theorem sp_p4 (F : SpE f n) (G : SpE g n) (H : SpE h n) (I : SpE i n) : SpE (eP4 f g h i) (n + 1) := fun a b => .tup (SameL.get ⟨F _ _, G _ _, H _ _, I _ _, trivial⟩)
theorem sp_p5 (F : SpE f n) (G : SpE g n) (H : SpE h n) (I : SpE i n) (J : SpE j n) : SpE (eP5 f g h i j) (n + 1) := fun a b => .tup (SameL.get ⟨F _ _, G _ _, H _ _, I _ _, J _ _, trivial⟩)
theorem sp_p6 (F : SpE f n) (G : SpE g n) (H : SpE h n) (I : SpE i n) (J : SpE j n) (K : SpE k n) : SpE (eP6 f g h i j k) (n + 1) := fun a b => .tup (SameL.get ⟨F _ _, G _ _, H _ _, I _ _, J _ _, K _ _, trivial⟩)
variable [DecidableEq α] [DecidableEq β] [DecidableEq γ] [DecidableEq δ] [DecidableEq ε] [DecidableEq ζ]
def SmE {α : Type} [DecidableEq α] (f : α → PyData) : Prop := ∀ a b, sameD (f a) (f b) = decide (a = b)
theorem sm_int : SmE PyData.int := fun a b => by simp [sameD]
theorem sm_bool : SmE PyData.bool := fun a b => by simp [sameD, Bool.beq_eq_decide_eq]
theorem sm_str : SmE PyData.str := fun a b => by simp [sameD]
theorem sm_all (F : SmE f) : ∀ xs ys : List α, (decide ((xs.map f).length = (ys.map f).length) && sameD.sameAll (xs.map f) (ys.map f)) = decide (xs = ys)
  | [], [] => by simp [sameD.sameAll]
  | [], y :: ys => by simp
  | x :: xs, [] => by simp
  | x :: xs, y :: ys => by
    have ih := sm_all F xs ys
    simp only [List.length_map] at ih
    rw [List.map_cons, List.map_cons, sameD.sameAll, F, List.length_cons, List.length_cons]
    simp only [List.length_map, Nat.succ.injEq, List.cons.injEq, Nat.add_right_cancel_iff]
    rw [Bool.decide_and, ← ih]
    cases decide (x = y) <;> cases decide (xs.length = ys.length) <;> simp
theorem sm_l (F : SmE f) : SmE (eL f) := fun a b => by
  show sameD (.list _) (.list _) = _
  rw [sameD]; exact sm_all F a b
theorem sm_t (F : SmE f) : SmE (eT f) := fun a b => by
  show sameD (.tuple _) (.tuple _) = _
  rw [sameD]; exact sm_all F a b
theorem sm_o (F : SmE f) (hn : ∀ a, sameD .none (f a) = false ∧ sameD (f a) .none = false) : SmE (eO f) := fun a b => by
  cases a with
  | none => cases b with
    | none => simp [sameD]
    | some b => simp [(hn b).1]
  | some a => cases b with
    | none => simp [(hn a).2]
    | some b => rw [show eO f (some a) = f a from rfl, show eO f (some b) = f b from rfl, F]; simp
theorem sm_p1 (F : SmE f) : SmE (eP1 f) := fun a b => by
  show sameD (.tuple _) (.tuple _) = _
  rw [sameD]; simp [sameD.sameAll, F _ _]
theorem sm_p2 (F : SmE f) (G : SmE g) : SmE (eP2 f g) := fun a b => by
  show sameD (.tuple _) (.tuple _) = _
  rw [sameD]; simp [sameD.sameAll, F _ _, G _ _, Prod.ext_iff]
theorem sm_p3 (F : SmE f) (G : SmE g) (H : SmE h) : SmE (eP3 f g h) := fun a b => by
  show sameD (.tuple _) (.tuple _) = _
  rw [sameD]; simp [sameD.sameAll, F _ _, G _ _, H _ _, Prod.ext_iff]
theorem sm_p4 (F : SmE f) (G : SmE g) (H : SmE h) (I : SmE i) : SmE (eP4 f g h i) := fun a b => by
  show sameD (.tuple _) (.tuple _) = _
  rw [sameD]; simp [sameD.sameAll, F _ _, G _ _, H _ _, I _ _, Prod.ext_iff]
theorem sm_p5 (F : SmE f) (G : SmE g) (H : SmE h) (I : SmE i) (J : SmE j) : SmE (eP5 f g h i j) := fun a b => by
  show sameD (.tuple _) (.tuple _) = _
  rw [sameD]; simp [sameD.sameAll, F _ _, G _ _, H _ _, I _ _, J _ _, Prod.ext_iff]
theorem sm_p6 (F : SmE f) (G : SmE g) (H : SmE h) (I : SmE i) (J : SmE j) (K : SmE k) : SmE (eP6 f g h i j k) := fun a b => by
  show sameD (.tuple _) (.tuple _) = _
  rw [sameD]; simp [sameD.sameAll, F _ _, G _ _, H _ _, I _ _, J _ _, K _ _, Prod.ext_iff]
omit [DecidableEq β] [DecidableEq γ] [DecidableEq δ] [DecidableEq ε] [DecidableEq ζ] in
theorem same_q (F : SmE f) (a b : α) : PyData.bool (sameD (f a) (f b)) = .bool (decide (a = b)) := by rw [F a b]
end
/-! ### results that have a name -/
section
variable {T : TC} {a b e : Expr} {es : List Expr} {env e0 e1 e2 e3 : Env'} {pos p : Pos} {α β γ : Type} {tg iter elt : Expr} {scope : Scope}
theorem je_lcDq {β S : Type} {enc : α → PyData} {xs : List α} (m : List β × S) (own : List (Str × Nat)) (Ev : S → Env') (dec : β → PyData) (f : S → α → β × S) (s0 : S) (hm : m = mapS f s0 xs) (hi : JI T tg iter e0 (Ev s0) (xs.map enc)) (hnd : T.N.Nodup) (ok : blkC T.N T.sc scope own = true) (hu : ∀ s, unk (Ev s) (own.map (·.2)))
    (turn : ∀ s x, x ∈ xs → LcD T scope tg elt own Ev dec (enc x) s (f s x)) (hs : ∀ (v : Env) x, foldedSetIterable iter v x = pure x := by intro _ _; rfl) : JE T (.ListComp elt [⟨tg, iter, [], 0⟩] scope pos) e0 (Ev m.2) (.o (.list (m.1.map dec))) := by
  subst hm; exact je_lcD own Ev dec f s0 hi hnd ok hu turn hs
theorem js_setLcDq {β S : Type} {enc : α → PyData} {xs : List α} (m : List β × S) (i : Nat) {nm : Str} {py spos : Pos} (own : List (Str × Nat)) (Ev : S → Env') (dec : β → PyData) (f : S → α → β × S) (s0 : S) (hm : m = mapS f s0 xs) (hi : JI T tg iter e0 (Ev s0) (xs.map enc)) (hnd : T.N.Nodup) (ok : blkC T.N T.sc scope own = true) (hu : ∀ s, unk (Ev s) (own.map (·.2)))
    (turn : ∀ s x, x ∈ xs → LcD T scope tg elt own Ev dec (enc x) s (f s x)) (hN : T.N[i]? = some nm := by rfl) (hl : T.sc.names.lookup nm = some .local := by rfl) (hk : T.sc.kind = .function := by rfl) (hpl : (py.line == pos.line) = true := by rfl) (ha : (scope.names.any fun (n, k) => n == nm && (k == .local || k == .cell)) = false := by decide +kernel) (hs : ∀ (v : Env) x, foldedSetIterable iter v x = pure x := by intro _ _; rfl) :
    JS T (.Assign [.Name nm py] (.ListComp elt [⟨tg, iter, [], 0⟩] scope pos) spos) e0 (.nx ((Ev m.2).set i (.o none (.list (m.1.map dec))))) := by
  subst hm; exact js_setLcD i own Ev dec f s0 hi hnd ok hu turn hN hl hk hpl ha hs
theorem je_ifsq {α : Type} (r : α) (enc : α → PyData) (Ev : α → Env') {t : Expr} {c : Bool} {u w : α} (hr : r = if c = true then u else w) (ht : JT T t e0 e1 c) (ha : c = true → JE T a e1 (Ev u) (.d (enc u))) (hb : c = false → JE T b e1 (Ev w) (.d (enc w))) : JE T (.IfExp t a b pos) e0 (Ev r) (.d (enc r)) := by
  subst hr; exact je_ifs enc Ev ht ha hb
end
end J
namespace J
open PySem L2 PySem.Spec PyProof.Rows PySem.W
/-! ### plain laws: order of data -/
theorem snocInd {α : Type} {P : List α → Prop} (h0 : P []) (h1 : ∀ xs x, P xs → P (xs ++ [x])) : ∀ xs, P xs := fun xs => by
  have : ∀ n (xs : List α), xs.length = n → P xs := by
    intro n
    induction n with
    | zero => intro xs h; rw [List.length_eq_zero_iff.mp h]; exact h0
    | succ n ih =>
      intro xs h
      have hne : xs ≠ [] := by intro q; subst q; simp at h
      rw [← List.dropLast_concat_getLast hne]
      exact h1 _ _ (ih _ (by rw [List.length_dropLast]; omega))
  exact this _ xs rfl
def ltB {α : Type} (f : α → PyData) (a b : α) : Bool := dataLt (f a) (f b)
theorem dataLe_eq {α : Type} (f : α → PyData) (a b : α) : dataLe false f a b = !ltB f b a := rfl
theorem ltB_int (a b : Int) : ltB PyData.int a b = decide (a < b) := dataLt_int a b
theorem dataLt_irrefl (d : PyData) : dataLt d d = false := (listOrd itemOrd).irrefl (keyToks d)
theorem ltB_p2 {α β : Type} [DecidableEq α] [DecidableEq β] {f : α → PyData} {g : β → PyData} (F : AlkE f) (G : AlkE g) (Fe : EqE f) (Ge : EqE g) (p q : α × β) : ltB (eP2 f g) p q = if p.1 = q.1 then ltB g p.2 q.2 else ltB f p.1 q.1 := by
  show dataLt (.tuple _) (.tuple _) = _
  rw [dataLt_tuple]
  by_cases h : p.1 = q.1
  · rw [if_pos h, dataLt_all_yes (F.1 _ _) (by rw [Fe]; simp [h])]
    by_cases h2 : p.2 = q.2
    · rw [dataLt_all_yes (G.1 _ _) (by rw [Ge]; simp [h2])]
      unfold ltB; rw [h2]
      have e1 : lexLt itemOrd (keyToksAll []) (keyToksAll []) = false := by
        unfold keyToksAll; rw [lex_one]; simp [itemLt]
      rw [e1]
      exact (dataLt_irrefl _).symm
    · rw [dataLt_all_no (G.1 _ _) (by rw [Ge]; simp [h2])]; rfl
  · rw [if_neg h, dataLt_all_no (F.1 _ _) (by rw [Fe]; simp [h])]; rfl
/-- lists of one kind, compared place by place -/
def ltLs {α : Type} [DecidableEq α] (f : α → PyData) : List α → List α → Bool
  | [], [] => false
  | [], _ :: _ => true
  | _ :: _, [] => false
  | x :: xs, y :: ys => if x = y then ltLs f xs ys else ltB f x y
theorem lex_ltLs {α : Type} [DecidableEq α] {f : α → PyData} (F : AlkE f) (Fe : EqE f) : ∀ xs ys : List α, lexLt itemOrd (keyToksAll (xs.map f)) (keyToksAll (ys.map f)) = ltLs f xs ys
  | [], [] => by
    show lexLt itemOrd (keyToksAll []) (keyToksAll []) = false
    exact (listOrd itemOrd).irrefl (keyToksAll [])
  | [], y :: ys => by
    show lexLt itemOrd (keyToksAll []) (keyToksAll (f y :: ys.map f)) = true
    rw [toks_all_cons]; unfold keyToksAll
    rw [lex_atom (by simp), lex_one]; simp [itemLt]
  | x :: xs, [] => by
    show lexLt itemOrd (keyToksAll (f x :: xs.map f)) (keyToksAll []) = false
    rw [toks_all_cons]; unfold keyToksAll
    rw [lex_atom (by simp), lex_one]; simp [itemLt]
  | x :: xs, y :: ys => by
    show lexLt itemOrd (keyToksAll (f x :: xs.map f)) (keyToksAll (f y :: ys.map f)) = _
    unfold ltLs
    by_cases h : x = y
    · rw [if_pos h, dataLt_all_yes (F.1 _ _) (by rw [Fe]; simp [h]), lex_ltLs F Fe xs ys]
    · rw [if_neg h, dataLt_all_no (F.1 _ _) (by rw [Fe]; simp [h])]; rfl
theorem ltB_t {α : Type} [DecidableEq α] {f : α → PyData} (F : AlkE f) (Fe : EqE f) (xs ys : List α) : ltB (eT f) xs ys = ltLs f xs ys := by
  show dataLt (.tuple _) (.tuple _) = _
  rw [dataLt_tuple, lex_ltLs F Fe]
theorem ltB_l {α : Type} [DecidableEq α] {f : α → PyData} (F : AlkE f) (Fe : EqE f) (xs ys : List α) : ltB (eL f) xs ys = ltLs f xs ys := by
  show dataLt (.list _) (.list _) = _
  rw [dataLt_list, lex_ltLs F Fe]
/-! ### sorted -/
theorem ltB_irr {α : Type} (f : α → PyData) (a : α) : ltB f a a = false := dataLt_irrefl _
theorem dataLe_total {α : Type} (f : α → PyData) : TotalLe (dataLe false f) := sortLe_total _ _ _
theorem pySort_perm {α : Type} (f : α → PyData) (xs : List α) : (pySort f xs).Perm xs := List.mergeSort_perm _ _
theorem pySort_mem {α : Type} {f : α → PyData} {xs : List α} {x : α} : x ∈ pySort f xs ↔ x ∈ xs := (pySort_perm f xs).mem_iff
theorem pySort_len {α : Type} (f : α → PyData) (xs : List α) : (pySort f xs).length = xs.length := (pySort_perm f xs).length_eq
theorem pySort_sorted {α : Type} (f : α → PyData) (xs : List α) : (pySort f xs).Pairwise fun a b => ltB f b a = false :=
  (sort_pairwise (dataLe_total f) xs).imp fun h => by rw [dataLe_eq] at h; simpa using h
/-- an order like that of the others keeps what is sorted -/
theorem pySort_map {α β : Type} {f : α → PyData} {g : β → PyData} (h : α → β) (xs : List α) (hh : ∀ a ∈ xs, ∀ b ∈ xs, ltB f a b = ltB g (h a) (h b)) : (pySort f xs).map h = pySort g (xs.map h) :=
  List.map_mergeSort fun a ha b hb => by rw [dataLe_eq, dataLe_eq, hh b hb a ha]
/-! ### loops that look for something -/
theorem forR_find {α ρ L : Type} {step : L → α → L ⊕ ρ} {p : α → Bool} {g : α → ρ} (l0 : L) (h : ∀ x, step l0 x = if p x = true then .inr (g x) else .inl l0) : ∀ xs : List α, forR step l0 xs = match xs.find? p with
    | some x => .inr (g x)
    | none => .inl l0
  | [] => rfl
  | x :: xs => by
    rw [forR, h x, List.find?_cons]
    cases q : p x with
    | true => rfl
    | false =>
      simp only [Bool.false_eq_true, if_false]
      exact forR_find l0 h xs
/-- the first that fits, kept -/
theorem foldl_first {α β : Type} (p : α → Bool) (g : α → β) : ∀ (xs : List α) (o : Option β), xs.foldl (fun o x => if (o.isNone && p x) = true then some (g x) else o) o = o.or ((xs.find? p).map g)
  | [], o => by simp
  | x :: xs, o => by
    rw [List.foldl_cons, foldl_first p g xs, List.find?_cons]
    cases o with
    | some b => simp
    | none => cases q : p x <;> simp [q]
/-! ### whole numbers -/
theorem rgI_mem_iff {lo hi k : Int} : k ∈ rgI lo hi ↔ lo ≤ k ∧ k < hi := by
  unfold rgI
  rw [List.mem_map]
  constructor
  · rintro ⟨i, h, rfl⟩; have := List.mem_range.mp h; omega
  · rintro ⟨h1, h2⟩; exact ⟨(k - lo).toNat, List.mem_range.mpr (by omega), by omega⟩
theorem rgI_nil {lo hi : Int} (h : hi ≤ lo) : rgI lo hi = [] := by
  unfold rgI; rw [show (hi - lo).toNat = 0 by omega]; rfl
theorem rgI_snoc {lo hi : Int} (h : lo ≤ hi) : rgI lo (hi + 1) = rgI lo hi ++ [hi] := by
  unfold rgI
  rw [show (hi + 1 - lo).toNat = (hi - lo).toNat + 1 by omega, List.range_succ, List.map_append]
  simp; omega
theorem rgI_cons {lo hi : Int} (h : lo < hi) : rgI lo hi = lo :: rgI (lo + 1) hi := by
  unfold rgI
  rw [show (hi - lo).toNat = (hi - (lo + 1)).toNat + 1 by omega, List.range_succ_eq_map, List.map_cons, List.map_map]
  simp only [Int.natCast_zero, Int.add_zero, List.cons.injEq, true_and]
  apply List.map_congr_left
  intro a _
  simp only [Function.comp_apply]
  omega
theorem gI_mem {α : Type} [Inhabited α] {xs : List α} {i : Int} (h : inR xs.length i) : gI xs i ∈ xs := by
  have := gI_some h
  unfold atI at this
  cases q : ixN xs.length i with
  | none => rw [q] at this; cases this
  | some j => rw [q] at this; exact List.mem_of_getElem? this
/-- the things at all places -/
theorem map_gI {α : Type} [Inhabited α] (xs : List α) : (rgI 0 xs.length).map (gI xs) = xs := by
  rw [rgI_zero, List.map_map]
  apply List.ext_getElem?
  intro i
  rw [List.getElem?_map]
  by_cases h : i < xs.length
  · rw [List.getElem?_range h]
    simp [gI_nat, h]
  · rw [List.getElem?_eq_none (by simpa using h), List.getElem?_eq_none (by simpa using h)]; rfl
theorem enumL_eq {α : Type} [Inhabited α] (xs : List α) : enumL xs = (rgI 0 xs.length).map fun k => (k, gI xs k) := by
  rw [rgI_zero, List.map_map]
  unfold enumL
  apply List.ext_getElem?
  intro i
  rw [List.getElem?_map, List.getElem?_map]
  by_cases h : i < xs.length
  · rw [List.getElem?_range h]
    simp [gI_nat, h]
  · rw [List.getElem?_eq_none (by simpa using h), List.getElem?_eq_none (by simpa using h)]; rfl
theorem drN_lit {n : Int} (h1 : 0 < n) (h2 : n < 1073741824) : drN n := ⟨h1, h2⟩
end J
namespace J
open PySem L2 PySem.Spec PyProof.Rows PySem.W
/-! ### plain laws: all sets of names, in order -/
section
variable {α : Type}
def stp (l : List (List α)) (x : α) : List (List α) := l ++ l.map fun s => s ++ [x]
def allS (names : List α) : List (List α) := names.foldl stp [[]]
abbrev encS (f : α → PyData) : Int × List α → PyData := eP2 PyData.int (eT f)
def srtS (f : α → PyData) (l : List (List α)) : List (List α) := (pySort (encS f) (l.map fun s => ((s.length : Int), s))).map fun q => q.2
def lsets (f : α → PyData) (names : List α) : List (List α) := srtS f (allS names)
theorem stp_mem {l : List (List α)} {x : α} {s : List α} : s ∈ stp l x ↔ s ∈ l ∨ ∃ t ∈ l, s = t ++ [x] := by
  unfold stp; simp [List.mem_append, List.mem_map, eq_comm]
theorem allS_snoc (names : List α) (x : α) : allS (names ++ [x]) = stp (allS names) x := by
  unfold allS; rw [List.foldl_append]; rfl
theorem srtS_mem {f : α → PyData} {l : List (List α)} {s : List α} : s ∈ srtS f l ↔ s ∈ l := by
  unfold srtS pySort
  simp only [List.mem_map, List.mem_mergeSort]
  constructor
  · rintro ⟨q, ⟨t, ht, rfl⟩, rfl⟩; exact ht
  · intro h; exact ⟨_, ⟨s, h, rfl⟩, rfl⟩
theorem allS_sub (names : List α) : ∀ s ∈ allS names, s.Sublist names := by
  induction names using J.snocInd with
  | h0 => intro s hs; simp [allS] at hs; subst hs; exact List.Sublist.refl _
  | h1 xs x ih =>
    intro s hs
    rw [allS_snoc, stp_mem] at hs
    rcases hs with hs | ⟨t, ht, rfl⟩
    · exact (ih s hs).trans (List.sublist_append_left _ _)
    · exact (ih t ht).append (List.Sublist.refl _)
theorem allS_self (names : List α) : names ∈ allS names := by
  induction names using J.snocInd with
  | h0 => simp [allS]
  | h1 xs x ih => rw [allS_snoc, stp_mem]; exact .inr ⟨xs, ih, rfl⟩
theorem allS_nil (names : List α) : [] ∈ allS names := by
  induction names using J.snocInd with
  | h0 => simp [allS]
  | h1 xs x ih => rw [allS_snoc, stp_mem]; exact .inl ih
theorem allS_len (names : List α) : (allS names).length = 2 ^ names.length := by
  induction names using J.snocInd with
  | h0 => rfl
  | h1 xs x ih => rw [allS_snoc]; unfold stp; simp [ih, Nat.pow_succ]; omega
theorem allS_all (names s : List α) (h : s.Sublist names) : s ∈ allS names := by
  revert s
  induction names using J.snocInd with
  | h0 => intro s h; simp [allS]; exact List.sublist_nil.mp h
  | h1 xs x ih =>
    intro s h
    rw [allS_snoc, stp_mem]
    obtain ⟨a, b, rfl, ha, hb⟩ := List.sublist_append_iff.mp h
    cases b with
    | nil => rw [List.append_nil]; exact .inl (ih a ha)
    | cons y b =>
      have hb0 : b = [] := by
        have h1 := hb.length_le
        rw [List.length_cons, List.length_singleton] at h1
        exact List.length_eq_zero_iff.mp (by omega)
      subst hb0
      have : y = x := by simpa using hb.subset (List.mem_singleton.mpr rfl : y ∈ [y])
      subst this
      exact .inr ⟨a, ih a ha, rfl⟩
theorem lsets_mem {f : α → PyData} {names s : List α} : s ∈ lsets f names ↔ s.Sublist names := by
  unfold lsets; rw [srtS_mem]; exact ⟨allS_sub _ _, allS_all _ _⟩
theorem lsets_self (f : α → PyData) (names : List α) : names ∈ lsets f names := lsets_mem.mpr (List.Sublist.refl _)
theorem lsets_len (f : α → PyData) (names : List α) : (lsets f names).length = 2 ^ names.length := by
  unfold lsets srtS; rw [List.length_map, pySort_len, List.length_map, allS_len]
theorem allS_map {β : Type} (h : α → β) (names : List α) : allS (names.map h) = (allS names).map (List.map h) := by
  induction names using J.snocInd with
  | h0 => rfl
  | h1 xs x ih =>
    rw [List.map_append, List.map_singleton, allS_snoc, ih, allS_snoc]
    unfold stp
    simp [List.map_append, List.map_map, Function.comp_def]
/-- the sets of names at rising places -/
theorem lsets_map {β : Type} [DecidableEq α] [DecidableEq β] {f : α → PyData} {g : β → PyData} (F : AlkE f) (Fe : EqE f) (G : AlkE g) (Ge : EqE g) (h : α → β) (names : List α) (inj : ∀ a ∈ names, ∀ b ∈ names, h a = h b → a = b) (hf : ∀ a ∈ names, ∀ b ∈ names, ltB f a b = ltB g (h a) (h b)) : lsets g (names.map h) = (lsets f names).map (List.map h) := by
  have lts : ∀ s t : List α, (∀ a ∈ s, a ∈ names) → (∀ a ∈ t, a ∈ names) → ltLs f s t = ltLs g (s.map h) (t.map h) := by
    intro s
    induction s with
    | nil => intro t _ _; cases t <;> rfl
    | cons a s ih =>
      intro t hs ht
      cases t with
      | nil => rfl
      | cons b t =>
        have ha := hs a (by simp)
        have hb := ht b (by simp)
        simp only [List.map_cons, ltLs]
        rw [ih t (fun x hx => hs x (by simp [hx])) (fun x hx => ht x (by simp [hx]))]
        by_cases q : a = b
        · subst q; simp
        · have : h a ≠ h b := fun h => q (inj a ha b hb h)
          rw [if_neg q, if_neg this, hf a ha b hb]
  unfold lsets
  rw [allS_map]
  unfold srtS
  rw [List.map_map, List.map_map]
  have := pySort_map (f := encS f) (g := encS g) (fun q : Int × List α => (q.1, q.2.map h)) ((allS names).map fun s => ((s.length : Int), s)) (fun a ha b hb => by
    obtain ⟨s, hs, rfl⟩ := List.mem_map.mp ha
    obtain ⟨t, ht, rfl⟩ := List.mem_map.mp hb
    rw [ltB_p2 alk_int (alk_t F) eqe_int (eqe_t Fe), ltB_p2 alk_int (alk_t G) eqe_int (eqe_t Ge), ltB_t F Fe, ltB_t G Ge]
    simp only
    rw [lts s t (fun x hx => (allS_sub _ _ hs).subset hx) (fun x hx => (allS_sub _ _ ht).subset hx)])
  rw [List.map_map] at this
  have e : ((fun q : Int × List α => (q.1, q.2.map h)) ∘ fun s : List α => ((s.length : Int), s)) = ((fun s : List β => ((s.length : Int), s)) ∘ List.map h) := by
    funext s; simp
  rw [e] at this
  rw [← this, List.map_map]
  rfl
theorem allS_one [DecidableEq α] (names : List α) : (allS names).count [] = 1 := by
  induction names using J.snocInd with
  | h0 => rfl
  | h1 xs x ih =>
    rw [allS_snoc]; unfold stp
    rw [List.count_append, ih]
    have : (List.map (fun s => s ++ [x]) (allS xs)).count [] = 0 := by
      rw [List.count_eq_zero]; simp
    omega
theorem srtS_perm (f : α → PyData) (l : List (List α)) : (srtS f l).Perm l := by
  unfold srtS
  have := (pySort_perm (encS f) (l.map fun s => ((s.length : Int), s))).map (fun q : Int × List α => q.2)
  rw [List.map_map] at this
  have e : ((fun q : Int × List α => q.2) ∘ fun s : List α => ((s.length : Int), s)) = id := rfl
  rw [e, List.map_id] at this
  exact this
/-- the smallest one ahead -/
theorem lsets_head [DecidableEq α] {f : α → PyData} (F : AlkE f) (Fe : EqE f) (names : List α) : ∃ r, lsets f names = [] :: r ∧ ∀ s ∈ r, s ≠ [] := by
  have hp := srtS_perm f (allS names)
  have hs := pySort_sorted (encS f) ((allS names).map fun s => ((s.length : Int), s))
  have hc := hp.count_eq []
  rw [allS_one] at hc
  have hn : [] ∈ srtS f (allS names) := srtS_mem.mpr (allS_nil _)
  have hq : ∀ q ∈ pySort (encS f) ((allS names).map fun s => ((s.length : Int), s)), q.1 = q.2.length := fun q hq => by
    rw [pySort_mem] at hq
    obtain ⟨s, _, rfl⟩ := List.mem_map.mp hq
    rfl
  unfold lsets
  unfold srtS at hc hn ⊢
  cases e : pySort (encS f) ((allS names).map fun s => ((s.length : Int), s)) with
  | nil => rw [e] at hn; cases hn
  | cons p r =>
    rw [e] at hs hc hn hq
    have hp0 : p.2 = [] := by
      rcases List.mem_cons.mp hn with h | h
      · exact h.symm
      · obtain ⟨q, hqr, hq0⟩ := List.mem_map.mp h
        have := (List.pairwise_cons.mp hs).1 q hqr
        rw [ltB_p2 alk_int (alk_t F) eqe_int (eqe_t Fe), hq q (by simp [hqr]), hq p (by simp), hq0, ltB_t F Fe, ltB_int] at this
        cases e2 : p.2 with
        | nil => rfl
        | cons a s =>
          rw [e2] at this
          simp at this
          omega
    refine ⟨r.map (fun q => q.2), by rw [List.map_cons, hp0], fun s hs h0 => ?_⟩
    subst h0
    rw [List.map_cons, hp0, List.count_cons_self] at hc
    have := List.count_pos_iff.mpr hs
    omega
end
end J
namespace J
open PySem L2 PySem.Spec PyProof.Rows PySem.W
section
variable {T : TC} {a b c e : Expr} {es : List Expr} {env e0 e1 e2 e3 : Env'} {pos p p1 p2 p3 : Pos} {x y z : PyData} {ds : List PyData} {K : PySem.W.Frag} {R C C' H H' : Hp} {σ : L2.St} {v : V} {α β γ : Type} {enc : α → PyData} {dec : β → PyData}
/-! ### order of data -/
def rCmpD (f : PyData → PyData → Bool) (K : PySem.W.Frag) : R2 := fun x y H Q => ∃ d e, Dp K H x d ∧ Dp K H y e ∧ alike d e = true ∧ d ≠ .none ∧ d.depth ≤ 64 ∧ Q (.bl (f d e)) H
theorem op_ltD {X : Cx} (hu : X.A.units + 64 < cLine) : OpR X (compareOp .Lt) (rCmpD dataLt X.K) := by
  intro pins s σ H x y v u Q I rx ry ⟨d, e, hd, he, al, hn, dp, q⟩
  obtain ⟨as, r1⟩ := Dp.reads I d x v hd rx
  obtain ⟨bs, r2⟩ := Dp.reads I e y u he ry
  exact lt_data r1 r2 al hn (by omega) ⟨.bl _, H, I, rfl, q⟩
theorem op_gtD {X : Cx} (hu : X.A.units + 64 < cLine) : OpR X (compareOp .Gt) (rCmpD (fun x y => dataLt y x) X.K) := by
  intro pins s σ H x y v u Q I rx ry ⟨d, e, hd, he, al, hn, dp, q⟩
  obtain ⟨as, r1⟩ := Dp.reads I d x v hd rx
  obtain ⟨bs, r2⟩ := Dp.reads I e y u he ry
  exact gt_data r1 r2 al hn (by omega) ⟨.bl _, H, I, rfl, q⟩
theorem op_leD {X : Cx} (hu : X.A.units + 64 < cLine) : OpR X (compareOp .LtE) (rCmpD (fun x y => !dataLt y x) X.K) := by
  intro pins s σ H x y v u Q I rx ry ⟨d, e, hd, he, al, hn, dp, q⟩
  obtain ⟨as, r1⟩ := Dp.reads I d x v hd rx
  obtain ⟨bs, r2⟩ := Dp.reads I e y u he ry
  exact le_data r1 r2 al hn (by omega) ⟨.bl _, H, I, rfl, q⟩
theorem op_geD {X : Cx} (hu : X.A.units + 64 < cLine) : OpR X (compareOp .GtE) (rCmpD (fun x y => !dataLt x y) X.K) := by
  intro pins s σ H x y v u Q I rx ry ⟨d, e, hd, he, al, hn, dp, q⟩
  obtain ⟨as, r1⟩ := Dp.reads I d x v hd rx
  obtain ⟨bs, r2⟩ := Dp.reads I e y u he ry
  exact ge_data r1 r2 al hn (by omega) ⟨.bl _, H, I, rfl, q⟩
theorem cmpD_ok {f : PyData → PyData → Bool} (al : alike x y = true) (hn : x ≠ .none) (sx : shN 64 x = true) (sy : shN 64 y = true) : Op2B T (rCmpD f) x y (.d (.bool (f x y))) := fun R C H env σ u v Q E hu hv k =>
  ⟨x, y, (rb_rp E hu).dp' sx, (rb_rp E hv).dp' sy, al, hn, (shN_of sx).2, k _ C H (Ex.refl C) E (.bl _)⟩
theorem un64 {X : Cx} (hX : CT X T) : X.A.units + 64 < cLine := by have := hX.room.un; omega
theorem cj_ltE {x y : α} (h : JE2 T a b e0 e2 (enc x) (enc y)) (al : AlkE enc) (sh : ShE 64 enc) : CJ T .Lt a b e0 e2 (ltB enc x y) :=
  cj_mk (r := rCmpD dataLt) (fun X hX => op_ltD (un64 hX)) h (cmpD_ok (al.1 _ _) (al.2 _) (sh _) (sh _))
theorem cj_gtE {x y : α} (h : JE2 T a b e0 e2 (enc x) (enc y)) (al : AlkE enc) (sh : ShE 64 enc) : CJ T .Gt a b e0 e2 (ltB enc y x) :=
  cj_mk (r := rCmpD (fun x y => dataLt y x)) (fun X hX => op_gtD (un64 hX)) h (cmpD_ok (f := fun x y => dataLt y x) (al.1 _ _) (al.2 _) (sh _) (sh _))
theorem cj_leE {x y : α} (h : JE2 T a b e0 e2 (enc x) (enc y)) (al : AlkE enc) (sh : ShE 64 enc) : CJ T .LtE a b e0 e2 (!ltB enc y x) :=
  cj_mk (r := rCmpD (fun x y => !dataLt y x)) (fun X hX => op_leD (un64 hX)) h (cmpD_ok (f := fun x y => !dataLt y x) (al.1 _ _) (al.2 _) (sh _) (sh _))
theorem cj_geE {x y : α} (h : JE2 T a b e0 e2 (enc x) (enc y)) (al : AlkE enc) (sh : ShE 64 enc) : CJ T .GtE a b e0 e2 (!ltB enc x y) :=
  cj_mk (r := rCmpD (fun x y => !dataLt x y)) (fun X hX => op_geD (un64 hX)) h (cmpD_ok (f := fun x y => !dataLt x y) (al.1 _ _) (al.2 _) (sh _) (sh _))
/-- data of any kind, that turn out to be alike -/
def cmpOk (x y : PyData) : Prop := alike x y = true ∧ x ≠ .none ∧ shN 64 x = true ∧ shN 64 y = true
theorem cj_ltA (h : JE2 T a b e0 e2 x y) (k : cmpOk x y) : CJ T .Lt a b e0 e2 (dataLt x y) :=
  cj_mk (r := rCmpD dataLt) (fun X hX => op_ltD (un64 hX)) h (cmpD_ok k.1 k.2.1 k.2.2.1 k.2.2.2)
theorem cj_gtA (h : JE2 T a b e0 e2 x y) (k : cmpOk x y) : CJ T .Gt a b e0 e2 (dataLt y x) :=
  cj_mk (r := rCmpD (fun x y => dataLt y x)) (fun X hX => op_gtD (un64 hX)) h (cmpD_ok (f := fun x y => dataLt y x) k.1 k.2.1 k.2.2.1 k.2.2.2)
theorem cj_leA (h : JE2 T a b e0 e2 x y) (k : cmpOk x y) : CJ T .LtE a b e0 e2 (!dataLt y x) :=
  cj_mk (r := rCmpD (fun x y => !dataLt y x)) (fun X hX => op_leD (un64 hX)) h (cmpD_ok (f := fun x y => !dataLt y x) k.1 k.2.1 k.2.2.1 k.2.2.2)
theorem cj_geA (h : JE2 T a b e0 e2 x y) (k : cmpOk x y) : CJ T .GtE a b e0 e2 (!dataLt x y) :=
  cj_mk (r := rCmpD (fun x y => !dataLt x y)) (fun X hX => op_geD (un64 hX)) h (cmpD_ok (f := fun x y => !dataLt x y) k.1 k.2.1 k.2.2.1 k.2.2.2)
/-! ### data of any kind -/
@[reducible] def eD : PyData → PyData := fun d => d
def isLst : PyData → Bool | .list _ => true | _ => false
def isTup : PyData → Bool | .tuple _ => true | _ => false
def isBoo : PyData → Bool | .bool _ => true | _ => false
def isStr : PyData → Bool | .str _ => true | _ => false
def isInt : PyData → Bool | .int _ => true | .bool _ => true | _ => false
theorem kitLst {x : PyData} (h : noDc x = true) : kitB (tyD x) "list" = some (isLst x) := by cases x <;> first | (simp only [tyD, isLst]; decide +kernel) | cases h
theorem kitTup {x : PyData} (h : noDc x = true) : kitB (tyD x) "tuple" = some (isTup x) := by cases x <;> first | (simp only [tyD, isTup]; decide +kernel) | cases h
theorem kitBoo {x : PyData} (h : noDc x = true) : kitB (tyD x) "bool" = some (isBoo x) := by cases x <;> first | (simp only [tyD, isBoo]; decide +kernel) | cases h
theorem kitStr {x : PyData} (h : noDc x = true) : kitB (tyD x) "str" = some (isStr x) := by cases x <;> first | (simp only [tyD, isStr]; decide +kernel) | cases h
theorem kitInt {x : PyData} (h : noDc x = true) : kitB (tyD x) "int" = some (isInt x) := by cases x <;> first | (simp only [tyD, isInt]; decide +kernel) | cases h
/-- a thing told to be of a kind -/
theorem je_dec {y : α} (h : JE T e e0 e1 (.d x)) (q : enc y = x) : JE T e e0 e1 (.d (enc y)) := q ▸ h
def dI : PyData → Int | .int i => i | _ => 0
def dB : PyData → Bool | .bool i => i | _ => false
def dS : PyData → Str | .str i => i | _ => default
def dA : PyData → PyData := fun d => d
def dL (f : PyData → α) : PyData → List α | .list xs => xs.map f | _ => []
def dT (f : PyData → α) : PyData → List α | .tuple xs => xs.map f | _ => []
def dO (f : PyData → α) : PyData → Option α | .none => none | d => some (f d)
def dP2 (f : PyData → α) (g : PyData → β) : PyData → α × β | .tuple [a, b] => (f a, g b) | d => (f d, g d)
def dP3 (f : PyData → α) (g : PyData → β) (h : PyData → γ) : PyData → α × β × γ | .tuple [a, b, c] => (f a, g b, h c) | d => (f d, g d, h d)
def dP4 {δ : Type} (f : PyData → α) (g : PyData → β) (h : PyData → γ) (i : PyData → δ) : PyData → α × β × γ × δ | .tuple [a, b, c, d] => (f a, g b, h c, i d) | d => (f d, g d, h d, i d)
def dP5 {δ ε : Type} (f : PyData → α) (g : PyData → β) (h : PyData → γ) (i : PyData → δ) (j : PyData → ε) : PyData → α × β × γ × δ × ε | .tuple [a, b, c, d, e] => (f a, g b, h c, i d, j e) | d => (f d, g d, h d, i d, j d)
def dP6 {δ ε ζ : Type} (f : PyData → α) (g : PyData → β) (h : PyData → γ) (i : PyData → δ) (j : PyData → ε) (k : PyData → ζ) : PyData → α × β × γ × δ × ε × ζ | .tuple [a, b, c, d, e, m] => (f a, g b, h c, i d, j e, k m) | d => (f d, g d, h d, i d, j d, k d)
theorem je_isNA {j pos'} (ha : JE T a e0 e1 (.b x)) : JE T (.Compare a [.Is] [.Constant .none j pos'] pos) e0 e1 (.d (.bool (isNoneD x))) := je_isN ha
/-! ### chains of two comparisons -/
theorem je_chain {op op' : CmpOp} {r r' : PySem.W.Frag → R2} {x y z : PyData} {k k' : Bool} (hr : ∀ X, CT X T → OpR X (compareOp op) (r X.K)) (hr' : ∀ X, CT X T → OpR X (compareOp op') (r' X.K)) (ha : JE T a e0 e1 (.d x)) (hb : JE T b e1 e2 (.d y)) (hc : k = true → JE T c e2 e2 (.d z))
    (ho : Op2B T r x y (.d (.bool k))) (ho' : Op2B T r' y z (.d (.bool k'))) (hm : lastMarks [op, op'] [b, c] = false := by with_unfolding_all rfl) : JE T (.Compare a [op, op'] [b, c] pos) e0 e2 (.d (.bool (k && k'))) := fun X hX => by
  cases k with
  | true =>
    refine (pe_chain (hr X hX) (hr' X hX) (ha X hX) (hb X hX) (hc rfl X hX) hm).wk fun σ H Q ⟨R, C, E, q⟩ => ?_
    rw [hX.K] at *
    refine ⟨R, C, E, fun u C1 H1 c1 E1 r1 => ⟨R, C1, E1, fun v C2 H2 c2 E2 r2 => ?_⟩⟩
    refine ho R C2 H2 e2 σ u v _ E2 (.inl (r1.mono c2)) (.inl r2) fun w C3 H3 c3 E3 r3 => ?_
    cases r3
    refine ⟨true, rfl, ?_⟩
    rw [if_pos rfl]
    refine ⟨R, C3, E3, fun w' C4 H4 c4 E4 r4 => ?_⟩
    exact ho' R C4 H4 e2 σ v w' Q E4 (.inl ((r2.mono c3).mono c4)) (.inl r4) fun w5 C5 H5 c5 E5 r5 => q w5 C5 H5 ((((c1.trans c2).trans c3).trans c4).trans c5) E5 r5
  | false =>
    refine (pe_chain (tc := fun _ _ _ => False) (hr X hX) (hr' X hX) (ha X hX) (hb X hX) pe_dead hm).wk fun σ H Q ⟨R, C, E, q⟩ => ?_
    rw [hX.K] at *
    refine ⟨R, C, E, fun u C1 H1 c1 E1 r1 => ⟨R, C1, E1, fun v C2 H2 c2 E2 r2 => ?_⟩⟩
    refine ho R C2 H2 e2 σ u v _ E2 (.inl (r1.mono c2)) (.inl r2) fun w C3 H3 c3 E3 r3 => ?_
    cases r3
    refine ⟨false, rfl, ?_⟩
    rw [if_neg Bool.false_ne_true]
    exact q _ C3 H3 ((c1.trans c2).trans c3) E3 (.bl _)
section
variable {i j k : Int}
theorem je_chI {op op' : CmpOp} {f g : Int → Int → Bool} (hr : ∀ X, CT X T → OpR X (compareOp op) (rI0 fun i j => .bl (f i j))) (hr' : ∀ X, CT X T → OpR X (compareOp op') (rI0 fun i j => .bl (g i j))) (ha : JE T a e0 e1 (.d (.int i))) (hb : JE T b e1 e2 (.d (.int j))) (hc : f i j = true → JE T c e2 e2 (.d (.int k)))
    (hm : lastMarks [op, op'] [b, c] = false := by with_unfolding_all rfl) : JE T (.Compare a [op, op'] [b, c] pos) e0 e2 (.d (.bool (f i j && g j k))) :=
  je_chain (r := fun _ => rI0 fun i j => .bl (f i j)) (r' := fun _ => rI0 fun i j => .bl (g i j)) hr hr' ha hb hc op2_B0 op2_B0 hm
end
theorem je_lele {i j k : Int} (ha : JE T a e0 e1 (.d (.int i))) (hb : JE T b e1 e2 (.d (.int j))) (hc : decide (i ≤ j) = true → JE T c e2 e2 (.d (.int k))) (hm : lastMarks [.LtE, .LtE] [b, c] = false := by with_unfolding_all rfl) : JE T (.Compare a [.LtE, .LtE] [b, c] pos) e0 e2 (.d (.bool (decide (i ≤ j) && decide (j ≤ k)))) :=
  je_chI (f := fun i j => decide (i ≤ j)) (g := fun i j => decide (i ≤ j)) (fun X _ => op_le) (fun X _ => op_le) ha hb hc hm
theorem je_lelt {i j k : Int} (ha : JE T a e0 e1 (.d (.int i))) (hb : JE T b e1 e2 (.d (.int j))) (hc : decide (i ≤ j) = true → JE T c e2 e2 (.d (.int k))) (hm : lastMarks [.LtE, .Lt] [b, c] = false := by with_unfolding_all rfl) : JE T (.Compare a [.LtE, .Lt] [b, c] pos) e0 e2 (.d (.bool (decide (i ≤ j) && decide (j < k)))) :=
  je_chI (f := fun i j => decide (i ≤ j)) (g := fun i j => decide (i < j)) (fun X _ => op_le) (fun X _ => op_lt) ha hb hc hm
theorem je_ltle {i j k : Int} (ha : JE T a e0 e1 (.d (.int i))) (hb : JE T b e1 e2 (.d (.int j))) (hc : decide (i < j) = true → JE T c e2 e2 (.d (.int k))) (hm : lastMarks [.Lt, .LtE] [b, c] = false := by with_unfolding_all rfl) : JE T (.Compare a [.Lt, .LtE] [b, c] pos) e0 e2 (.d (.bool (decide (i < j) && decide (j ≤ k)))) :=
  je_chI (f := fun i j => decide (i < j)) (g := fun i j => decide (i ≤ j)) (fun X _ => op_lt) (fun X _ => op_le) ha hb hc hm
theorem je_ltlt {i j k : Int} (ha : JE T a e0 e1 (.d (.int i))) (hb : JE T b e1 e2 (.d (.int j))) (hc : decide (i < j) = true → JE T c e2 e2 (.d (.int k))) (hm : lastMarks [.Lt, .Lt] [b, c] = false := by with_unfolding_all rfl) : JE T (.Compare a [.Lt, .Lt] [b, c] pos) e0 e2 (.d (.bool (decide (i < j) && decide (j < k)))) :=
  je_chI (f := fun i j => decide (i < j)) (g := fun i j => decide (i < j)) (fun X _ => op_lt) (fun X _ => op_lt) ha hb hc hm
theorem jt_ch {k : Bool} {op op' : CmpOp} (h : JE T (.Compare a [op, op'] [b, c] pos) e0 e1 (.d (.bool k))) (h2 : JT T (.Compare a [op, op'] [b, c] pos) e0 e1 k) : JT T (.Compare a [op, op'] [b, c] pos) e0 e1 k := h2
/-- .. as a test -/
theorem jt_chI {i j k : Int} {op op' : CmpOp} {f g : Int → Int → Bool} (hr : ∀ X, CT X T → OpR X (compareOp op) (rI0 fun i j => .bl (f i j))) (hr' : ∀ X, CT X T → OpR X (compareOp op') (rI0 fun i j => .bl (g i j))) (ha : JE T a e0 e1 (.d (.int i))) (hb : JE T b e1 e2 (.d (.int j))) (hc : f i j = true → JE T c e2 e2 (.d (.int k)))
    (hm : lastMarks [op, op'] [b, c] = false := by with_unfolding_all rfl) : JT T (.Compare a [op, op'] [b, c] pos) e0 e2 (f i j && g j k) := fun X hX => by
  cases q : f i j with
  | true =>
    refine (pt_chain (hr X hX) (hr' X hX) (ha X hX) (hb X hX) (hc q X hX) hm).wk fun σ H Q ⟨R, C, E, kk⟩ => ?_
    refine ⟨R, C, E, fun u C1 H1 c1 E1 r1 => ⟨R, C1, E1, fun v C2 H2 c2 E2 r2 => ?_⟩⟩
    cases r1; cases r2
    refine ⟨i, j, rfl, rfl, f i j, rfl, ?_⟩
    rw [if_pos q]
    refine ⟨R, C2, E2, fun w' C4 H4 c4 E4 r4 => ?_⟩
    cases r4
    exact ⟨j, k, rfl, rfl, g j k, rfl, kk C4 H4 ((c1.trans c2).trans c4) E4⟩
  | false =>
    refine (pt_chain (tc := fun _ _ _ => False) (hr X hX) (hr' X hX) (ha X hX) (hb X hX) pe_dead hm).wk fun σ H Q ⟨R, C, E, kk⟩ => ?_
    refine ⟨R, C, E, fun u C1 H1 c1 E1 r1 => ⟨R, C1, E1, fun v C2 H2 c2 E2 r2 => ?_⟩⟩
    cases r1; cases r2
    refine ⟨i, j, rfl, rfl, f i j, rfl, ?_⟩
    rw [q, if_neg Bool.false_ne_true]
    exact ⟨false, rfl, kk C2 H2 (c1.trans c2) E2⟩
theorem jt_lele {i j k : Int} (ha : JE T a e0 e1 (.d (.int i))) (hb : JE T b e1 e2 (.d (.int j))) (hc : decide (i ≤ j) = true → JE T c e2 e2 (.d (.int k))) (hm : lastMarks [.LtE, .LtE] [b, c] = false := by with_unfolding_all rfl) : JT T (.Compare a [.LtE, .LtE] [b, c] pos) e0 e2 (decide (i ≤ j) && decide (j ≤ k)) :=
  jt_chI (f := fun i j => decide (i ≤ j)) (g := fun i j => decide (i ≤ j)) (fun X _ => op_le) (fun X _ => op_le) ha hb hc hm
theorem jt_lelt {i j k : Int} (ha : JE T a e0 e1 (.d (.int i))) (hb : JE T b e1 e2 (.d (.int j))) (hc : decide (i ≤ j) = true → JE T c e2 e2 (.d (.int k))) (hm : lastMarks [.LtE, .Lt] [b, c] = false := by with_unfolding_all rfl) : JT T (.Compare a [.LtE, .Lt] [b, c] pos) e0 e2 (decide (i ≤ j) && decide (j < k)) :=
  jt_chI (f := fun i j => decide (i ≤ j)) (g := fun i j => decide (i < j)) (fun X _ => op_le) (fun X _ => op_lt) ha hb hc hm
theorem jt_ltle {i j k : Int} (ha : JE T a e0 e1 (.d (.int i))) (hb : JE T b e1 e2 (.d (.int j))) (hc : decide (i < j) = true → JE T c e2 e2 (.d (.int k))) (hm : lastMarks [.Lt, .LtE] [b, c] = false := by with_unfolding_all rfl) : JT T (.Compare a [.Lt, .LtE] [b, c] pos) e0 e2 (decide (i < j) && decide (j ≤ k)) :=
  jt_chI (f := fun i j => decide (i < j)) (g := fun i j => decide (i ≤ j)) (fun X _ => op_lt) (fun X _ => op_le) ha hb hc hm
theorem jt_ltlt {i j k : Int} (ha : JE T a e0 e1 (.d (.int i))) (hb : JE T b e1 e2 (.d (.int j))) (hc : decide (i < j) = true → JE T c e2 e2 (.d (.int k))) (hm : lastMarks [.Lt, .Lt] [b, c] = false := by with_unfolding_all rfl) : JT T (.Compare a [.Lt, .Lt] [b, c] pos) e0 e2 (decide (i < j) && decide (j < k)) :=
  jt_chI (f := fun i j => decide (i < j)) (g := fun i j => decide (i < j)) (fun X _ => op_lt) (fun X _ => op_lt) ha hb hc hm
end
end J
namespace J
open PySem L2 PySem.Spec PyProof.Rows PySem.W
section
variable {T : TC} {a b c e : Expr} {es : List Expr} {env e0 e1 e2 e3 : Env'} {pos p p1 p2 p3 : Pos} {x y z : PyData} {ds : List PyData} {K : PySem.W.Frag} {R C C' H H' : Hp} {σ : L2.St} {v : V} {α β γ : Type} {enc : α → PyData} {dec : β → PyData}
/-! ### xs * n -/
def repX (xs : List α) (n : Int) : List α := (List.replicate n.toNat xs).flatten
theorem repX_map (f : α → β) (xs : List α) (n : Int) : repX (xs.map f) n = (repX xs n).map f := by
  unfold repX; rw [List.map_flatten, List.map_replicate]
theorem rps_rep {vs : List V} {xs : List PyData} (r : Rps K C vs xs) : ∀ n : Nat, Rps K C (List.replicate n vs).flatten (List.replicate n xs).flatten
  | 0 => .nil
  | n + 1 => by
    rw [List.replicate_succ, List.replicate_succ, List.flatten_cons, List.flatten_cons]
    exact r.append (rps_rep r n)
def repOk (n : Nat) (k : Int) : Prop := -(2 ^ 63) ≤ k ∧ k < 2 ^ 63 ∧ n * k.toNat ≤ 16777216
theorem rep_len (xs : List α) (k : Int) : (repX xs k).length = xs.length * k.toNat := by
  unfold repX
  rw [List.length_flatten, List.map_replicate, List.sum_replicate_nat, Nat.mul_comm]
theorem je_repL {xs : List α} {k : Int} (h : JE2 T a b e0 e2 (.list (xs.map enc)) (.int k)) (hk : repOk xs.length k) : JE T (.BinOp a .Mult b pos) e0 e2 (.o (.list ((repX xs k).map enc))) :=
  je_bin (r := fun _ => rRep) (fun X _ => op_rep) h fun R C H env σ u v Q E hu hv kk => by
    obtain ⟨p, vs, rfl, h1, l1, r1⟩ := rb_lst E hu
    have := rb_int E hv
    subst this
    obtain ⟨k1, k2, k3⟩ := hk
    have el := r1.len
    rw [List.length_map] at el
    refine ⟨p, k, vs, rfl, rfl, h1, k1, k2, by rw [sizeLine_eq, el]; exact k3, fun t ht => ?_⟩
    have r2 := rps_rep r1 k.toNat
    have e2 : (List.replicate k.toNat (xs.map enc)).flatten = (repX xs k).map enc := by rw [← repX_map]; rfl
    rw [e2] at r2
    obtain ⟨E', r⟩ := E.freshO ht (by rw [r2.len, List.length_map, rep_len]; exact k3) r2
    exact kk _ C _ (Ex.refl C) E' r
def repOkT (n : Nat) (k : Int) : Prop := 0 < n ∧ n ≤ 1000 ∧ 2 ≤ k ∧ k ≤ 1000
theorem je_repT {xs : List α} {k : Int} (h : JE2 T a b e0 e2 (.tuple (xs.map enc)) (.int k)) (hk : repOkT xs.length k) : JE T (.BinOp a .Mult b pos) e0 e2 (.d (.tuple ((repX xs k).map enc))) :=
  je_bin (r := fun K => rRepT K) (fun X _ => op_repT) h fun R C H env σ u v Q E hu hv kk => by
    obtain ⟨p, vs, rfl, h1, c1, l1, r1⟩ := rb_tup E hu
    have := rb_int E hv
    subst this
    obtain ⟨k0, k1, k2, k3⟩ := hk
    have el := r1.len
    rw [List.length_map] at el
    refine ⟨p, k, vs, rfl, rfl, h1, fun q => by subst q; simp at el; omega, k2, k3, by omega, fun t ht => ?_⟩
    have r2 := rps_rep r1 k.toNat
    have e2 : (List.replicate k.toNat (xs.map enc)).flatten = (repX xs k).map enc := by rw [← repX_map]; rfl
    rw [e2] at r2
    obtain ⟨c, E', r⟩ := E.freshT ht (by
      rw [r2.len, List.length_map, rep_len]
      have h5 : k.toNat ≤ 1000 := by omega
      have := Nat.mul_le_mul k1 h5
      show _ ≤ 16777216
      omega) r2
    exact kk _ _ _ c E' r
/-! ### xs.index(x) of a list as a value -/
structure PlainE (o : Expr) (nm : Str) (apos : Pos) (e : Expr) (es : List Expr) (cpos : Pos) : Prop where
  base : ∀ v : Env, attributeBase o nm v (eval o v) = eval o v
  few : ∀ v : Env, ((backTo cpos (starEach (e :: es) v)).all (fun x => !x.1) && (backToKw cpos (keywordEach [] v)).all (fun x => x.1.isSome)
      && decide ((e :: es).length + ([] : List Keyword).length + (if ([] : List Keyword).isEmpty then 0 else 1) < 30)) = true
  line : (apos.endLine == cpos.line) = true
  hs : ∀ v : Env, starEach (e :: es) v = (false, eval e v) :: starEach es v
  plain : ∀ v : Env, (backTo cpos (starEach es v)).any (·.1) = false
def idxL [DecidableEq α] (xs : List α) (x : α) : Int := (xs.findIdx fun y => decide (y = x) : Nat)
theorem je_index [DecidableEq α] {xs : List α} {x : α} {o : Expr} {apos : Pos} (h : JE T o e0 e1 (.d (.list (xs.map enc)))) (h2 : JE T e e1 e2 (.d (enc x))) (sh : ShE 63 enc) (sh' : ShE 64 enc) (eq : EqE enc) (hx : x ∈ xs)
    (hp : PlainE o "index" apos e [] pos := by exact ⟨fun _ => rfl, fun _ => rfl, rfl, fun _ => rfl, fun _ => rfl⟩) :
    JE T (.Call (.Attribute o "index" apos) [e] [] pos) e0 e2 (.d (.int (idxL xs x))) := fun X hX =>
  (pe_bm PySem.F.plainAttrs_list PySem.F.slot_list_index PySem.F.type_list_index (mt_indexD (by have := hX.room.un; omega)) (h X hX) (pa_cons (h2 X hX) pa_nil (hp.hs X.env)) (hp.base X.env) (hp.few X.env) hp.line (hp.hs X.env) (hp.plain X.env)).wk fun σ H Q ⟨R, C, E, k⟩ => by
    rw [hX.K] at *
    refine ⟨R, C, E, fun u C1 H1 c1 E1 r1 => ?_⟩
    have r1' := r1
    cases r1 with
    | lst q l r =>
    refine ⟨.inl ⟨rfl, _, SqL.of (E1.cH _ _ q)⟩, R, C1, E1, fun w C2 H2 c2 E2 r2 => ?_⟩
    have hr : Rp T.K H2 _ (PyData.list (xs.map enc)) := (r1'.mono c2).mono E2.cH
    have hy : Rp T.K H2 w (enc x) := r2.mono E2.cH
    have s1 : shN 64 (.list (xs.map enc)) = true := by
      rw [shN, List.all_eq_true]; intro d hd
      obtain ⟨y, _, rfl⟩ := List.mem_map.mp hd; exact sh y
    have hlt : (xs.findIdx fun y => decide (y = x)) < xs.length := List.findIdx_lt_length_of_exists ⟨x, hx, by simp⟩
    refine ⟨_, w, enc x, xs.map enc, xs.findIdx (fun y => decide (y = x)), enc (xs[xs.findIdx fun y => decide (y = x)]), rfl, rfl, hr.dp' s1, hy.dp' (sh' x), hr.shaped s1, hy.shaped (sh' x), by simp [List.getElem?_eq_getElem hlt], ?_, fun m z' hm hz => ?_, k _ C2 H2 (c1.trans c2) E2 (.int _)⟩
    · rw [eq]; exact List.findIdx_getElem (p := fun y => decide (y = x)) (w := hlt)
    · rw [List.getElem?_map] at hz
      have hml : m < xs.length := by omega
      rw [List.getElem?_eq_getElem hml] at hz
      cases hz
      rw [eq]
      have := List.not_of_lt_findIdx hm
      simpa using this
/-! ### is True, is False; a text in a text -/
theorem cj_isB {x y : Bool} (h : JE2 T a b e0 e2 (.bool x) (.bool y)) : CJ T .Is a b e0 e2 (decide (x = y)) :=
  cj_mk (r := fun _ => fun x y H Q => ∃ a b, x = .bl a ∧ y = .bl b ∧ Q (.bl (decide (a = b))) H) (fun X _ => op_is_bl) h fun R C H env σ u v Q E hu hv k => ⟨x, y, rb_bl E hu, rb_bl E hv, k _ C H (Ex.refl C) E (.bl _)⟩
theorem cj_isnotB {x y : Bool} (h : JE2 T a b e0 e2 (.bool x) (.bool y)) : CJ T .IsNot a b e0 e2 (!decide (x = y)) :=
  cj_mk (r := fun _ => fun x y H Q => ∃ a b, x = .bl a ∧ y = .bl b ∧ Q (.bl (!decide (a = b))) H) (fun X _ => op_isnot_bl) h fun R C H env σ u v Q E hu hv k => ⟨x, y, rb_bl E hu, rb_bl E hv, k _ C H (Ex.refl C) E (.bl _)⟩
def subS (i j : Str) : Bool := !(Builtin.Str.occurrences j i 0 j.length 1).isEmpty
theorem cj_inS {i j : Str} (h : JE2 T a b e0 e2 (.str i) (.str j)) (hm : behindInMarks .In b = false := by rfl) : CJ T .In a b e0 e2 (subS i j) :=
  cj_mk (r := fun _ => fun x y H Q => ∃ i j, x = .str i ∧ y = .str j ∧ Q (.bl (!(Builtin.Str.occurrences j i 0 j.length 1).isEmpty)) H) (fun X _ => op_in_str) h (fun R C H env σ u v Q E hu hv k => ⟨i, j, rb_str E hu, rb_str E hv, k _ C H (Ex.refl C) E (.bl _)⟩) hm
end
end J
namespace J
open PySem L2 PySem.Spec PyProof.Rows PySem.W
section
variable {T : TC} {a b c e : Expr} {es : List Expr} {env e0 e1 e2 e3 : Env'} {pos p p1 p2 p3 : Pos} {x y z : PyData} {ds : List PyData} {K : PySem.W.Frag} {R C C' H H' : Hp} {σ : L2.St} {v : V} {α β γ : Type} {enc : α → PyData} {tg iter elt : Expr} {ifs : List Expr} {scope : Scope}
theorem je_lcFq {S : Type} {xs : List α} (m : List β × S) (own : List (Str × Nat)) (Ev : S → Env') (dec : β → PyData) (c : S → α → Bool × S) (g : α → β) (s0 : S) (hm : m = filS c g s0 xs) (hi : JI T tg iter e0 (Ev s0) (xs.map enc)) (hnd : T.N.Nodup) (ok : blkC T.N T.sc scope own = true) (hu : ∀ s, unk (Ev s) (own.map (·.2)))
    (turn : ∀ s x, x ∈ xs → LcF T scope tg elt ifs own Ev (enc x) s (c s x) (dec (g x))) (hs : ∀ (v : Env) x, foldedSetIterable iter v x = pure x := by intro _ _; rfl) : JE T (.ListComp elt [⟨tg, iter, ifs, 0⟩] scope pos) e0 (Ev m.2) (.o (.list (m.1.map dec))) := by
  subst hm; exact je_lcF own Ev dec c g s0 hi hnd ok hu turn hs
theorem lcf_let {S : Type} {own : List (Str × Nat)} {Ev : S → Env'} {d w : PyData} {s : S} {γ : Type} {v : γ} {k : γ → Bool × S} (h : ∀ q, q = v → LcF T scope tg elt ifs own Ev d s (k q) w) : LcF T scope tg elt ifs own Ev d s (Let v k) w := h v rfl
theorem cj_eqA (h : JE2 T a b e0 e2 x y) (k : shN 64 x = true ∧ shN 64 y = true) : CJ T .Eq a b e0 e2 (PyData.eqv x y) := cj_eqD h k.1 k.2
theorem cj_neA (h : JE2 T a b e0 e2 x y) (k : shN 64 x = true ∧ shN 64 y = true) : CJ T .NotEq a b e0 e2 (!PyData.eqv x y) := cj_neD h k.1 k.2
/-! ### names of the module that hold data -/
structure Glb (K : PySem.W.Frag) (mg : Str → Option Value) (nm : Str) (d : PyData) : Prop where
  ex : ∃ v u, mg nm = some u ∧ RelV v u ∧ ∀ C, Rp K C v d
theorem je_globd {nm : Str} (hg : glB T.sc nm = true) (g : Glb T.K T.mg nm x) (hd : (nm == ("__debug__" : Str)) = false := by decide) : JE T (.Name nm pos) env env (.d x) := by
  obtain ⟨v, u, h1, h2, h3⟩ := g.ex
  exact je_glob hg h1 h2 h3 hd
theorem glb_str {mg : Str → Option Value} {nm s : Str} {t : Tok} (m : mg nm = some (.str s t)) (ok : sOk s) : Glb K mg nm (.str s) := ⟨.str s, _, m, ⟨t, rfl⟩, fun C => .str ok⟩
theorem glb_int {mg : Str → Option Value} {nm : Str} {i : Int} {t : Tok} (m : mg nm = some (.int i t)) : Glb K mg nm (.int i) := ⟨.int i, _, m, ⟨t, rfl⟩, fun C => .int i⟩
theorem glb_strs {mg : Str → Option Value} {nm : Str} {a : Addr} {dd : Option Addr} {its : List Value} {n : Nat} {sl : Array (Option Value)} {xs : List Str} (m : mg nm = some (.ref a)) (l : K.lookup a = some ⟨.type "tuple", dd, .seq its.toArray n, sl⟩) (hv : Vals (xs.map V.str) its) (hl : its.length ≤ 1000) (ok : ∀ x ∈ xs, sOk x) : Glb K mg nm (.tuple (xs.map .str)) :=
  ⟨.ref a, .ref a, m, rfl, fun C => by
    have hlen : xs.length = its.length := by have := hv.length; simpa using this
    refine .tup (.inr ⟨_, its.toArray, n, l, rfl, rfl, ?_, by simpa using hv⟩) ?_ (Rps.ofStrs ok)
    · rw [List.size_toArray, sizeLine_eq]; omega
    · rw [List.length_map]; show _ ≤ 16777216; omega⟩
theorem glb_ints {mg : Str → Option Value} {nm : Str} {a : Addr} {dd : Option Addr} {its : List Value} {n : Nat} {sl : Array (Option Value)} {xs : List Int} (m : mg nm = some (.ref a)) (l : K.lookup a = some ⟨.type "tuple", dd, .seq its.toArray n, sl⟩) (hv : Vals (xs.map V.int) its) (hl : its.length ≤ 1000) : Glb K mg nm (.tuple (xs.map .int)) :=
  ⟨.ref a, .ref a, m, rfl, fun C => by
    have hlen : xs.length = its.length := by have := hv.length; simpa using this
    refine .tup (.inr ⟨_, its.toArray, n, l, rfl, rfl, ?_, by simpa using hv⟩) ?_ Rps.ints
    · rw [List.size_toArray, sizeLine_eq]; omega
    · rw [List.length_map]; show _ ≤ 16777216; omega⟩
end
end J
namespace J
open PySem L2 PySem.Spec PyProof.Rows PySem.W
/-- whether x is one of ys -/
def inB {α : Type} [DecidableEq α] (x : α) (ys : List α) : Bool := decide (x ∈ ys)
@[simp] theorem inB_iff {α : Type} [DecidableEq α] {x : α} {ys : List α} : inB x ys = true ↔ x ∈ ys := by unfold inB; simp
theorem inB_dec {α : Type} [DecidableEq α] {x : α} {ys : List α} [Decidable (x ∈ ys)] : inB x ys = decide (x ∈ ys) := by unfold inB; congr
theorem inB_not {α : Type} [DecidableEq α] {x : α} {ys : List α} : inB x ys = false ↔ x ∉ ys := by unfold inB; simp
section
variable {T : TC} {a b c e : Expr} {es : List Expr} {env e0 e1 e2 e3 : Env'} {pos p p1 p2 p3 : Pos} {α β : Type} {enc : α → PyData} {xs : List α}
theorem je_sortLc (hg : glB T.sc "sorted" = true) (hm : T.mg "sorted" = none) (ha : JE T e e0 e1 (.b (.list (xs.map enc)))) (al : AlkE enc) (so : Sortable (xs.map enc)) (sh : shN 64 (.list (xs.map enc)) = true := by simp [shN]) (hp : Plain e [] pos := by exact ⟨fun _ => rfl, fun _ => rfl⟩) : JE T (.Call (.Name "sorted" p) [e] [] pos) e0 e1 (.o (.list ((pySort enc xs).map enc))) :=
  je_bi1 (r := rSortD) (fun X hX => cr_sortD (room_units hX)) hg hm (by decide +kernel) ha (fun R C H env σ v Q E hv k => by
    obtain ⟨p, vs, rfl, h1, l1, r1⟩ := rb_lst E hv
    obtain ⟨q1, q2⟩ := shN_all (n := 63) sh
    have aa := al.all xs
    refine ⟨p, vs, xs.map enc, rfl, SqL.of h1, (r1.mono E.cH).dps q1, aa.1, so, by omega, fun q hq => ?_⟩
    · have e1 : (vs.zip (xs.map enc)).map (·.2) = xs.map enc := List.map_snd_zip (by rw [r1.len]; exact Nat.le_refl _)
      have key : ((vs.zip (xs.map enc)).mergeSort (dataLe false (·.2))).map (·.2) = (pySort enc xs).map enc := by
        rw [sort_maps (r := dataLe false fun b : V × PyData => b.2) (s := dataLe false fun d => d) (fun b : V × PyData => b.2) (fun _ _ _ _ => rfl), e1]
        unfold pySort
        rw [sort_maps (r := dataLe false enc) (s := dataLe false fun d => d) enc (fun _ _ _ _ => rfl)]
      have rr := rps_of_pairs (zs := (vs.zip (xs.map enc)).mergeSort (dataLe false (·.2))) (K := T.K) (C := C) fun b hb => rps_pairs r1 b (List.mem_mergeSort.mp hb)
      rw [key] at rr
      obtain ⟨E', r⟩ := E.freshO hq (by rw [List.length_map, List.length_mergeSort, List.length_zip]; omega) rr
      exact k _ C _ (Ex.refl C) E' r) hp
section
variable [DecidableEq α] {x : α} {ys : List α}
theorem cj_inLB (h : JE2 T a b e0 e2 (enc x) (.list (ys.map enc))) (sh : ShE 63 enc) (sh' : ShE 64 enc) (eq : EqE enc) (hm : behindInMarks .In b = false := by rfl) : CJ T .In a b e0 e2 (inB x ys) := cj_inL' h sh sh' eq hm
theorem cj_notInLB (h : JE2 T a b e0 e2 (enc x) (.list (ys.map enc))) (sh : ShE 63 enc) (sh' : ShE 64 enc) (eq : EqE enc) (hm : behindInMarks .NotIn b = false := by rfl) : CJ T .NotIn a b e0 e2 (!inB x ys) := cj_notInL' h sh sh' eq hm
theorem cj_inTB (h : JE2 T a b e0 e2 (enc x) (.tuple (ys.map enc))) (fl : FlE enc) (eq : EqE enc) (hm : behindInMarks .In b = false := by rfl) : CJ T .In a b e0 e2 (inB x ys) := cj_inT' h fl eq hm
theorem cj_notInTB (h : JE2 T a b e0 e2 (enc x) (.tuple (ys.map enc))) (fl : FlE enc) (eq : EqE enc) (hm : behindInMarks .NotIn b = false := by rfl) : CJ T .NotIn a b e0 e2 (!inB x ys) := cj_notInT' h fl eq hm
end
end
end J
namespace J
open PySem L2 PySem.Spec PyProof.Rows PySem.W
/-! ### min(a, b), max(a, b) of data -/
section
variable {prog : Program} {w : World} {A : Around} {E : Value → Shared → Prop} {s : Shared}
theorem min_twoH {a b : Value} {Q : Value → Shared → Prop}
    (h : wpAny (model prog w) A.in1 (pyIter (.ref s.heap.objs.size)) (fun it s₂ => ∃ I fp wr G n P St H bt, it = .ref I ∧ WalksS prog w A.in1 I fp wr G n P St ∧ St 0 s₂ ∧ (∀ b ∈ fp, b < s₂.heap.objs.size) ∧ 0 < n ∧
      (∀ b o, H.get? b = some o → b ∉ wr) ∧ (∀ b o, H.get? b = some o → s₂.heap.get? b = some o) ∧ CmpIn prog w A.in1 .Lt H P bt ∧ ∀ v s', P (argBest bt (n - 1)) v → Moved wr G s₂ s' → Q v s') E
      { s with heap := s.heap.push { cls := .type "tuple", data := .seq #[a, b] } }) :
    wpAny (model prog w) A (call (.builtin "min") [a, b]) Q E s := by
  have hname : (toString "min" ++ toString ".loop" : String) = "min.loop" := by decide
  refine call_function_tree F.kind_min F.plain_min F.entry_min (F.args_min2 _ _) ?_
  show wpAny _ A.in1 (Builtin.Builtins.bindParams "min" ["key", "default"] 0 ⟨[], []⟩ >>= _) _ _ s
  refine wpAny_bind (wpAny_of_eq (show Builtin.Builtins.bindParams "min" ["key", "default"] 0 ⟨[], []⟩ = pure [none, none] from rfl) ?_)
  show wpAny _ A.in1 (newTuple [a, b] >>= _) _ _ s
  refine wpAny_bind (wpAny_newObj_type ?_)
  refine wpAny_bind (wpAny_mono h (fun it s₂ h₂ => ?_) fun _ _ e => e)
  obtain ⟨I, fp, wr, G, n, P, St, H, bt, rfl, W, hst, hfp, hn, hw, hkeep, hcmp, hQ⟩ := h₂
  refine wpAny_bind (wpAny_newObj_type ?_)
  have hSf : s₂.heap.objs.size ∉ fp := fun hm => Nat.lt_irrefl _ (hfp _ hm)
  rw [hname]
  refine wpAny_pure ⟨plainId_quiet F.plain_min_loop _, codeAny_min_loop_firstH W H hw bt hcmp s₂.heap.objs.size hSf (fresh_in hkeep) _ hn (fun b o e => Heap.get?_push_of_some _ (hkeep b o e)) (W.frame 0 s₂ _ s₂.toks hst (Nat.le_refl _) fun b _ o e => Heap.get?_push_of_some _ e) (Heap.get?_push_size _ rfl) fun v s' hP hm => ?_⟩
  exact hQ v s' hP (Moved.drop_new (tk := s₂.toks) hm (Nat.le_refl _))
theorem max_twoH {a b : Value} {Q : Value → Shared → Prop}
    (h : wpAny (model prog w) A.in1 (pyIter (.ref s.heap.objs.size)) (fun it s₂ => ∃ I fp wr G n P St H bt, it = .ref I ∧ WalksS prog w A.in1 I fp wr G n P St ∧ St 0 s₂ ∧ (∀ b ∈ fp, b < s₂.heap.objs.size) ∧ 0 < n ∧
      (∀ b o, H.get? b = some o → b ∉ wr) ∧ (∀ b o, H.get? b = some o → s₂.heap.get? b = some o) ∧ CmpIn prog w A.in1 .Gt H P bt ∧ ∀ v s', P (argBest bt (n - 1)) v → Moved wr G s₂ s' → Q v s') E
      { s with heap := s.heap.push { cls := .type "tuple", data := .seq #[a, b] } }) :
    wpAny (model prog w) A (call (.builtin "max") [a, b]) Q E s := by
  have hname : (toString "max" ++ toString ".loop" : String) = "max.loop" := by decide
  refine call_function_tree F.kind_max F.plain_max F.entry_max (F.args_max2 _ _) ?_
  show wpAny _ A.in1 (Builtin.Builtins.bindParams "max" ["key", "default"] 0 ⟨[], []⟩ >>= _) _ _ s
  refine wpAny_bind (wpAny_of_eq (show Builtin.Builtins.bindParams "max" ["key", "default"] 0 ⟨[], []⟩ = pure [none, none] from rfl) ?_)
  show wpAny _ A.in1 (newTuple [a, b] >>= _) _ _ s
  refine wpAny_bind (wpAny_newObj_type ?_)
  refine wpAny_bind (wpAny_mono h (fun it s₂ h₂ => ?_) fun _ _ e => e)
  obtain ⟨I, fp, wr, G, n, P, St, H, bt, rfl, W, hst, hfp, hn, hw, hkeep, hcmp, hQ⟩ := h₂
  refine wpAny_bind (wpAny_newObj_type ?_)
  have hSf : s₂.heap.objs.size ∉ fp := fun hm => Nat.lt_irrefl _ (hfp _ hm)
  rw [hname]
  refine wpAny_pure ⟨plainId_quiet F.plain_max_loop _, codeAny_max_loop_firstH W H hw bt hcmp s₂.heap.objs.size hSf (fresh_in hkeep) _ hn (fun b o e => Heap.get?_push_of_some _ (hkeep b o e)) (W.frame 0 s₂ _ s₂.toks hst (Nat.le_refl _) fun b _ o e => Heap.get?_push_of_some _ e) (Heap.get?_push_size _ rfl) fun v s' hP hm => ?_⟩
  exact hQ v s' hP (Moved.drop_new (tk := s₂.toks) hm (Nat.le_refl _))
theorem min_two_data {a b : Value} {x y : PyData} {as : List Addr} {Q : Value → Shared → Prop} (hh : A.handled = none) (hr : ReadsAll s.heap [a, b] [x, y] as) (ha : AlikeAll [x, y]) (hu : A.units + 1 + PyData.depthAll [x, y] < cLine)
    (h : ∀ h' tk, (∀ b o, s.heap.get? b = some o → h'.get? b = some o) → Q (if dataLt y x = true then b else a) { s with heap := h', toks := tk }) : wpAny (model prog w) A (call (.builtin "min") [a, b]) Q E s := by
  have hT : (s.heap.push { cls := .type "tuple", data := .seq #[a, b] }).IsTuple s.heap.objs.size #[a, b] := ⟨_, Heap.get?_push_size _ rfl, rfl, 0, rfl⟩
  have hr1 : ReadsAll (s.heap.push { cls := .type "tuple", data := .seq #[a, b] }) (#[a, b] : Array Value).toList [x, y] as := ReadsAll.keeps (fun b o e => Heap.get?_push_of_some _ e) hr
  refine min_twoH (iter_tupleW (s := { s with heap := s.heap.push { cls := .type "tuple", data := .seq #[a, b] } }) (A := A.in1) hh hT fun s₂ e W st hfp hw hk => ?_)
  refine ⟨_, _, _, _, _, _, _, s.heap.push { cls := .type "tuple", data := .seq #[a, b] }, _, rfl, W, st, hfp, by simp, hw, hk, cmpIn_lt (s := { s with heap := s.heap.push { cls := .type "tuple", data := .seq #[a, b] } }) (A := A.in1) hr1 ha (by show A.units + 1 + _ < _; exact hu), fun v s' hP m => ?_⟩
  obtain ⟨h', tk, rfl, hk'⟩ := moved_old (s := { s with heap := s.heap.push { cls := .type "tuple", data := .seq #[a, b] } }) e rfl m
  have := h h' tk fun b o e => hk' b o (Heap.get?_push_of_some _ e)
  cases q : dataLt y x with
  | true =>
    rw [q, if_pos rfl] at this
    have e1 : argBest (fun i j => dataLt ([x, y].getD i .none) ([x, y].getD j .none)) ((#[a, b] : Array Value).size - 1) = 1 := by simp [argBest, q]
    rw [e1] at hP
    have : v = b := by simpa using hP.symm
    subst this; assumption
  | false =>
    rw [q, if_neg Bool.false_ne_true] at this
    have e1 : argBest (fun i j => dataLt ([x, y].getD i .none) ([x, y].getD j .none)) ((#[a, b] : Array Value).size - 1) = 0 := by simp [argBest, q]
    rw [e1] at hP
    have : v = a := by simpa using hP.symm
    subst this; assumption
end
section
variable {X : Cx}
def rMin2 (K : PySem.W.Frag) : List V → Hp → VK → Prop := fun vs H Q => ∃ u v x y, vs = [u, v] ∧ Dp K H u x ∧ Dp K H v y ∧ AlikeAll [x, y] ∧ PyData.depthAll [x, y] ≤ 64 ∧ Q (if dataLt y x = true then v else u) H
theorem cr_min2D (hc : X.calm = true) (hu : X.A.units + 200 < cLine) : CallR X (.builtin "min") (rMin2 X.K) := by
  intro pins s σ H vs us Q I r h
  obtain ⟨u, v, x, y, rfl, hx, hy, al, dp, q⟩ := h
  obtain ⟨u1, u2, rfl, r1, r2⟩ := vals2 r
  obtain ⟨as, hr⟩ := Dp.readsAll I [x, y] [u, v] [u1, u2] (.cons hx (.cons hy .nil)) (.cons r1 (.cons r2 .nil))
  refine min_two_data (I.ok.hd hc) hr al (by omega) fun h' tk k => ⟨_, H, I.kept k, ?_, q⟩
  cases dataLt y x
  · exact r1
  · exact r2
end
section
variable {T : TC} {a b c e : Expr} {e0 e1 e2 : Env'} {pos p : Pos} {α : Type} {enc : α → PyData} {x y : α}
def min2 (enc : α → PyData) (x y : α) : α := if ltB enc y x = true then y else x
theorem je_min2E (hg : glB T.sc "min" = true) (hm : T.mg "min" = none) (ha : JA T [a, b] e0 e1 [enc x, enc y]) (al : AlkE enc) (sh : ShE 63 enc) (hp : Plain a [b] pos := by exact ⟨fun _ => rfl, fun _ => rfl⟩) : JE T (.Call (.Name "min" p) [a, b] [] pos) e0 e1 (.d (enc (min2 enc x y))) :=
  je_bi (r := rMin2) (fun X hX => cr_min2D hX.calm (room_units hX)) hg hm (by decide +kernel) ha (fun R C H env σ vs Q E hv k => by
    cases hv with
    | cons h1 h2 =>
    cases h2 with
    | cons h2 h3 =>
    cases h3
    have s1 := shN_of (sh x)
    have s2 := shN_of (sh y)
    have hal := al.all [x, y]
    refine ⟨_, _, enc x, enc y, rfl, (h1.mono E.cH).dp s1.1, (h2.mono E.cH).dp s2.1, hal, depthAll_le (by
      intro z hz
      rcases List.mem_cons.mp hz with rfl | hz
      · have := s1.2; omega
      · rw [List.mem_singleton] at hz; subst hz; have := s2.2; omega), k _ C H (Ex.refl C) E ?_⟩
    unfold min2 ltB
    split
    · exact h2
    · exact h1) hp
end
end J
namespace J
open PySem L2 PySem.Spec PyProof.Rows PySem.W
section
variable {T : TC} {a b c e : Expr} {es : List Expr} {env e0 e1 e2 e3 : Env'} {pos p p1 p2 p3 : Pos} {x y z : PyData}
/-- what is known behind may be forgotten -/
theorem je_leo (h : JE T e e0 e1 (.d x)) (l : Le e2 e1) : JE T e e0 e2 (.d x) := fun X hX => (h X hX).wk fun σ H Q ⟨R, C, E, k⟩ => ⟨R, C, E, fun v C' H' c E' r => k v C' H' c (E'.le l) r⟩
theorem je_oneU {op} (h : JE T a e0 e1 (.d x)) (l : Le e2 e1) : JE T (.BoolOp op [a] pos) e0 e2 (.d x) := je_leo (je_one h) l
theorem je_andU {c c' : Bool} {rest : List Expr} (h : JE T a e0 e1 (.d (.bool c))) (h' : c = true → JE T (.BoolOp .And (b :: rest) pos) e1 e2 (.d (.bool c'))) (l : Le e2 e1) : JE T (.BoolOp .And (a :: b :: rest) pos) e0 e2 (.d (.bool (c && c'))) := fun X hX => by
  cases c with
  | true =>
    refine (pe_and (h X hX) (h' rfl X hX)).wk fun σ H Q ⟨R, C, E, k⟩ => ⟨R, C, E, fun v C1 H1 c1 E1 r1 => ?_⟩
    cases r1
    refine ⟨true, rfl, ?_⟩
    simp only [if_true]
    exact ⟨R, C1, E1, fun w C2 H2 c2 E2 r2 => k w C2 H2 (c1.trans c2) E2 r2⟩
  | false =>
    refine (pe_and (h X hX) pe_dead).wk fun σ H Q ⟨R, C, E, k⟩ => ⟨R, C, E, fun v C1 H1 c1 E1 r1 => ?_⟩
    cases r1
    refine ⟨false, rfl, ?_⟩
    simp only [Bool.false_eq_true, if_false]
    exact k _ C1 H1 c1 (E1.le l) (.bl false)
end
end J
namespace J
open PySem L2 PySem.Spec PyProof.Rows PySem.W
/-! ### tuple * n for every n -/
theorem tuple_mul1 (l : Addr) (items : Array Value) (n : Nat) (dd : Option Addr) (sl : Array (Option Value)) (u : Tok) :
    Meets (Builtin.«tuple.__mul__» ⟨[.ref l, .int 1 u], []⟩) (fun _ R s => s.heap.get? l = some { cls := .type "tuple", dict := dd, data := .seq items n, slots := sl } ∧
      R (.ok (.ret (Value.ref l))) s) :=
  .of_wp fun prog w A R s h => by
    obtain ⟨hp, g, d, tk, os⟩ := s
    obtain ⟨hl, h⟩ := h
    have f1 := AutoSeq1.idx_int
    have c1 : (items.isEmpty || (1 : Int) == 1) = true := by rw [Bool.or_eq_true]; exact .inr rfl
    have c2 : (decide ((1 : Int) < -(2 ^ 63)) || decide ((1 : Int) ≥ 2 ^ 63)) = false := by decide
    wp_walk using wpAny_loadPart' hl
    repeat (first
      | (refine wpAny_ite_false (decide_eq_false (by rw [c2]; exact Bool.false_ne_true)) ?_; wp_walk using wpAny_loadPart' hl)
      | (refine wpAny_ite_true (decide_eq_true c1) ?_; wp_walk using wpAny_loadPart' hl))
    exact ⟨_, rfl, h⟩
theorem tuple_mul0 (l : Addr) (items : Array Value) (n : Nat) (dd : Option Addr) (sl : Array (Option Value)) (u : Tok) (hi : items.isEmpty = false) :
    Meets (Builtin.«tuple.__mul__» ⟨[.ref l, .int 0 u], []⟩) (fun _ R s => s.heap.get? l = some { cls := .type "tuple", dict := dd, data := .seq items n, slots := sl } ∧
      R (.ok (.ret (Value.ref s.heap.objs.size))) { s with heap := s.heap.push { cls := Value.type "tuple", data := Data.seq #[] }, toks := s.toks }) :=
  .of_wp fun prog w A R s h => by
    obtain ⟨hp, g, d, tk, os⟩ := s
    obtain ⟨hl, h⟩ := h
    have f1 := AutoSeq1.idx_int
    have c1 : (items.isEmpty || (0 : Int) == 1) = false := by rw [hi]; rfl
    have c0 : (decide ((0 : Int) < -(2 ^ 63)) || decide ((0 : Int) ≥ 2 ^ 63)) = false := by decide
    have c2 : (decide ((0 : Int) ≤ 0) || items.isEmpty) = true := by rw [Bool.or_eq_true]; exact .inl rfl
    wp_walk using wpAny_loadPart' hl
    repeat (first
      | (refine wpAny_ite_false (decide_eq_false (by rw [c0]; exact Bool.false_ne_true)) ?_; wp_walk using wpAny_loadPart' hl)
      | (refine wpAny_ite_false (decide_eq_false (by rw [c1]; exact Bool.false_ne_true)) ?_; wp_walk using wpAny_loadPart' hl)
      | (refine wpAny_ite_true (decide_eq_true c2) ?_; wp_walk using wpAny_loadPart' hl))
    exact ⟨_, rfl, h⟩
def rRep1 (K : PySem.W.Frag) : R2 := fun x y H Q => ∃ l xs, x = .ref l ∧ y = .int 1 ∧ SqT K H l xs ∧ Q (.ref l) H
def rRep0 (K : PySem.W.Frag) : R2 := fun x y H Q => ∃ l xs, x = .ref l ∧ y = .int 0 ∧ SqT K H l xs ∧ xs ≠ [] ∧ ∀ p, H p = none → Q (.ref p) (upd H p (.tup []))
section
variable {X : Cx}
theorem op_rep1 : OpR X (binaryOp .Mult) (rRep1 X.K) := by
  intro pins s σ H x y v u Q I rx ry h
  obtain ⟨l, xs, rfl, rfl, hT, q⟩ := h
  cases rx
  obtain ⟨t, rfl⟩ := ry
  obtain ⟨its, r, ⟨⟨cls, dd, data, sl⟩, ho, hc, n, hd⟩, hs⟩ := I.tuple hT
  simp only at hc hd
  subst hc hd
  refine wpAny_binaryOp_repeat_ref (T := "tuple") (U := "int") (by decide) ⟨_, ho, rfl⟩ (fun s' => typeIs_int s' 1 t) noFill_tuple_mul F.fills_int_mul F.slot_int_rmul repeat_tuple F.slot_int_index.lookup
    (call_meets F.slot_int_rmul (typeIs_int s 1 t) F.entry_int_rmul (F.args_int_rmul_2 _ _) (int_rmul_tuple 1 t l its.toArray n dd sl)
      ⟨ho, rfl, ⟨_, ho, rfl⟩, call_meets F.slot_tuple_mul ⟨_, ho, rfl⟩ F.entry_tuple_mul (F.args_tuple_mul_2 _ _) (tuple_mul1 l its.toArray n dd sl t) ⟨ho, ?_⟩⟩)
  exact ⟨.ref l, H, I, rfl, q⟩
theorem op_rep0 : OpR X (binaryOp .Mult) (rRep0 X.K) := by
  intro pins s σ H x y v u Q I rx ry h
  obtain ⟨l, xs, rfl, rfl, hT, hne, q⟩ := h
  cases rx
  obtain ⟨t, rfl⟩ := ry
  obtain ⟨its, r, ⟨⟨cls, dd, data, sl⟩, ho, hc, n, hd⟩, hs⟩ := I.tuple hT
  simp only at hc hd
  subst hc hd
  have hi : its.toArray.isEmpty = false := by
    cases its with
    | nil => cases r; exact absurd rfl hne
    | cons a b => rfl
  refine wpAny_binaryOp_repeat_ref (T := "tuple") (U := "int") (by decide) ⟨_, ho, rfl⟩ (fun s' => typeIs_int s' 0 t) noFill_tuple_mul F.fills_int_mul F.slot_int_rmul repeat_tuple F.slot_int_index.lookup
    (call_meets F.slot_int_rmul (typeIs_int s 0 t) F.entry_int_rmul (F.args_int_rmul_2 _ _) (int_rmul_tuple 0 t l its.toArray n dd sl)
      ⟨ho, rfl, ⟨_, ho, rfl⟩, call_meets F.slot_tuple_mul ⟨_, ho, rfl⟩ F.entry_tuple_mul (F.args_tuple_mul_2 _ _) (tuple_mul0 l its.toArray n dd sl t hi) ⟨ho, ?_⟩⟩)
  refine ⟨.ref s.heap.objs.size, _, I.laid (t' := s.toks) (o := .tup []) (fun b ob q => Heap.get?_push_of_some _ q) (Nat.le_refl _) ?_, rfl, q _ (I.hok.fresh (Nat.le_refl _))⟩
  exact ⟨Nat.zero_le _, [], .nil, IsTup.new _ _⟩
end
/-- lists of at most one thing are sorted whatever it is, but None -/
def SortOk (ds : List PyData) : Prop := Sortable ds ∨ (ds.length < 2 ∧ ∀ d, d ∈ ds → d ≠ .none)
section
variable {prog : Program} {w : World} {A : Around} {s : Shared} {β : Type} {R : Value → β → Prop} {enc : β → PyData} {vs : List Value} {bs : List β}
theorem sortsAt_ok {vs : List Value} {ds : List PyData} (e : EachIs (fun v d => ∃ as, Reads s.heap v d as) vs ds) (hal : AllAlike ds) (hk : SortOk ds) (hu : ∀ d, d ∈ ds → A.units + d.depth < cLine) : SortsAt prog w A s (dataKind s.heap ds) vs := by
  rcases hk with hk | ⟨h1, hn⟩
  · exact SortsAt.data e hal hk hu
  · refine ⟨fun v hv => ?_, general', fun E x y a b Q ha hb hq => ?_, fun h2 => absurd h2 (by rw [e.length]; omega)⟩
    · obtain ⟨d, hd, as, r⟩ := e.left v hv
      exact ⟨_, dataKind_some hal hd r⟩
    · obtain ⟨d, as, hd, ra, rfl⟩ := dataKind_inv ha
      obtain ⟨d', as', hd', rb, rfl⟩ := dataKind_inv hb
      have hu' := hu d hd
      exact oneLt_alike (f := false) (fun q => absurd q (by decide)) ra rb (hal d hd d' hd') (hn d hd) (Nat.lt_of_le_of_lt (Nat.add_le_add_left (Nat.min_le_left _ _) _) hu') hq
theorem sorted_dataU {l : Addr} {Q : Value → Shared → Prop} (hl : s.heap.IsList l vs.toArray) (e : EachIs R vs bs) (er : EachIs (fun v b => ∃ as, Reads s.heap v (enc b) as) vs bs) (hal : AllAlike (bs.map enc)) (hk : SortOk (bs.map enc)) (hL : bs.length ≤ sizeLine)
    (hu : ∀ b, b ∈ bs → A.units + 2 + (enc b).depth < cLine) (h : ∀ out, out.length = bs.length → EachIs R out (bs.mergeSort (dataLe false enc)) → Q (.ref (s.heap.objs.size + 1)) { s with heap := sortedAll s.heap vs (List.toArray out) }) :
    wpAny (model prog w) A (call (.builtin "sorted") [.ref l]) Q E' s := by
  have er' : EachIs (fun v b => ∃ as, Reads (sortingHeap (copyHeap s.heap vs) (s.heap.objs.size + 1) vs) v (enc b) as) vs bs := er.mono fun _ _ ⟨as, r⟩ => ⟨as, PyProof.Rows.Reads.keeps (fun _ _ => sorting_copy_old) r⟩
  exact sorted_vals hl (sortsAt_ok (s := { s with heap := sortingHeap (copyHeap s.heap vs) (s.heap.objs.size + 1) vs }) (each_map (R := fun v d => ∃ as, Reads (sortingHeap (copyHeap s.heap vs) (s.heap.objs.size + 1) vs) v d as) enc er') hal hk (bound_map hu)) (by rw [e.length]; exact hL)
    (h _ (by rw [sortVals_length false rfl]; exact e.length) (sortVals_data false e er' hal))
end

section
variable {X : Cx}
def rSortU (K : PySem.W.Frag) : List V → Hp → VK → Prop := fun vs H Q => ∃ (a : Addr) (ys : List V) (ds : List PyData), vs = [.ref a] ∧ SqL K H a ys ∧ DpAll K H ys ds ∧ AllAlike ds ∧ SortOk ds ∧ PyData.depthAll ds ≤ 64 ∧
  ∀ p, H p = none → Q (.ref p) (upd H p (.lst (((ys.zip ds).mergeSort (dataLe false (·.2))).map (·.1))))
theorem cr_sortU (hu : X.A.units + 200 < cLine) : CallR X (.builtin "sorted") (rSortU X.K) := by
  intro pins s σ H xs us Q I rv h
  obtain ⟨a, ys, ds, rfl, hq, hd, al, so, dp, q⟩ := h
  have eu := Vals.ref1 rv
  subst eu
  obtain ⟨its, r, pl, hz⟩ := I.list hq
  obtain ⟨as, ra⟩ := Dp.readsAll I ds ys its hd r
  have hlen : ys.length = ds.length := dpAll_len hd
  have e1 : (ys.zip ds).map (·.2) = ds := List.map_snd_zip (by omega)
  have R1 := zipR r hlen
  have R2 := zipRd r ra
  have hdep : ∀ b, b ∈ ys.zip ds → X.A.units + 2 + b.2.depth < cLine := fun b hb => by
    have hm : b.2 ∈ ds := by
      have : b.2 ∈ (ys.zip ds).map (·.2) := List.mem_map.mpr ⟨b, hb, rfl⟩
      rw [e1] at this; exact this
    have := depth_mem hm
    omega
  refine sorted_dataU (R := fun (u : Value) (b : V × PyData) => RelV b.1 u) (enc := fun b => b.2) (bs := ys.zip ds) pl.isList R1 R2 (by rw [e1]; exact al) (by rw [e1]; exact so) (by rw [List.length_zip]; omega) hdep fun out ho hout => ?_
  obtain ⟨e, he⟩ := sortedAll_at s.heap its out.toArray
  have hv := eachVals hout
  have hn : H (s.heap.objs.size + 1) = none := I.hok.fresh (Nat.le_succ _)
  refine ⟨.ref (s.heap.objs.size + 1), _, I.laid (a := s.heap.objs.size + 1) (o := .lst _) (t' := s.toks) (fun b ob q => sortedAll_old q) (Nat.le_succ _) ?_, rfl, q _ hn⟩
  exact ⟨by rw [List.length_map, List.length_mergeSort, List.length_zip]; omega, out, e, hv, he⟩
end
section
variable {T : TC} {a b c e : Expr} {es : List Expr} {env e0 e1 e2 e3 : Env'} {pos p p1 p2 p3 : Pos} {α β : Type} {enc : α → PyData} {xs : List α}
theorem je_sortLu (hg : glB T.sc "sorted" = true) (hm : T.mg "sorted" = none) (ha : JE T e e0 e1 (.b (.list (xs.map enc)))) (al : AlkE enc) (so : SortOk (xs.map enc)) (sh : shN 64 (.list (xs.map enc)) = true := by simp [shN]) (hp : Plain e [] pos := by exact ⟨fun _ => rfl, fun _ => rfl⟩) : JE T (.Call (.Name "sorted" p) [e] [] pos) e0 e1 (.o (.list ((pySort enc xs).map enc))) :=
  je_bi1 (r := rSortU) (fun X hX => cr_sortU (room_units hX)) hg hm (by decide +kernel) ha (fun R C H env σ v Q E hv k => by
    obtain ⟨p, vs, rfl, h1, l1, r1⟩ := rb_lst E hv
    obtain ⟨q1, q2⟩ := shN_all (n := 63) sh
    have aa := al.all xs
    refine ⟨p, vs, xs.map enc, rfl, SqL.of h1, (r1.mono E.cH).dps q1, aa.1, so, by omega, fun q hq => ?_⟩
    · have e1 : (vs.zip (xs.map enc)).map (·.2) = xs.map enc := List.map_snd_zip (by rw [r1.len]; exact Nat.le_refl _)
      have key : ((vs.zip (xs.map enc)).mergeSort (dataLe false (·.2))).map (·.2) = (pySort enc xs).map enc := by
        rw [sort_maps (r := dataLe false fun b : V × PyData => b.2) (s := dataLe false fun d => d) (fun b : V × PyData => b.2) (fun _ _ _ _ => rfl), e1]
        unfold pySort
        rw [sort_maps (r := dataLe false enc) (s := dataLe false fun d => d) enc (fun _ _ _ _ => rfl)]
      have rr := rps_of_pairs (zs := (vs.zip (xs.map enc)).mergeSort (dataLe false (·.2))) (K := T.K) (C := C) fun b hb => rps_pairs r1 b (List.mem_mergeSort.mp hb)
      rw [key] at rr
      obtain ⟨E', r⟩ := E.freshO hq (by rw [List.length_map, List.length_mergeSort, List.length_zip]; omega) rr
      exact k _ C _ (Ex.refl C) E' r) hp
def repOkU (n : Nat) (k : Int) : Prop := 0 < n ∧ n ≤ 1000 ∧ 0 ≤ k ∧ k ≤ 1000
theorem je_repTu {xs : List α} {k : Int} (h : JE2 T a b e0 e2 (.tuple (xs.map enc)) (.int k)) (hk : repOkU xs.length k) : JE T (.BinOp a .Mult b pos) e0 e2 (.d (.tuple ((repX xs k).map enc))) := by
  obtain ⟨k0, k1, k2, k3⟩ := hk
  by_cases h2 : 2 ≤ k
  · exact je_repT h ⟨k0, k1, h2, k3⟩
  by_cases h1 : k = 1
  · subst h1
    have e1 : repX xs 1 = xs := by show (List.replicate 1 xs).flatten = xs; simp
    rw [e1]
    exact je_bin (r := fun K => rRep1 K) (fun X _ => op_rep1) h fun R C H env σ u v Q E hu hv kk => by
      obtain ⟨p, vs, rfl, h1, c1, l1, r1⟩ := rb_tup E hu
      have := rb_int E hv
      subst this
      exact ⟨p, vs, rfl, rfl, h1, kk _ C H (Ex.refl C) E (.tup c1 l1 r1)⟩
  · have h0 : k = 0 := by omega
    subst h0
    have e1 : repX xs 0 = [] := rfl
    rw [e1]
    exact je_bin (r := fun K => rRep0 K) (fun X _ => op_rep0) h fun R C H env σ u v Q E hu hv kk => by
      obtain ⟨p, vs, rfl, h1, c1, l1, r1⟩ := rb_tup E hu
      have := rb_int E hv
      subst this
      have el := r1.len
      rw [List.length_map] at el
      refine ⟨p, vs, rfl, rfl, h1, fun q => by subst q; simp at el; omega, fun t ht => ?_⟩
      obtain ⟨c, E', r⟩ := E.freshT (vs := []) (ds := []) ht (Nat.zero_le _) .nil
      exact kk _ _ _ c E' r
end
end J
namespace J
open PySem L2 PySem.Spec PyProof.Rows
/-! ### plain laws of lists -/
theorem cut_to {α : Type} (xs : List α) (k : Nat) : cutL xs none (some (k : Int)) = xs.take k := by
  unfold cutL
  rw [HT.sIx_nat, HT.sIx_none, List.drop_zero, Nat.sub_zero, List.take_eq_take_iff]
  omega
theorem cut_from {α : Type} (xs : List α) (k : Nat) : cutL xs (some (k : Int)) none = xs.drop k := by
  unfold cutL
  rw [HT.sIx_nat, HT.sIx_none]
  have e1 : xs.drop (min k xs.length) = xs.drop k := by
    by_cases h : k ≤ xs.length
    · rw [Nat.min_eq_left h]
    · rw [Nat.min_eq_right (by omega), List.drop_length, List.drop_eq_nil_of_le (by omega)]
  rw [e1]
  exact List.take_of_length_le (by rw [List.length_drop]; omega)
theorem cut_from1 {α : Type} (xs : List α) : cutL xs (some 1) none = xs.drop 1 := cut_from xs 1
theorem foldl_fil {α β : Type} (p : α → Bool) (f : α → β) : ∀ (xs : List α) (l : List β), xs.foldl (fun l x => if p x = true then l ++ [f x] else l) l = l ++ (xs.filter p).map f
  | [], l => by simp
  | x :: xs, l => by
    rw [List.foldl_cons, foldl_fil p f xs]
    cases q : p x <;> simp [q]
theorem foldl_flat {α β : Type} (f : α → List β) : ∀ (xs : List α) (l : List β), xs.foldl (fun l x => l ++ f x) l = l ++ xs.flatMap f
  | [], l => by simp
  | x :: xs, l => by rw [List.foldl_cons, foldl_flat f xs, List.flatMap_cons, List.append_assoc]
theorem flat_foldl {α β γ : Type} (f : α → List β) (g : γ → β → γ) : ∀ (xs : List α) (b : γ), (xs.flatMap f).foldl g b = xs.foldl (fun b x => (f x).foldl g b) b
  | [], b => rfl
  | x :: xs, b => by rw [List.flatMap_cons, List.foldl_append, List.foldl_cons, flat_foldl f g xs]
theorem foldl_ext {α β : Type} {f g : β → α → β} : ∀ {xs : List α} (b : β), (∀ x ∈ xs, ∀ b, f b x = g b x) → xs.foldl f b = xs.foldl g b
  | [], _, _ => rfl
  | x :: xs, b, h => by rw [List.foldl_cons, List.foldl_cons, h x (by simp), foldl_ext _ fun y hy => h y (by simp [hy])]
theorem forR_inl {α L ρ : Type} {step : L → α → L ⊕ ρ} {g : L → α → L} : ∀ {xs : List α} (l : L), (∀ x ∈ xs, ∀ l, step l x = .inl (g l x)) → forR step l xs = .inl (xs.foldl g l)
  | [], _, _ => rfl
  | x :: xs, l, h => by
    rw [forR, h x (by simp), List.foldl_cons]
    exact forR_inl _ fun y hy => h y (by simp [hy])
theorem zip_drop_mem {α : Type} {P : α → α → Prop} : ∀ {xs : List α}, xs.Pairwise P → ∀ q ∈ xs.zip (xs.drop 1), P q.1 q.2
  | [], _ => fun q h => by simp at h
  | [x], _ => fun q h => by simp at h
  | x :: y :: xs, h => fun q hq => by
    have h1 := List.pairwise_cons.mp h
    have hq : q ∈ (x, y) :: (y :: xs).zip ((y :: xs).drop 1) := by simpa using hq
    rcases List.mem_cons.mp hq with rfl | hq
    · exact h1.1 y (by simp)
    · exact zip_drop_mem h1.2 q hq
theorem pairs_of {α : Type} {P : α → α → Prop} (sym : ∀ a b, P a b → P b a) : ∀ {xs : List α}, xs.Nodup → (xs.Pairwise P ↔ ∀ a ∈ xs, ∀ c ∈ xs, c ≠ a → P a c)
  | [], _ => by simp
  | x :: xs, h => by
    obtain ⟨h1, h2⟩ := List.nodup_cons.mp h
    rw [List.pairwise_cons, pairs_of sym h2]
    constructor
    · rintro ⟨q1, q2⟩ a ha c hc hne
      rcases List.mem_cons.mp ha with ea | ha'
      · rcases List.mem_cons.mp hc with ec | hc'
        · exact absurd (ec.trans ea.symm) hne
        · rw [ea]; exact q1 c hc'
      · rcases List.mem_cons.mp hc with ec | hc'
        · rw [ec]; exact sym _ _ (q1 a ha')
        · exact q2 a ha' c hc' hne
    · intro q
      exact ⟨fun c hc => q x (by simp) c (by simp [hc]) fun e => h1 (e ▸ hc), fun a ha c hc hne => q a (by simp [ha]) c (by simp [hc]) hne⟩
theorem idxL_nd {α : Type} [DecidableEq α] {xs : List α} (h : xs.Nodup) {i : Nat} (hi : i < xs.length) : idxL xs xs[i] = (i : Int) := by
  unfold idxL
  congr 1
  rw [List.findIdx_eq hi]
  refine ⟨by simp, fun j hj => ?_⟩
  have := (List.pairwise_iff_getElem.mp h) j i (by omega) hi hj
  exact decide_eq_false this
theorem zip_fst_sub {α β : Type} : ∀ (xs : List α) (ys : List β), ((xs.zip ys).map (·.1)).Sublist xs
  | [], _ => by simp
  | x :: xs, [] => by simp
  | x :: xs, y :: ys => by
    rw [List.zip_cons_cons, List.map_cons]
    exact (zip_fst_sub xs ys).cons₂ x
theorem nodup_lt {α : Type} {f : α → PyData} {xs : List α} (h : xs.Pairwise fun a b => ltB f a b = true) : xs.Nodup := h.imp fun q e => by
  rw [e, ltB_irr] at q; cases q
theorem rgI_take {n : Int} {i : Nat} (h : (i : Int) ≤ n) : (rgI 0 n).take i = rgI 0 i := by
  unfold rgI
  rw [← List.map_take, List.take_range, Nat.min_eq_left (by omega)]
  congr 2
theorem rgI_at {n : Int} {i : Nat} {x : Int} (h : (rgI 0 n)[i]? = some x) : x = (i : Int) ∧ (i : Int) < n := by
  unfold rgI at h
  rw [List.getElem?_map] at h
  have hi : i < (n - 0).toNat := by
    cases q : (List.range (n - 0).toNat)[i]? with
    | none => rw [q] at h; cases h
    | some j => have := (List.getElem?_eq_some_iff.mp q).1; simpa using this
  rw [List.getElem?_range hi] at h
  have h := Option.some.inj h
  simp only at h
  omega
theorem mapS_in {α β S : Type} (f : S → α → β × S) : ∀ (xs : List α) (s : S), ∀ y ∈ (mapS f s xs).1, ∃ s', ∃ x ∈ xs, y = (f s' x).1
  | [], s => fun y h => by simp [mapS] at h
  | x :: xs, s => fun y h => by
    simp only [mapS, List.mem_cons] at h
    rcases h with rfl | h
    · exact ⟨s, x, by simp, rfl⟩
    · obtain ⟨s', z, hz, e⟩ := mapS_in f xs _ y h
      exact ⟨s', z, by simp [hz], e⟩
theorem mapS_keep {α β γ S : Type} (f : S → α → β × S) (g : β → γ) (h : α → γ) (hh : ∀ s x, g (f s x).1 = h x) : ∀ (xs : List α) (s : S), (mapS f s xs).1.map g = xs.map h
  | [], s => rfl
  | x :: xs, s => by simp only [mapS, List.map_cons, mapS_keep f g h hh xs, hh]
theorem filS_in {α β S : Type} (c : S → α → Bool × S) (g : α → β) : ∀ (xs : List α) (s : S), ∀ y ∈ (filS c g s xs).1, ∃ x ∈ xs, y = g x
  | [], s => fun y h => by simp [filS] at h
  | x :: xs, s => fun y h => by
    simp only [filS] at h
    split at h
    · simp only [List.mem_cons] at h
      rcases h with rfl | h
      · exact ⟨x, by simp, rfl⟩
      · obtain ⟨z, hz, e⟩ := filS_in c g xs _ y h
        exact ⟨z, by simp [hz], e⟩
    · obtain ⟨z, hz, e⟩ := filS_in c g xs _ y h
      exact ⟨z, by simp [hz], e⟩
theorem filS_sub {α S : Type} (c : S → α → Bool × S) : ∀ (xs : List α) (s : S), (filS c (fun x => x) s xs).1.Sublist xs
  | [], s => by simp [filS]
  | x :: xs, s => by
    simp only [filS]
    split
    · exact (filS_sub c xs _).cons₂ x
    · exact (filS_sub c xs _).cons x
end J
namespace J
open PySem L2 PySem.Spec PyProof.Rows PySem.W
section
variable {T : TC} {a b c e : Expr} {es : List Expr} {env e0 e1 e2 e3 : Env'} {pos p p1 p2 p3 : Pos} {K : PySem.W.Frag} {R C C' H H' : Hp} {σ : L2.St} {v : V}
/-! ### text + text -/
theorem len_app (i j : Str) : (i ++ j).length = i.length + j.length := by
  show (Array.size (i.cps ++ j.cps)) = _
  rw [Array.size_append]; rfl
theorem sOk_app {i j : Str} (hi : sOk i) (hj : sOk j) (h : i.length + j.length ≤ LN) : sOk (i ++ j) := by
  refine ⟨?_, by rw [len_app]; exact h⟩
  have a := hi.1
  have b := hj.1
  unfold PyData.strOk at a b ⊢
  show (i.cps ++ j.cps).all _ = true
  rw [Array.all_append, a, b]; rfl
theorem je_addS {i j : Str} (h : JE2 T a b e0 e2 (.str i) (.str j)) (hl : i.length + j.length ≤ LN) : JE T (.BinOp a .Add b pos) e0 e2 (.d (.str (i ++ j))) :=
  je_bin (r := fun _ => fun x y H Q => ∃ i j, x = .str i ∧ y = .str j ∧ i.length + j.length ≤ sizeLine ∧ Q (.str (i ++ j)) H) (fun X _ => op_add_str) h fun R C H env σ u v Q E hu hv k => by
    have h1 := rb_str E hu
    have h2 := rb_str E hv
    subst h1 h2
    have r1 := rb_rp E hu
    have r2 := rb_rp E hv
    cases r1 with
    | str o1 => cases r2 with
      | str o2 => exact ⟨i, j, rfl, rfl, by rw [sizeLine_eq]; exact hl, k _ C H (Ex.refl C) E (.str (sOk_app o1 o2 hl))⟩
end
end J
namespace J
open PySem L2 PySem.Spec PyProof.Rows PySem.W PySem.SeqAt
/-! ### sorted lists of tuples, empty ones too -/
section
variable {prog : Program} {w : World} {A : Around} {E : Value → Shared → Prop} {s : Shared}
theorem call_tuple_ltD {Q : Value → Shared → Prop} {l b : Addr} {items items2 : Array Value} {e r : Nat → Bool} (hl : s.heap.IsTuple l items) (hb : s.heap.IsTuple b items2)
    (he : ∀ j (h1 : j < items.size) (h2 : j < items2.size), EqAt A.in1 s items[j] items2[j] (e j)) (hr : ∀ j (h1 : j < items.size) (h2 : j < items2.size), e j = false → RcLt A.in1 s items[j] items2[j] (r j))
    (h : Q (.bool (firstLt e r (decide (items.size < items2.size)) (List.range (min items.size items2.size)))) s) : wpAny (model prog w) A (call (.builtin "tuple.__lt__") [.ref l, .ref b]) Q E s := by
  obtain ⟨⟨cls, dd, data, sl⟩, ho, hc, n, hd⟩ := id hl
  obtain ⟨⟨cls2, dd2, data2, sl2⟩, ho2, hc2, n2, hd2⟩ := id hb
  simp only at hc hd hc2 hd2
  subst hc hd hc2 hd2
  exact call_meets F.slot_tuple_lt ⟨_, ho, rfl⟩ F.entry_tuple_lt (F.args_tuple_lt_2 _ _) (tuple_ltAt l b items items2 n n2 dd dd2 sl sl2 e r) ⟨ho, ho2, he, hr, h⟩
theorem oneLt_tup {xs ys : List PyData} {a b : Value} {as bs : List Addr} {Q : Bool → Shared → Prop} (ra : Reads s.heap a (.tuple xs) as) (rb : Reads s.heap b (.tuple ys) bs) (hal : alikeAll xs ys = true)
    (hu : A.units + min (PyData.tuple xs).depth (PyData.tuple ys).depth < cLine) (hq : Q (dataLt (.tuple xs) (.tuple ys)) s) : wpAny (model prog w) A (oneLt' true a b) Q E s := by
  cases ra with
  | @tuple l o vs n _ as₁ h1 h2 h3 h4 =>
    cases rb with
    | @tuple l' o' vs' n' _ bs₁ k1 k2 k3 k4 =>
      have n1 : vs.size = xs.length := by simpa using ReadsAll.length _ _ _ h4
      have n2 : vs'.size = ys.length := by simpa using ReadsAll.length _ _ _ k4
      rw [dataLt_tuple, ← firstLt_toks xs ys hal, ← n1, ← n2] at hq
      rw [oneLt'_eq]
      simp only [if_true]
      refine wpAny_bind (wpAny_cRoomFor (room_here hu) ?_)
      refine wpAny_bind (wpAny_callSpecialIfBound?_slot (T := "tuple") ⟨_, h1, h2⟩ F.slot_tuple_lt (call_tuple_ltD (e := pairEq xs ys) (r := fun j => dataLt (xs.getD j .none) (ys.getD j .none)) ⟨_, h1, h2, _, h3⟩ ⟨_, k1, k2, _, k3⟩ (fun j j1 j2 => ?_) (fun j j1 j2 hj => ?_) ?_))
      · have := eqAt_alikeAll xs ys A.in1 s vs.toList vs'.toList _ _ h4 k4 hal (room_in hu) j (by simpa using j1) (by simpa using j2)
        simpa using this
      · have := rcLt_alikeAll xs ys A.in1 s vs.toList vs'.toList _ _ h4 k4 hal (room_in hu) j (by simpa using j1) (by simpa using j2) hj
        simpa using this
      · exact wpAny_truthy_bool hq
end
section
variable {M : Model} {A : Around} {E : Value → Shared → Prop} {s : Shared}
/-- the first things of tuples -/
def FirstIs (h : Heap) (v : Value) (o : Option Value) : Prop := ∃ a ob xs n, v = .ref a ∧ h.get? a = some ob ∧ ob.cls = .type "tuple" ∧ ob.data = .seq xs n ∧ xs[0]? = o
theorem firsts_any : ∀ (vs : List Value) (fs : List (Option Value)) {Q : List (Option Value) → Shared → Prop}, EachIs (FirstIs s.heap) vs fs → Q fs s → wpAny M A (vs.mapM firstOfTuple') Q E s
  | _, _, _, .nil, h => by rw [List.mapM_nil]; exact wpAny_pure h
  | _, _, Q, .cons (a := v) (as := vs) (b := f) (bs := fs) t ts, h => by
    obtain ⟨a, o, xs, n, rfl, ho, hc, hd, hf⟩ := t
    rw [List.mapM_cons]
    refine wpAny_bind ?_
    rw [kas_first_eq]
    refine wpAny_bind (Looks.here (show Looks M s.heap (typeOf (.ref a)) o.cls from (Looks.ld ho).andThen .now) ?_)
    rw [hc, if_neg (by first | decide | simp)]
    refine wpAny_bind (listItems_at ho hd (wpAny_pure ?_))
    rw [hf]
    exact wpAny_bind (firsts_any vs fs (Q := fun bs s' => wpAny M A (pure (f :: bs)) Q E s') ts (wpAny_pure h))
theorem tup_kind {vs : List Value} {fs : List (Option Value)} {Q : SortKind → Shared → Prop} (h2 : 2 ≤ vs.length) (t : EachIs (FirstIs s.heap) vs fs) (hn : fs.all (·.isSome) = false) (h : Q (if (fs[0]?.bind id).isSome = true then general' else oneType') s) :
    wpAny M A (keyKind' vs.toArray) Q E s := by
  rw [keyKind'_eq, List.mapM_toArray, map_eq_pure_bind]
  refine wpAny_bind (wpAny_bind (firsts_any vs fs t (wpAny_pure ?_)))
  have hall : (fs.toArray.all fun x => x.isSome) = false := by simpa using hn
  rw [if_neg (by rw [hall]; decide)]
  have h0 : fs.toArray[0]? = fs[0]? := by simp
  rw [h0]
  cases q : (fs[0]?.bind id).isSome with
  | true =>
    rw [q] at h
    simp only [if_true] at h ⊢
    exact wpAny_pure h
  | false =>
    rw [q] at h
    simp only [Bool.false_eq_true, if_false] at h ⊢
    rw [oneTypeOnly'_eq, List.mapM_toArray, map_eq_pure_bind]
    have hT : ∀ v ∈ vs, Looks M s.heap (typeOf v) (.type "tuple") := fun v hv => by
      obtain ⟨f, _, a, o, xs, n, rfl, ho, hc, hd, hf⟩ := t.left v hv
      exact hc ▸ (Looks.ld ho).andThen .now
    refine wpAny_bind (wpAny_bind (wpAny_bind (kas_mapM (r := Value.type "tuple") _ (fun v hv Q' hq => (hT v hv).here hq) (wpAny_pure ?_))))
    obtain ⟨v₁, v₂, rest, rfl⟩ : ∃ v₁ v₂ rest, vs = v₁ :: v₂ :: rest := by
      match vs, h2 with
      | [], h2 => simp at h2
      | [_], h2 => simp at h2
      | v₁ :: v₂ :: rest, _ => exact ⟨v₁, v₂, rest, rfl⟩
    have hall2 : ((List.map (fun _ => Value.type "tuple") (v₁ :: v₂ :: rest)).toArray.all fun x => x == Value.type "tuple") = true := by
      simp only [List.all_toArray, List.all_map, List.all_eq_true]
      intro _ _
      rfl
    have h0 : (List.map (fun _ => Value.type "tuple") (v₁ :: v₂ :: rest)).toArray[0]? = some (Value.type "tuple") := by simp
    rw [h0]
    simp only [hall2, if_true]
    exact wpAny_pure (wpAny_pure h)
end
section
variable {prog : Program} {w : World} {A : Around} {s : Shared} {β : Type} {R : Value → β → Prop} {enc : β → PyData} {vs : List Value} {bs : List β}
theorem firsts_of {h : Heap} : ∀ {vs : List Value} {ds : List PyData}, EachIs (fun v d => ∃ as, Reads h v d as) vs ds → (∀ d, d ∈ ds → ∃ xs, d = .tuple xs) → ∃ fs, EachIs (FirstIs h) vs fs ∧ (fs.all (·.isSome) = true → ∀ d, d ∈ ds → ∃ x r, d = .tuple (x :: r))
  | _, _, .nil, _ => ⟨[], .nil, fun _ d hd => by cases hd⟩
  | _, _, .cons (b := d) ⟨as, r⟩ t, ht => by
    obtain ⟨fs, h1, h2⟩ := firsts_of t fun d hd => ht d (List.mem_cons_of_mem _ hd)
    obtain ⟨ys, rfl⟩ := ht d (List.mem_cons_self ..)
    cases r with
    | @tuple a o xs n _ _ ho hc hd hr =>
      refine ⟨xs[0]? :: fs, .cons ⟨a, o, xs, n, rfl, ho, hc, hd, rfl⟩ h1, fun q d hd => ?_⟩
      rw [List.all_cons, Bool.and_eq_true] at q
      rcases List.mem_cons.mp hd with rfl | hd
      · cases ys with
        | nil =>
          have : xs.toList = [] := by cases e : xs.toList with
            | nil => rfl
            | cons a b => rw [e] at hr; cases hr
          have : xs[0]? = none := by rw [← Array.getElem?_toList, this]; rfl
          rw [this] at q; exact absurd q.1 (by decide)
        | cons y ys => exact ⟨y, ys, rfl⟩
      · exact h2 q.2 d hd
theorem sortsAt_tup {vs : List Value} {ds : List PyData} (e : EachIs (fun v d => ∃ as, Reads s.heap v d as) vs ds) (hal : AllAlike ds) (ht : ∀ d, d ∈ ds → ∃ xs, d = .tuple xs) (hu : ∀ d, d ∈ ds → A.units + d.depth < cLine) : SortsAt prog w A s (dataKind s.heap ds) vs := by
  obtain ⟨fs, f1, f2⟩ := firsts_of e ht
  cases q : fs.all (·.isSome) with
  | true => exact SortsAt.data e hal (.inl (f2 q)) hu
  | false =>
    refine ⟨fun v hv => ?_, (if (fs[0]?.bind id).isSome = true then general' else oneType'), ?_, fun h2 E Q hq => tup_kind h2 f1 q hq⟩
    · obtain ⟨d, hd, as, r⟩ := e.left v hv
      exact ⟨_, dataKind_some hal hd r⟩
    · intro E x y a b Q ha hb hq
      obtain ⟨d, as, hd, ra, rfl⟩ := dataKind_inv ha
      obtain ⟨d', as', hd', rb, rfl⟩ := dataKind_inv hb
      have hu' := hu d hd
      have room : A.units + min d.depth d'.depth < cLine := Nat.lt_of_le_of_lt (Nat.add_le_add_left (Nat.min_le_left _ _) _) hu'
      have al := hal d hd d' hd'
      obtain ⟨xs, rfl⟩ := ht d hd
      obtain ⟨ys, rfl⟩ := ht d' hd'
      cases (fs[0]?.bind id).isSome with
      | true => exact oneLt_alike (f := false) (fun q => absurd q (by decide)) ra rb al (by simp) room hq
      | false => exact oneLt_tup ra rb (by simpa [alike] using al) room hq
theorem sorted_dataT {l : Addr} {E' : Value → Shared → Prop} {Q : Value → Shared → Prop} (hl : s.heap.IsList l vs.toArray) (e : EachIs R vs bs) (er : EachIs (fun v b => ∃ as, Reads s.heap v (enc b) as) vs bs) (hal : AllAlike (bs.map enc)) (hk : ∀ d, d ∈ bs.map enc → ∃ xs, d = .tuple xs) (hL : bs.length ≤ sizeLine)
    (hu : ∀ b, b ∈ bs → A.units + 2 + (enc b).depth < cLine) (h : ∀ out, out.length = bs.length → EachIs R out (bs.mergeSort (dataLe false enc)) → Q (.ref (s.heap.objs.size + 1)) { s with heap := sortedAll s.heap vs (List.toArray out) }) :
    wpAny (model prog w) A (call (.builtin "sorted") [.ref l]) Q E' s := by
  have er' : EachIs (fun v b => ∃ as, Reads (sortingHeap (copyHeap s.heap vs) (s.heap.objs.size + 1) vs) v (enc b) as) vs bs := er.mono fun _ _ ⟨as, r⟩ => ⟨as, PyProof.Rows.Reads.keeps (fun _ _ => sorting_copy_old) r⟩
  exact sorted_vals hl (sortsAt_tup (s := { s with heap := sortingHeap (copyHeap s.heap vs) (s.heap.objs.size + 1) vs }) (each_map (R := fun v d => ∃ as, Reads (sortingHeap (copyHeap s.heap vs) (s.heap.objs.size + 1) vs) v d as) enc er') hal hk (bound_map hu)) (by rw [e.length]; exact hL)
    (h _ (by rw [sortVals_length false rfl]; exact e.length) (sortVals_data false e er' hal))
end
section
variable {X : Cx}
def rSortV (K : PySem.W.Frag) : List V → Hp → VK → Prop := fun vs H Q => ∃ (a : Addr) (ys : List V) (ds : List PyData), vs = [.ref a] ∧ SqL K H a ys ∧ DpAll K H ys ds ∧ AllAlike ds ∧ (∀ d, d ∈ ds → ∃ xs, d = .tuple xs) ∧ PyData.depthAll ds ≤ 64 ∧
  ∀ p, H p = none → Q (.ref p) (upd H p (.lst (((ys.zip ds).mergeSort (dataLe false (·.2))).map (·.1))))
theorem cr_sortV (hu : X.A.units + 200 < cLine) : CallR X (.builtin "sorted") (rSortV X.K) := by
  intro pins s σ H xs us Q I rv h
  obtain ⟨a, ys, ds, rfl, hq, hd, al, so, dp, q⟩ := h
  have eu := Vals.ref1 rv
  subst eu
  obtain ⟨its, r, pl, hz⟩ := I.list hq
  obtain ⟨as, ra⟩ := Dp.readsAll I ds ys its hd r
  have hlen : ys.length = ds.length := dpAll_len hd
  have e1 : (ys.zip ds).map (·.2) = ds := List.map_snd_zip (by omega)
  have R1 := zipR r hlen
  have R2 := zipRd r ra
  have hdep : ∀ b, b ∈ ys.zip ds → X.A.units + 2 + b.2.depth < cLine := fun b hb => by
    have hm : b.2 ∈ ds := by
      have : b.2 ∈ (ys.zip ds).map (·.2) := List.mem_map.mpr ⟨b, hb, rfl⟩
      rw [e1] at this; exact this
    have := depth_mem hm
    omega
  refine sorted_dataT (R := fun (u : Value) (b : V × PyData) => RelV b.1 u) (enc := fun b => b.2) (bs := ys.zip ds) pl.isList R1 R2 (by rw [e1]; exact al) (by rw [e1]; exact so) (by rw [List.length_zip]; omega) hdep fun out ho hout => ?_
  obtain ⟨e, he⟩ := sortedAll_at s.heap its out.toArray
  have hv := eachVals hout
  have hn : H (s.heap.objs.size + 1) = none := I.hok.fresh (Nat.le_succ _)
  refine ⟨.ref (s.heap.objs.size + 1), _, I.laid (a := s.heap.objs.size + 1) (o := .lst _) (t' := s.toks) (fun b ob q => sortedAll_old q) (Nat.le_succ _) ?_, rfl, q _ hn⟩
  exact ⟨by rw [List.length_map, List.length_mergeSort, List.length_zip]; omega, out, e, hv, he⟩
end
section
variable {T : TC} {a b c e : Expr} {es : List Expr} {env e0 e1 e2 e3 : Env'} {pos p p1 p2 p3 : Pos} {α β : Type} {f : α → PyData} {xs : List (List α)}
theorem je_sortLv (hg : glB T.sc "sorted" = true) (hm : T.mg "sorted" = none) (ha : JE T e e0 e1 (.b (.list (xs.map (eT f))))) (al : AlkE (eT f)) (sh : shN 64 (.list (xs.map (eT f))) = true := by simp [shN]) (hp : Plain e [] pos := by exact ⟨fun _ => rfl, fun _ => rfl⟩) : JE T (.Call (.Name "sorted" p) [e] [] pos) e0 e1 (.o (.list ((pySort (eT f) xs).map (eT f)))) :=
  je_bi1 (r := rSortV) (fun X hX => cr_sortV (room_units hX)) hg hm (by decide +kernel) ha (fun R C H env σ v Q E hv k => by
    obtain ⟨p, vs, rfl, h1, l1, r1⟩ := rb_lst E hv
    obtain ⟨q1, q2⟩ := shN_all (n := 63) sh
    have aa := al.all xs
    refine ⟨p, vs, xs.map (eT f), rfl, SqL.of h1, (r1.mono E.cH).dps q1, aa.1, fun d hd => by obtain ⟨x, _, rfl⟩ := List.mem_map.mp hd; exact ⟨_, rfl⟩, by omega, fun q hq => ?_⟩
    · have e1 : (vs.zip (xs.map (eT f))).map (·.2) = xs.map (eT f) := List.map_snd_zip (by rw [r1.len]; exact Nat.le_refl _)
      have key : ((vs.zip (xs.map (eT f))).mergeSort (dataLe false (·.2))).map (·.2) = (pySort (eT f) xs).map (eT f) := by
        rw [sort_maps (r := dataLe false fun b : V × PyData => b.2) (s := dataLe false fun d => d) (fun b : V × PyData => b.2) (fun _ _ _ _ => rfl), e1]
        unfold pySort
        rw [sort_maps (r := dataLe false (eT f)) (s := dataLe false fun d => d) (eT f) (fun _ _ _ _ => rfl)]
      have rr := rps_of_pairs (zs := (vs.zip (xs.map (eT f))).mergeSort (dataLe false (·.2))) (K := T.K) (C := C) fun b hb => rps_pairs r1 b (List.mem_mergeSort.mp hb)
      rw [key] at rr
      obtain ⟨E', r⟩ := E.freshO hq (by rw [List.length_map, List.length_mergeSort, List.length_zip]; omega) rr
      exact k _ C _ (Ex.refl C) E' r) hp
end
end J
namespace J
open PySem L2 PySem.Spec PyProof.Rows PySem.W
/-! ### going into a Let -/
theorem let_b {α : Type} {v : α} {f : α → Bool} (h : ∀ x, v = x → f x = true) : Let v f = true := h v rfl
theorem let_p {α : Type} {v : α} {f : α → Prop} (h : ∀ x, v = x → f x) : Let v f := h v rfl
theorem mapS_count {α β S : Type} (f : S → α → β × S) : ∀ (xs : List α) (s : S), (mapS f s xs).1.length = xs.length
  | [], s => rfl
  | x :: xs, s => by simp only [mapS, List.length_cons, mapS_count f xs]
/-! ### the order of data tells things apart; the least of them -/
theorem dataLt_trans (x y z : PyData) (h1 : dataLt x y = true) (h2 : dataLt y z = true) : dataLt x z = true := (listOrd itemOrd).trans _ _ _ h1 h2
theorem dataLt_neg (x y z : PyData) (h : dataLt x z = true) : dataLt x y = true ∨ dataLt y z = true := (listOrd itemOrd).negTrans _ _ _ h
def Tri {α : Type} (f : α → PyData) : Prop := ∀ a b, ltB f a b = false → ltB f b a = false → a = b
theorem tri_int : Tri PyData.int := fun a b h1 h2 => by
  rw [ltB_int] at h1 h2
  have := of_decide_eq_false h1
  have := of_decide_eq_false h2
  omega
theorem tri_str : Tri PyData.str := fun a b h1 h2 => by
  unfold ltB at h1 h2
  rw [dataLt_str] at h1 h2
  have e : b.cps.toList = a.cps.toList := List.le_antisymm (of_decide_eq_false h1) (of_decide_eq_false h2)
  cases a; cases b
  simp only at e
  rw [Array.toList_inj.mp e]
theorem tri_p2 {α β : Type} [DecidableEq α] [DecidableEq β] {f : α → PyData} {g : β → PyData} (F : AlkE f) (G : AlkE g) (Fe : EqE f) (Ge : EqE g) (tf : Tri f) (tg : Tri g) : Tri (eP2 f g) := fun p q h1 h2 => by
  rw [ltB_p2 F G Fe Ge] at h1 h2
  by_cases e : p.1 = q.1
  · rw [if_pos e] at h1
    rw [if_pos e.symm] at h2
    exact Prod.ext e (tg _ _ h1 h2)
  · rw [if_neg e] at h1
    rw [if_neg fun z => e z.symm] at h2
    exact absurd (tf _ _ h1 h2) e
theorem tri_ls {α : Type} [DecidableEq α] {f : α → PyData} (tf : Tri f) : ∀ xs ys : List α, ltLs f xs ys = false → ltLs f ys xs = false → xs = ys
  | [], [], _, _ => rfl
  | [], _ :: _, h, _ => by cases h
  | _ :: _, [], _, h => by cases h
  | x :: xs, y :: ys, h1, h2 => by
    unfold ltLs at h1 h2
    by_cases e : x = y
    · rw [if_pos e] at h1
      rw [if_pos e.symm] at h2
      rw [e, tri_ls tf xs ys h1 h2]
    · rw [if_neg e] at h1
      rw [if_neg fun z => e z.symm] at h2
      exact absurd (tf _ _ h1 h2) e
theorem tri_t {α : Type} [DecidableEq α] {f : α → PyData} (F : AlkE f) (Fe : EqE f) (tf : Tri f) : Tri (eT f) := fun xs ys h1 h2 => by
  rw [ltB_t F Fe] at h1 h2
  exact tri_ls tf xs ys h1 h2
theorem fold_min {α : Type} (f : α → PyData) : ∀ (xs : List α) (x : α), (xs.foldl (fun a y => if dataLt (f y) (f a) = true then y else a) x ∈ x :: xs) ∧ ∀ y ∈ x :: xs, ltB f y (xs.foldl (fun a y => if dataLt (f y) (f a) = true then y else a) x) = false
  | [], x => ⟨by simp, fun y hy => by rw [List.mem_singleton.mp hy]; exact ltB_irr f x⟩
  | z :: xs, x => by
    rw [List.foldl_cons]
    obtain ⟨h1, h2⟩ := fold_min f xs (if dataLt (f z) (f x) = true then z else x)
    generalize xs.foldl (fun a y => if dataLt (f y) (f a) = true then y else a) (if dataLt (f z) (f x) = true then z else x) = m at h1 h2 ⊢
    constructor
    · rcases List.mem_cons.mp h1 with h | h
      · rw [h]; split <;> simp
      · simp [h]
    · intro y hy
      have h0 := h2 _ (List.mem_cons_self ..)
      rcases List.mem_cons.mp hy with rfl | hy
      · by_cases q : dataLt (f z) (f y) = true
        · rw [if_pos q] at h0
          cases e : ltB f y m with
          | false => rfl
          | true =>
            have : ltB f z m = true := dataLt_trans _ _ _ q e
            rw [this] at h0; cases h0
        · rw [if_neg q] at h0; exact h0
      · rcases List.mem_cons.mp hy with rfl | hy
        · by_cases q : dataLt (f y) (f x) = true
          · rw [if_pos q] at h0; exact h0
          · rw [if_neg q] at h0
            cases e : ltB f y m with
            | false => rfl
            | true =>
              rcases dataLt_neg _ (f x) _ e with w | w
              · exact absurd w q
              · have : ltB f x m = true := w
                rw [this] at h0; cases h0
        · exact h2 y (by simp [hy])
theorem pyMin_mem {α : Type} [Inhabited α] {f : α → PyData} {xs : List α} (h : xs ≠ []) : pyMin f xs ∈ xs := by
  cases xs with
  | nil => exact absurd rfl h
  | cons x xs => exact (fold_min f xs x).1
theorem pyMin_le {α : Type} [Inhabited α] {f : α → PyData} {xs : List α} : ∀ y ∈ xs, ltB f y (pyMin f xs) = false := by
  cases xs with
  | nil => intro y hy; cases hy
  | cons x xs => exact (fold_min f xs x).2
/-- the least is one alone -/
theorem pyMin_eq {α : Type} [Inhabited α] {f : α → PyData} (t : Tri f) {xs : List α} {m : α} (hm : m ∈ xs) (h : ∀ y ∈ xs, ltB f y m = false) : pyMin f xs = m := by
  have hne : xs ≠ [] := by intro q; subst q; cases hm
  exact t _ _ (h _ (pyMin_mem hne)) (pyMin_le m hm)
/-! ### things of any kind -/
theorem tup_back {x : PyData} (h : isTup x = true) : (eT eD) ((dT dA) x) = x := by
  cases x <;> first | (cases h; done) | skip
  rename_i xs
  show PyData.tuple ((xs.map dA).map eD) = _
  rw [List.map_map, show (eD ∘ dA) = (id : PyData → PyData) from rfl, List.map_id]
theorem lst_back {x : PyData} (h : isLst x = true) : (eL eD) ((dL dA) x) = x := by
  cases x <;> first | (cases h; done) | skip
  rename_i xs
  show PyData.list ((xs.map dA).map eD) = _
  rw [List.map_map, show (eD ∘ dA) = (id : PyData → PyData) from rfl, List.map_id]
theorem str_back {y : PyData} (h : isStr y = true) : PyData.str (dS y) = y := by
  cases y <;> first | rfl | cases h
theorem int_back {y : PyData} (h : (J.isInt y && !isBoo y) = true) : PyData.int (dI y) = y := by
  cases y <;> simp_all [J.isInt, isBoo, dI]
theorem tup_of {x : PyData} (h : isTup x = true) : ∃ xs, x = .tuple xs := by
  cases x <;> first | exact ⟨_, rfl⟩ | cases h
theorem str_of {x : PyData} (h : isStr x = true) : ∃ xs, x = .str xs := by
  cases x <;> first | exact ⟨_, rfl⟩ | cases h
theorem dTA_tup (xs : List PyData) : (dT dA) (.tuple xs) = xs := by show xs.map dA = xs; exact List.map_id' xs
theorem dTA_enc {α : Type} (f : α → PyData) (xs : List α) : dT dA (eT f xs) = xs.map f := by
  show (xs.map f).map dA = _
  simp [dA, Function.comp_def]
theorem dTS_enc (t : List Str) : dT dS (eT PyData.str t) = t := by
  show (t.map _).map dS = _
  simp [dS, Function.comp_def]
/-- no dict anywhere, however deep -/
inductive Nice : Nat → PyData → Prop
  | none {n} : Nice n .none
  | bool {n b} : Nice n (.bool b)
  | int {n i} : Nice n (.int i)
  | str {n s} : Nice n (.str s)
  | list {n xs} : (∀ x ∈ xs, Nice n x) → Nice (n + 1) (.list xs)
  | tuple {n xs} : (∀ x ∈ xs, Nice n x) → Nice (n + 1) (.tuple xs)
theorem Nice.nd {n : Nat} {x : PyData} (h : Nice n x) : noDc x = true := by cases h <;> rfl
theorem Nice.of_tup {n : Nat} {xs : List PyData} (h : Nice (n + 1) (.tuple xs)) : ∀ x ∈ xs, Nice n x := by cases h; assumption
theorem Nice.of_tup0 {n : Nat} {xs : List PyData} (h : Nice n (.tuple xs)) : ∀ x ∈ xs, ∃ m, Nice m x := by
  cases h with
  | tuple h => exact fun x hx => ⟨_, h x hx⟩
theorem Nice.of_lst0 {n : Nat} {xs : List PyData} (h : Nice n (.list xs)) : ∀ x ∈ xs, ∃ m, Nice m x := by
  cases h with
  | list h => exact fun x hx => ⟨_, h x hx⟩
/-- the same, to be counted out -/
def niceB : Nat → PyData → Bool
  | 0, .list _ => false
  | 0, .tuple _ => false
  | n + 1, .list xs => xs.all (niceB n)
  | n + 1, .tuple xs => xs.all (niceB n)
  | _, .dict _ => false
  | _, _ => true
theorem nice_of : ∀ (n : Nat) (x : PyData), niceB n x = true → Nice n x
  | 0, .none, _ => .none
  | 0, .bool _, _ => .bool
  | 0, .int _, _ => .int
  | 0, .str _, _ => .str
  | 0, .list _, h => by simp [niceB] at h
  | 0, .tuple _, h => by simp [niceB] at h
  | 0, .dict _, h => by simp [niceB] at h
  | n + 1, .none, _ => .none
  | n + 1, .bool _, _ => .bool
  | n + 1, .int _, _ => .int
  | n + 1, .str _, _ => .str
  | n + 1, .list xs, h => .list fun x hx => nice_of n x (by simp only [niceB, List.all_eq_true] at h; exact h x hx)
  | n + 1, .tuple xs, h => .tuple fun x hx => nice_of n x (by simp only [niceB, List.all_eq_true] at h; exact h x hx)
  | n + 1, .dict _, h => by simp [niceB] at h
theorem nice_all {n : Nat} {xs : List PyData} (h : xs.all (niceB n) = true) : ∀ x ∈ xs, Nice n x := fun x hx => nice_of n x (by rw [List.all_eq_true] at h; exact h x hx)
theorem pick {α : Type} [Inhabited α] {xs : List α} {P : α → Prop} (h : ∀ x ∈ xs, P x) (d : Dr) (n : Nat) (hn : xs.length = n) (h0 : 0 < n) : P (gI xs (nxt d (n : Int)).1) := by
  have a1 := nxt_lo (d := d) (many := (n : Int)) (by omega)
  have a2 := nxt_hi (d := d) (many := (n : Int)) (by omega)
  exact h _ (gI_mem ⟨by omega, by omega⟩)
theorem pick_in {n : Nat} (d : Dr) (h0 : 0 < n) : inR n (nxt d (n : Int)).1 := by
  have a1 := nxt_lo (d := d) (many := (n : Int)) (by omega)
  have a2 := nxt_hi (d := d) (many := (n : Int)) (by omega)
  exact ⟨by omega, by omega⟩
end J
namespace J
open PySem L2 PySem.Spec PyProof.Rows
/-! ### comprehensions over a list that the def owns -/
section
variable {T : TC} {a b e : Expr} {es : List Expr} {env e0 e1 e2 e3 : Env'} {pos p : Pos} {x y z : PyData} {ds : List PyData} {K : PySem.W.Frag} {R C C' H H' : Hp} {σ σ' : L2.St} {v : V}
/-- J yields the items while the comprehension's environments stand -/
def tIJE (K : PySem.W.Frag) (e0 : Env') (ev : Nat → Env') (items : List PyData) : TI := fun σ H Rr' => ∃ R C, EnvC K R C e0 σ H ∧ ∀ J C1 H1, Ex C C1 → EnvC K R C1 (ev 0) σ H1 → items.length ≤ LN →
  (∀ n C' H', Ex C1 C' → EnvC K R C' (ev n) σ H' → J.stop items.length H' ∧ ∀ i d, items[i]? = some d → J.go i H' ∧ ∀ x H3, J.yld i H' x H3 → ∃ C2, Ex C' C2 ∧ EnvC K R C2 (ev n) σ H3 ∧ (∀ D, H3 D = none → H' D = none) ∧ (∀ D o, H' D = some o → H3 D = some o) ∧ (∀ D o, H' D = some o → C' D = none → C2 D = none) ∧ Rp K C2 x d) → Rr' J H1
def JIE (T : TC) (tg iter : Expr) (e0 : Env') (ev : Nat → Env') (items : List PyData) : Prop := ∀ X, CT X T → PI X tg iter (tIJE X.K e0 ev items)
variable {tg : Expr}
theorem jie_var (i : Nat) {nm : Str} {xs : List PyData} {k0 : Option Addr} (he : e0[i]? = some (.o k0 (.list xs)) := by rfl) (hN : T.N[i]? = some nm := by rfl) (hv : visB T.sc nm = true := by rfl) (hd : (nm == ("__debug__" : Str)) = false := by decide) (hcd : (nm == ("__classdict__" : Str)) = false := by decide) : JIE T tg (.Name nm p) e0 (fun _ => e0) xs := fun X hX => by
  refine (pi_list (pe_var (i := i) (by rw [hX.N]; exact hN) (by rw [hX.sc]; exact vis_of hv) hd hcd)).wk fun σ H Rr' ⟨R, C, E, k⟩ => ?_
  obtain ⟨q, s0, h0, h2, h3, vs, h4, l, r⟩ := E.own i k0 _ he
  refine ⟨.ref q, s0, q, rfl, ⟨vs, SqL.of h4⟩, k _ C H (Ex.refl C) E (by rw [← r.len]; exact l) fun n C' H' c E' => ?_⟩
  obtain ⟨q', s1, _, g2, g3, ws, g4, l', r'⟩ := E'.own i k0 _ he
  rw [s0] at s1; cases s1
  refine ⟨⟨ws, SqL.of g4, by rw [r'.len]; exact Nat.le_refl _⟩, fun j d hd => ?_⟩
  obtain ⟨w, hw, rw⟩ := r'.getD hd
  refine ⟨⟨_, w, SqL.of g4, hw⟩, fun x H3 hy => ?_⟩
  obtain ⟨rfl, hx⟩ := hy
  have := hx _ (SqL.of g4)
  rw [hw] at this; cases this
  exact ⟨C', Ex.refl C', E', fun _ h => h, fun _ _ h => h, fun _ _ _ h => h, rw⟩
end
section
variable {T : TC} {a b e : Expr} {es : List Expr} {env e0 e1 e2 e3 : Env'} {pos p : Pos} {x y z : PyData} {ds : List PyData} {K : PySem.W.Frag} {R C C' H H' : Hp} {σ σ' : L2.St} {v : V}
/-- the reading of a comprehension -/
theorem lc_runE {X : Cx} (hX : CT X T) {tg elt : Expr} {ifs : List Expr} {scope : Scope} {own : List (Str × Nat)} {xs : List PyData} (ev : Nat → Env') (outs : Nat → List PyData) (o0 : outs 0 = [])
    (hu : ∀ i, i ≤ xs.length → unk (ev i) (own.map (·.2))) (turn : ∀ i d, xs[i]? = some d → LcTurn T scope tg elt ifs (own.map (·.2)) d (ev i) (ev (i + 1)) (outs i) (outs (i + 1))) :
    ∀ (σ : L2.St) (H : Hp) (Q : VK), tJ X.K e0 (ev xs.length) (.o (.list (outs xs.length))) σ H Q → tLc (tIJE X.K e0 ev xs) (tTgJ (T.blk scope) X.K tg) (tIfsJ (T.blk scope) X.K ifs) (tEltJ (T.blk scope) X.K elt) (own.map (·.2)) σ H Q := by
  rintro σ H Q ⟨R, C, E, k⟩
  refine ⟨R, C, E, fun J C1 H1 c1 E1 hln io D hD => ?_⟩
  have olen : ∀ i, i ≤ xs.length → (outs i).length ≤ i := by
    intro i
    induction i with
    | zero => intro _; rw [o0]; exact Nat.le_refl _
    | succ i ih =>
      intro hi
      have hi' : i < xs.length := hi
      obtain ⟨js, F1, F2, c, _, _, _, ht, hf⟩ := (turn i _ (List.getElem?_eq_getElem hi')).ex
      cases c with
      | true =>
        obtain ⟨_, z, _, _, e⟩ := ht rfl
        rw [e, List.length_append]
        have := ih (Nat.le_of_lt hi')
        simp; omega
      | false =>
        rw [(hf rfl).2]
        have := ih (Nat.le_of_lt hi')
        omega
  refine ⟨fun i m H' => i + m = xs.length ∧ ∃ C' acc, Ex C1 C' ∧ EnvC X.K R C' (ev i) σ H' ∧ H' D = some (.lst acc) ∧ C' D = none ∧ R D = none ∧ NotOwn (ev i) σ D ∧ Rps X.K C' acc (outs i), ⟨xs.length, by omega, C1, [], Ex.refl _, E1.newO hD, upd_same, E1.cN hD, E1.rN hD, E1.notOwn hD, by rw [o0]; exact .nil⟩, ?_⟩
  rintro i m H' ⟨him, C', acc, cc, E', hHD, cD, rD, nD, rp⟩
  obtain ⟨st, go⟩ := io i C' H' cc E'
  by_cases hi : i < xs.length
  · right
    obtain ⟨g1, g2⟩ := go i xs[i] (List.getElem?_eq_getElem hi)
    refine ⟨g1, fun H2 => ∃ C2 acc2, Ex C1 C2 ∧ EnvC X.K R C2 (ev (i + 1)) σ H2 ∧ H2 D = some (.lst acc2) ∧ C2 D = none ∧ R D = none ∧ NotOwn (ev (i + 1)) σ D ∧ Rps X.K C2 acc2 (outs (i + 1)), fun H2 ⟨C2, acc2, h⟩ => ⟨m - 1, by omega, by omega, C2, acc2, h⟩, fun w H2 hy => ?_⟩
    obtain ⟨C2, c2, E2, n1, n2, n3, rw⟩ := g2 w H2 hy
    have hH2D := n2 D _ hHD
    have cD2 : C2 D = none := n3 D _ hHD cD
    obtain ⟨js, F1, F2, c, hjs, jg, jt, ht, hf⟩ := (turn i xs[i] (List.getElem?_eq_getElem hi)).ex
    -- with the new list as a part of what stands
    have lift : ∀ {R0 C0 : Hp} {en : Env'} {s0 : L2.St} {H0 : Hp} {o : HO}, EnvC X.K R0 C0 en s0 H0 → H0 D = some o → C0 D = none → NotOwn en s0 D → EnvC X.K (upd R0 D o) C0 en s0 H0 := fun {R0 C0 en s0 H0 o} E0 h1 h2 h3 => by
      refine ⟨E0.len, E0.cH, fun q u e => ?_, fun q e => ?_, E0.dat, fun j w x e => ?_, E0.apart⟩
      · by_cases h : q = D
        · subst h; rw [upd_same] at e; cases e; exact h1
        · rw [upd_ne h] at e; exact E0.rH _ _ e
      · by_cases h : q = D
        · subst h; exact h2
        · rw [upd_ne h] at e; exact E0.rc _ e
      · obtain ⟨q, k1, k0, k2, k3, k4⟩ := E0.own j w x e
        have hq : q ≠ D := fun h => by subst h; exact h3 j w x e k1
        exact ⟨q, k1, k0, k2, by rw [upd_ne hq]; exact k3, k4⟩
    have unlift : ∀ {C0 : Hp} {en : Env'} {s0 : L2.St} {H0 : Hp} {o : HO}, EnvC X.K (upd R D o) C0 en s0 H0 → EnvC X.K R C0 en s0 H0 ∧ H0 D = some o ∧ C0 D = none ∧ NotOwn en s0 D := fun {C0 en s0 H0 o} E0 => by
      refine ⟨⟨E0.len, E0.cH, fun q u e => ?_, fun q e => ?_, E0.dat, fun j w x e => ?_, E0.apart⟩, E0.rH D o upd_same, E0.rc D (by rw [upd_same]; simp), fun j w x e s1 => ?_⟩
      · by_cases h : q = D
        · subst h; rw [rD] at e; cases e
        · exact E0.rH q u (by rw [upd_ne h]; exact e)
      · by_cases h : q = D
        · subst h; exact absurd rD e
        · exact E0.rc q (by rw [upd_ne h]; exact e)
      · obtain ⟨q, k1, k0, k2, k3, k4⟩ := E0.own j w x e
        have hq : q ≠ D := fun h => by subst h; rw [upd_same] at k3; cases k3
        exact ⟨q, k1, k0, k2, by rw [upd_ne hq] at k3; exact k3, k4⟩
      · obtain ⟨q, k1, k0, k2, k3, k4⟩ := E0.own j w x e
        rw [k1] at s1; cases s1
        rw [upd_same] at k3; cases k3
    have E2' := lift (E2.wipe (hu i (Nat.le_of_lt hi))) hH2D cD2 (fun j w x e s1 => nD j w x e (by
      rw [wipe_get] at s1
      split at s1
      · cases q : σ[j]? <;> rw [q] at s1 <;> cases s1
      · exact s1))
    refine ⟨js, xs[i], ev i, F1, jg, _, C2, E2', rw, fun σ3 s3 l3 E3 => ⟨?_, F1, F2, c, jt, _, C2, E3, fun C4 H4 c4 E4 => ?_⟩⟩
    · have := wipe_eq (σ := L2.wipe σ (own.map (·.2))) (σ' := σ3) (vs := own.map (·.2)) l3 fun j hj => s3 j fun h => hj (hjs h)
      rw [this]
      apply List.ext_getElem?
      intro q
      rw [wipe_get, wipe_get]
      split
      · cases σ[q]? <;> rfl
      · rfl
    have fin : ∀ {C5 H5 : Hp} {en : Env'}, Le (ev (i + 1)) en → EnvC X.K (upd R D (.lst acc)) C5 en σ3 H5 → EnvC X.K R C5 (ev (i + 1)) σ H5 ∧ H5 D = some (.lst acc) ∧ C5 D = none ∧ NotOwn (ev (i + 1)) σ D := fun {C5 H5 en} le E5 => by
      have hU := hu (i + 1) hi
      have E5' := (E5.le le).resig (σ' := σ) (by rw [l3, wipe_length]) fun j x e hx => by
        have hj : j ∉ own.map (·.2) := fun h => hx (hU j h x e)
        rw [s3 j (fun h => hj (hjs h)), wipe_get, if_neg hj]
      exact unlift E5'
    cases c with
    | true =>
      dsimp only
      rw [if_pos rfl]
      obtain ⟨F3, z, je, le, eo⟩ := ht rfl
      refine ⟨F2, F3, .d z, je, _, C4, E4, fun y C5 H5 c5 E5 r5 => ?_⟩
      obtain ⟨E6, h6, cD6, no6⟩ := fin le E5
      refine ⟨acc, h6, lnS' (by rw [rp.len]; have := olen i (Nat.le_of_lt hi); have : LN = 16777216 := rfl; have hln' : xs.length ≤ LN := hln; omega), C5, acc ++ [y], (cc.trans c2).trans (c4.trans c5), ?_, upd_same, cD6, rD, no6, by rw [eo]; exact (rp.mono ((c2.trans c4).trans c5)).snoc r5⟩
      -- the list grown: nobody else looks at it
      refine ⟨E6.len, fun q u e => by rw [upd_ne (ne_of_none e cD6)]; exact E6.cH _ _ e, fun q u e => by rw [upd_ne (ne_of_none e rD)]; exact E6.rH _ _ e, E6.rc, E6.dat, fun j w x e => ?_, E6.apart⟩
      obtain ⟨q, k1, k0, k2, k3, k4⟩ := E6.own j w x e
      have hq : q ≠ D := fun h => by subst h; exact no6 j w x e k1
      exact ⟨q, k1, k0, k2, k3, by rw [upd_ne hq]; exact k4⟩
    | false =>
      dsimp only
      rw [if_neg Bool.false_ne_true]
      obtain ⟨le, eo⟩ := hf rfl
      obtain ⟨E6, h6, cD6, no6⟩ := fin le E4
      exact ⟨C4, acc, (cc.trans c2).trans c4, E6, h6, cD6, rD, no6, by rw [eo]; exact rp.mono (c2.trans c4)⟩
  · left
    have ei : i = xs.length := by omega
    subst ei
    exact ⟨st, k (.ref D) C' H' (c1.trans cc) E' ⟨D, rfl, cD, rD, nD, acc, hHD, by rw [rp.len]; exact Nat.le_trans (olen _ (Nat.le_refl _)) hln, rp⟩⟩
theorem je_lcGE {tg iter elt : Expr} {ifs : List Expr} {scope : Scope} {xs : List PyData} (own : List (Str × Nat)) (ev : Nat → Env') (outs : Nat → List PyData) (hi : JIE T tg iter e0 ev xs) (hnd : T.N.Nodup) (ok : blkC T.N T.sc scope own = true) (o0 : outs 0 = [])
    (hu : ∀ i, i ≤ xs.length → unk (ev i) (own.map (·.2))) (turn : ∀ i d, xs[i]? = some d → LcTurn T scope tg elt ifs (own.map (·.2)) d (ev i) (ev (i + 1)) (outs i) (outs (i + 1))) (hs : ∀ (v : Env) x, foldedSetIterable iter v x = pure x := by intro _ _; rfl) :
    JE T (.ListComp elt [⟨tg, iter, ifs, 0⟩] scope pos) e0 (ev xs.length) (.o (.list (outs xs.length))) := fun X hX =>
  (pe_lc (own := own) (wi := tIJE X.K e0 ev xs) (g := tTgJ (T.blk scope) X.K tg) (tt := tIfsJ (T.blk scope) X.K ifs) (te := tEltJ (T.blk scope) X.K elt) hX.calm (by rw [hX.N]; exact hnd) (hi X hX) (by rw [hX.N, hX.sc]; exact blkOk_by ok)
    (fun s H C cl fp => ⟨fun pins s1 σ H1 v u Q I r ⟨js, d, F1, F2, jg, q⟩ => (jg _ (hX.blk scope s H C cl fp)).run pins s1 σ H1 v u Q I r q⟩)
    (fun s H C cl fp => ⟨fun pins s1 σ H1 Q I ⟨F1, F2, c, jt, q⟩ => (jt _ (hX.blk scope s H C cl fp)).run pins s1 σ H1 Q I q⟩)
    (fun s H C cl fp => ⟨fun pins s1 σ H1 Q I ⟨F1, F2, r, je, q⟩ => (je _ (hX.blk scope s H C cl fp)).run pins s1 σ H1 Q I q⟩) (hs X.env)).wk (lc_runE hX ev outs o0 hu turn)


variable {α β : Type} {tg iter elt : Expr} {ifs : List Expr} {scope : Scope} {enc : α → PyData} {dec : β → PyData} {xs : List α}
theorem je_lcB (own : List (Str × Nat)) (p : α → Bool) (g : α → PyData) (hi : JIE T tg iter e0 (fun _ => e0) (xs.map enc)) (hnd : T.N.Nodup) (ok : blkC T.N T.sc scope own = true) (hu : unk e0 (own.map (·.2)))
    (turn : ∀ x, x ∈ xs → LcP T scope tg elt ifs own e0 (enc x) (p x) (g x)) (hs : ∀ (v : Env) x, foldedSetIterable iter v x = pure x := by intro _ _; rfl) : JE T (.ListComp elt [⟨tg, iter, ifs, 0⟩] scope pos) e0 e0 (.o (.list ((xs.filter p).map g))) := by
  have := je_lcGE (pos := pos) (elt := elt) (ifs := ifs) (scope := scope) own (fun _ => e0) (fun i => ((xs.take i).filter p).map g) hi hnd ok (by simp) (fun _ _ => hu) (lcp_turn turn) hs
  simpa using this
theorem je_lcB0 (own : List (Str × Nat)) (g : α → β) (hi : JIE T tg iter e0 (fun _ => e0) (xs.map enc)) (hnd : T.N.Nodup) (ok : blkC T.N T.sc scope own = true) (hu : unk e0 (own.map (·.2)))
    (turn : ∀ x, x ∈ xs → LcP T scope tg elt [] own e0 (enc x) true (dec (g x))) (hs : ∀ (v : Env) x, foldedSetIterable iter v x = pure x := by intro _ _; rfl) : JE T (.ListComp elt [⟨tg, iter, [], 0⟩] scope pos) e0 e0 (.o (.list ((xs.map g).map dec))) := by
  have := je_lcB (pos := pos) own (fun _ => true) (fun x => dec (g x)) hi hnd ok hu turn hs
  rw [show xs.filter (fun _ => true) = xs from List.filter_eq_self.mpr (fun _ _ => rfl)] at this
  rw [List.map_map]; exact this
theorem je_lcB1 (own : List (Str × Nat)) (p : α → Bool) (g : α → β) (hi : JIE T tg iter e0 (fun _ => e0) (xs.map enc)) (hnd : T.N.Nodup) (ok : blkC T.N T.sc scope own = true) (hu : unk e0 (own.map (·.2)))
    (turn : ∀ x, x ∈ xs → LcP T scope tg elt ifs own e0 (enc x) (p x) (dec (g x))) (hs : ∀ (v : Env) x, foldedSetIterable iter v x = pure x := by intro _ _; rfl) : JE T (.ListComp elt [⟨tg, iter, ifs, 0⟩] scope pos) e0 e0 (.o (.list (((xs.filter p).map g).map dec))) := by
  have := je_lcB (pos := pos) own p (fun x => dec (g x)) hi hnd ok hu turn hs
  rw [List.map_map]; exact this
end
/-! ### sum of a tuple of whole numbers -/
section
variable {prog : Program} {w : World} {A : Around} {E : Value → Shared → Prop} {s : Shared}
theorem sum_rawT {l : Addr} {its : List Value} {ns : List Int} {Q : Value → Shared → Prop} (hh : A.handled = none) (hl : s.heap.IsTuple l its.toArray) (hi : IntsAre its ns)
    (h : ∀ h' tk t', (∀ b o, s.heap.get? b = some o → h'.get? b = some o) → Q (.int ns.sum t') { s with heap := h', toks := tk }) : wpAny (model prog w) A (call (.builtin "sum") [.ref l]) Q E s := by
  obtain ⟨xs, e⟩ := hi.allInts.items
  have hn : numsOf (intItems xs).toList = ns := by rw [← e]; exact hi.numsOf
  rw [nums_intItems] at hn
  rw [e] at hl
  refine PySem.W.ktm_sumG hh hl fun h' tk t' hk => ?_
  have := h h' tk t' hk
  rw [preSum_eq, List.take_of_length_le (by simp), hn]; exact this
end
section
variable {X : Cx}
def rSumT (K : PySem.W.Frag) : List V → Hp → VK → Prop := fun vs H Q => ∃ (a : Addr) (ns : List Int), vs = [V.ref a] ∧ SqT K H a (ns.map V.int) ∧ Q (.int ns.sum) H
theorem cr_sumT (hc : X.calm = true) : CallR X (.builtin "sum") (rSumT X.K) := by
  intro pins s σ H vs us Q I r h
  obtain ⟨a, ns, rfl, hs, q⟩ := h
  obtain ⟨its, rv, hl, _⟩ := I.tuple hs
  rw [Vals.ref1 r]
  exact sum_rawT (I.ok.hd hc) hl rv.ints fun h' tk t' hk => ⟨.int _, H, I.kept hk, ⟨_, rfl⟩, q⟩
end
section
variable {T : TC} {a b e : Expr} {es : List Expr} {env e0 e1 e2 e3 : Env'} {pos p : Pos}
theorem je_sumT {ns : List Int} (hg : glB T.sc "sum" = true) (hm : T.mg "sum" = none) (ha : JE T e e0 e1 (.b (.tuple (ns.map .int)))) (hp : Plain e [] pos := by exact ⟨fun _ => rfl, fun _ => rfl⟩) : JE T (.Call (.Name "sum" p) [e] [] pos) e0 e1 (.d (.int ns.sum)) :=
  je_bi1 (r := rSumT) (fun X hX => cr_sumT hX.calm) hg hm (by decide +kernel) ha (fun R C H env σ v Q E hv k => by
    obtain ⟨p, vs, rfl, h1, c1, l1, r1⟩ := rb_tup E hv
    have e := r1.int
    subst e
    exact ⟨p, ns, rfl, h1, k _ C H (Ex.refl C) E (.int _)⟩) hp
end
/-! ### things as things or None -/
section
variable {T : TC} {e : Expr} {e0 e1 : Env'} {α : Type} {enc : α → PyData} {xs : List α}
theorem some_map (enc : α → PyData) (xs : List α) : (xs.map some).map (eO enc) = xs.map enc := by rw [List.map_map]; rfl
theorem je_soLo (h : JE T e e0 e1 (.o (.list (xs.map enc)))) : JE T e e0 e1 (.o (.list ((xs.map some).map (eO enc)))) := by rw [some_map]; exact h
theorem je_soLd (h : JE T e e0 e1 (.d (.list (xs.map enc)))) : JE T e e0 e1 (.d (.list ((xs.map some).map (eO enc)))) := by rw [some_map]; exact h
theorem je_soLb (h : JE T e e0 e1 (.b (.list (xs.map enc)))) : JE T e e0 e1 (.b (.list ((xs.map some).map (eO enc)))) := by rw [some_map]; exact h
theorem je_soTd (h : JE T e e0 e1 (.d (.tuple (xs.map enc)))) : JE T e e0 e1 (.d (.tuple ((xs.map some).map (eO enc)))) := by rw [some_map]; exact h
theorem je_soTb (h : JE T e e0 e1 (.b (.tuple (xs.map enc)))) : JE T e e0 e1 (.b (.tuple ((xs.map some).map (eO enc)))) := by rw [some_map]; exact h
end
/-! ### x in t, t a tuple of data of any kind -/
section
variable {X : Cx}
def rInTD (K : PySem.W.Frag) : R2 := fun x y H Q => ∃ d ds, Dp K H x d ∧ Dp K H y (.tuple ds) ∧ SeqAt.shaped d = true ∧ SeqAt.shaped (.list ds) = true ∧ Q (.bl (ds.any fun z => PyData.eqv z d)) H
def rNotInTD (K : PySem.W.Frag) : R2 := fun x y H Q => ∃ d ds, Dp K H x d ∧ Dp K H y (.tuple ds) ∧ SeqAt.shaped d = true ∧ SeqAt.shaped (.list ds) = true ∧ Q (.bl (!ds.any fun z => PyData.eqv z d)) H
theorem op_inTD (hu : X.A.units + 65 < cLine) : OpR X (compareOp .In) (rInTD X.K) := by
  intro pins s σ H x y v u Q I rx ry h
  obtain ⟨d, ds, hd, he, sd, se, q⟩ := h
  obtain ⟨as, r1⟩ := Dp.reads I d x v hd rx
  obtain ⟨bs, r2⟩ := Dp.reads I (.tuple ds) y u he ry
  exact SeqAt.in_tuple_reads r2 r1 (SeqAt.canLay_of_shaped se) (SeqAt.canLay_of_shaped sd) (room_in_shaped sd hu) ⟨.bl _, H, I, rfl, q⟩
theorem op_notInTD (hu : X.A.units + 65 < cLine) : OpR X (compareOp .NotIn) (rNotInTD X.K) := by
  intro pins s σ H x y v u Q I rx ry h
  obtain ⟨d, ds, hd, he, sd, se, q⟩ := h
  obtain ⟨as, r1⟩ := Dp.reads I d x v hd rx
  obtain ⟨bs, r2⟩ := Dp.reads I (.tuple ds) y u he ry
  exact SeqAt.notIn_tuple_reads r2 r1 (SeqAt.canLay_of_shaped se) (SeqAt.canLay_of_shaped sd) (room_in_shaped sd hu) ⟨.bl _, H, I, rfl, q⟩
end
section
variable {T : TC} {a b : Expr} {e0 e1 e2 : Env'} {α : Type} {enc : α → PyData}
theorem shaped_tl {K : PySem.W.Frag} {C : Hp} {v : V} {ys : List PyData} (r : Rp K C v (.tuple ys)) (sy : shN 64 (.list ys) = true) : SeqAt.shaped (.list ys) = true := by
  have s1 : shN 64 (.tuple ys) = true := by simpa [shN] using sy
  have := r.shaped s1
  simpa [SeqAt.shaped, PyData.canLay0, PyData.depth] using this
theorem cj_inTBd [DecidableEq α] {x : α} {ys : List α} (h : JE2 T a b e0 e2 (enc x) (.tuple (ys.map enc))) (sh : ShE 63 enc) (sh' : ShE 64 enc) (eq : EqE enc) (hm : behindInMarks .In b = false := by rfl) : CJ T .In a b e0 e2 (inB x ys) := by
  have sy := sh_l sh ys
  have sx := sh' x
  have : CJ T .In a b e0 e2 ((ys.map enc).any fun z => PyData.eqv z (enc x)) := cj_mk (r := rInTD) (fun X hX => op_inTD (by have := hX.room.un; omega)) h (fun R C H env σ u v Q E hu hv k =>
    ⟨enc x, ys.map enc, (rb_rp E hu).dp' sx, (rb_rp E hv).dp' (by simpa [shN] using sy), (rb_rp E hu).shaped sx, shaped_tl (rb_rp E hv) sy, k _ C H (Ex.refl C) E (.bl _)⟩) hm
  rw [any_eqE eq] at this; exact this
theorem cj_notInTBd [DecidableEq α] {x : α} {ys : List α} (h : JE2 T a b e0 e2 (enc x) (.tuple (ys.map enc))) (sh : ShE 63 enc) (sh' : ShE 64 enc) (eq : EqE enc) (hm : behindInMarks .NotIn b = false := by rfl) : CJ T .NotIn a b e0 e2 (!inB x ys) := by
  have sy := sh_l sh ys
  have sx := sh' x
  have : CJ T .NotIn a b e0 e2 (!(ys.map enc).any fun z => PyData.eqv z (enc x)) := cj_mk (r := rNotInTD) (fun X hX => op_notInTD (by have := hX.room.un; omega)) h (fun R C H env σ u v Q E hu hv k =>
    ⟨enc x, ys.map enc, (rb_rp E hu).dp' sx, (rb_rp E hv).dp' (by simpa [shN] using sy), (rb_rp E hu).shaped sx, shaped_tl (rb_rp E hv) sy, k _ C H (Ex.refl C) E (.bl _)⟩) hm
  rw [any_eqE eq] at this; exact this
end
/-! ### sorted lists are one alone -/
theorem pySort_eq {α : Type} {f : α → PyData} (t : Tri f) {xs ys : List α} (h : xs.Perm ys) (s : ys.Pairwise fun a b => ltB f b a = false) : pySort f xs = ys :=
  List.Perm.eq_of_pairwise (le := fun a b => ltB f b a = false) (fun a b _ _ h1 h2 => t a b h2 h1) (pySort_sorted f xs) s ((pySort_perm f xs).trans h)
theorem flat_congr {α β : Type} {f g : α → List β} : ∀ {xs : List α}, (∀ x ∈ xs, f x = g x) → xs.flatMap f = xs.flatMap g
  | [], _ => rfl
  | x :: xs, h => by rw [List.flatMap_cons, List.flatMap_cons, h x (by simp), flat_congr fun y hy => h y (by simp [hy])]
/-! ### things as things of any kind -/
section
variable {T : TC} {e : Expr} {e0 e1 : Env'} {α : Type} {enc : α → PyData} {xs : List α}
theorem any_map (ds : List PyData) : ds.map eD = ds := List.map_id' ds
theorem je_anyLo (h : JE T e e0 e1 (.o (.list (xs.map enc)))) : JE T e e0 e1 (.o (.list ((xs.map enc).map eD))) := by rw [any_map]; exact h
theorem je_anyLd (h : JE T e e0 e1 (.d (.list (xs.map enc)))) : JE T e e0 e1 (.d (.list ((xs.map enc).map eD))) := by rw [any_map]; exact h
theorem je_anyLb (h : JE T e e0 e1 (.b (.list (xs.map enc)))) : JE T e e0 e1 (.b (.list ((xs.map enc).map eD))) := by rw [any_map]; exact h
theorem je_anyTd (h : JE T e e0 e1 (.d (.tuple (xs.map enc)))) : JE T e e0 e1 (.d (.tuple ((xs.map enc).map eD))) := by rw [any_map]; exact h
theorem je_anyTb (h : JE T e e0 e1 (.b (.tuple (xs.map enc)))) : JE T e e0 e1 (.b (.tuple ((xs.map enc).map eD))) := by rw [any_map]; exact h
end
end J
namespace J
open PySem L2 PySem.Spec PyProof.Rows PySem.W
section
variable {T : TC} {a b c e : Expr} {es : List Expr} {env e0 e1 e2 e3 : Env'} {pos p p1 p2 p3 : Pos} {x y z : PyData}
/-! ### tests whose later operands draw -/
theorem jw_orD {c c' : Bool} {rest : List Expr} (h : JT T a e0 e1 c) (h' : c = false → JW T (.BoolOp .Or (b :: rest) pos) e1 e2 c') (ht : c = true → Le e3 e1) (hf : c = false → Le e3 e2) : JW T (.BoolOp .Or (a :: b :: rest) pos) e0 e3 (c || c') := fun X hX => by
  cases c with
  | false => exact (pw_or (h X hX) (h' rfl X hX)).wk fun σ H Q ⟨R, C, E, k⟩ => ⟨R, C, E, fun C' H' c1 E' => by
      show tTJ X.K e1 e2 c' σ H' Q
      exact ⟨R, C', E', fun C2 H2 c2 E2 => k C2 H2 (c1.trans c2) (E2.le (hf rfl))⟩⟩
  | true => exact (pw_or (h X hX) pw_dead).wk fun σ H Q ⟨R, C, E, k⟩ => ⟨R, C, E, fun C' H' c1 E' => k C' H' c1 (E'.le (ht rfl))⟩
theorem jw_andD {c c' : Bool} {rest : List Expr} (h : JT T a e0 e1 c) (h' : c = true → JW T (.BoolOp .And (b :: rest) pos) e1 e2 c') (ht : c = false → Le e3 e1) (hf : c = true → Le e3 e2) : JW T (.BoolOp .And (a :: b :: rest) pos) e0 e3 (c && c') := fun X hX => by
  cases c with
  | true => exact (pw_and (h X hX) (h' rfl X hX)).wk fun σ H Q ⟨R, C, E, k⟩ => ⟨R, C, E, fun C' H' c1 E' => by
      show tTJ X.K e1 e2 c' σ H' Q
      exact ⟨R, C', E', fun C2 H2 c2 E2 => k C2 H2 (c1.trans c2) (E2.le (hf rfl))⟩⟩
  | false => exact (pw_and (h X hX) pw_dead).wk fun σ H Q ⟨R, C, E, k⟩ => ⟨R, C, E, fun C' H' c1 E' => k C' H' c1 (E'.le (ht rfl))⟩
end
section
variable {T : TC} {a b c e : Expr} {es : List Expr} {env e0 e1 e2 e3 : Env'} {pos p p1 p2 p3 : Pos} {x y z : PyData}
theorem je_andD {c c' : Bool} {rest : List Expr} (h : JE T a e0 e1 (.d (.bool c))) (h' : c = true → JE T (.BoolOp .And (b :: rest) pos) e1 e2 (.d (.bool c'))) (ht : c = false → Le e3 e1) (hf : c = true → Le e3 e2) : JE T (.BoolOp .And (a :: b :: rest) pos) e0 e3 (.d (.bool (c && c'))) := fun X hX => by
  cases c with
  | true =>
    refine (pe_and (h X hX) (h' rfl X hX)).wk fun σ H Q ⟨R, C, E, k⟩ => ⟨R, C, E, fun v C1 H1 c1 E1 r1 => ?_⟩
    cases r1
    refine ⟨true, rfl, ?_⟩
    simp only [if_true]
    exact ⟨R, C1, E1, fun w C2 H2 c2 E2 r2 => k w C2 H2 (c1.trans c2) (E2.le (hf rfl)) r2⟩
  | false =>
    refine (pe_and (h X hX) pe_dead).wk fun σ H Q ⟨R, C, E, k⟩ => ⟨R, C, E, fun v C1 H1 c1 E1 r1 => ?_⟩
    cases r1
    refine ⟨false, rfl, ?_⟩
    simp only [Bool.false_eq_true, if_false]
    exact k _ C1 H1 c1 (E1.le (ht rfl)) (.bl false)
end
/-! ### text * n -/
def repS (x : Str) (n : Int) : Str := ⟨(List.replicate n.toNat x.cps).foldl (· ++ ·) #[]⟩
structure RepS (x : Str) (n : Int) : Prop where
  lo : 2 ≤ n
  hi : n ≤ 1000
  ne : (x.length == 0) = false
  sm : x.length ≤ 1000
  ln : (repS x n).length ≤ 1000000
  ok : sOk (repS x n)
section
variable {X : Cx}
def rRepS : R2 := fun x y H Q => ∃ s n, x = .str s ∧ y = .int n ∧ RepS s n ∧ Q (.str (repS s n)) H
theorem op_repS : OpR X (binaryOp .Mult) rRepS := by
  intro pins s σ H x y v u Q I rx ry h
  obtain ⟨z, n, rfl, rfl, k, q⟩ := h
  obtain ⟨t, rfl⟩ := rx
  obtain ⟨t', rfl⟩ := ry
  obtain ⟨h1, h2, h3, h4, h5, h6⟩ := k
  have c0 : (decide (n < -(2 ^ 63 : Int)) || decide (n ≥ 2 ^ 63)) = false := by
    rw [decide_eq_false (by omega), decide_eq_false (by omega)]; rfl
  have hm : ((z.length : Nat) : Int) * n ≤ 1000 * 1000 := Int.mul_le_mul (by omega) h2 (by omega) (by omega)
  refine P.mul_str c0 (fun _ _ hgt => ?_) (fun _ _ => ?_) ?_
  · have h7 : ((z.length : Nat) : Int) ≤ (2 ^ 63 - 1) / n := Int.le_ediv_of_mul_le (by omega) (by omega)
    omega
  · unfold Builtin.Str.tooLong
    rw [sizeLine_eq]
    refine decide_eq_false ?_
    have : z.length * n.toNat ≤ 1000 * 1000 := Nat.mul_le_mul h4 (by omega)
    omega
  · rw [if_neg (by omega)]
    have c1 : (n == 1 || z.length == 0) = false := by
      rw [h3, Bool.or_false]; exact beq_eq_false_iff_ne.mpr (by omega)
    rw [c1]
    simp only [Bool.false_eq_true, if_false]
    exact ⟨by show (repS z n).length ≤ _; rw [sizeLine_eq]; omega, ⟨.str (repS z n), H, I.tok _, ⟨_, rfl⟩, q⟩⟩
end
section
variable {T : TC} {a b c e : Expr} {es : List Expr} {env e0 e1 e2 e3 : Env'} {pos p p1 p2 p3 : Pos} {x y z : PyData}
theorem je_mulS {i : Str} {n : Int} (h : JE2 T a b e0 e2 (.str i) (.int n)) (hk : RepS i n) : JE T (.BinOp a .Mult b pos) e0 e2 (.d (.str (repS i n))) :=
  je_bin (r := fun _ => rRepS) (fun X _ => op_repS) h fun R C H env σ u v Q E hu hv k =>
    ⟨i, n, rb_str E hu, rb_int E hv, hk, k _ C H (Ex.refl C) E (.str hk.ok)⟩
end
end J
namespace J
open PySem L2 PySem.Spec PyProof.Rows
/-! ### t[lo:hi].count(None), a true part of a tuple -/
def tSlC (K : PySem.W.Frag) (te : TE) (tl th : TO) : TE := fun σ H Q => te σ H fun x H1 => tl σ H1 fun l H2 => th σ H2 fun u H3 =>
  ∃ (a : Addr) (vs : List V) (ds : List PyData), x = .ref a ∧ SqT K H3 a vs ∧ ¬ (HT.sIx vs.length 0 l = 0 ∧ HT.sIx vs.length vs.length u = vs.length) ∧
    DpAll K H3 (cutV vs l u) ds ∧ PyData.canLayAll0 ds = true ∧ Q (.int ((ds.countP fun y => PyData.eqv y .none : Nat) : Int)) H3
theorem pe_slC {X : Cx} {e : Expr} {te : TE} {lo hi : Option Expr} {tl th : TO} {pos p2 apos cpos : Pos} {j : Nat} {pn : Pos} (hun : X.A.units + 65 < cLine) (he : PE X e te) (hl : PO X lo tl) (hu : PO X hi th)
    (hbase : attributeBase (.Subscript e (.Slice lo hi none p2) pos) "count" X.env (eval (.Subscript e (.Slice lo hi none p2) pos) X.env) = eval (.Subscript e (.Slice lo hi none p2) pos) X.env)
    (hfew : ((backTo cpos (starEach [.Constant .none j pn] X.env)).all (fun x => !x.1) && (backToKw cpos (keywordEach [] X.env)).all (fun x => x.1.isSome)
      && decide (([.Constant .none j pn] : List Expr).length + ([] : List Keyword).length + (if ([] : List Keyword).isEmpty then 0 else 1) < 30)) = true)
    (hline : (apos.endLine == cpos.line) = true) (hs : starEach [.Constant .none j pn] X.env = [(false, eval (.Constant .none j pn) X.env)]) :
    PE X (.Call (.Attribute (.Subscript e (.Slice lo hi none p2) pos) "count" apos) [.Constant .none j pn] [] cpos) (tSlC X.K te tl th) := by
  refine ⟨fun pins s σ H Q I h => ?_⟩
  refine wpAny_Call_method_late hbase hfew hline rfl ?_
  refine Subscript_ (thn (he.run pins s σ H _ I h) fun v s1 ⟨x, H1, I1, r1, q1⟩ => ?_)
  refine wpAny_Slice (thn (hl.run pins s1 σ H1 _ I1 q1) fun vl s2 ⟨l, H2, I2, pl, q2⟩ => thn (hu.run pins s2 σ H2 _ I2 q2) fun vu s3 ⟨u, H3, I3, pu, q3⟩ => ?_)
  rw [evalPart_none]
  refine wpAny_pure ?_
  have I4 : Inv X pins σ H3 { s3 with heap := s3.heap.push { cls := .type "slice", data := .fields #[vl, vu, .none] } } := I3.kept (t' := s3.toks) fun b ob q => Heap.get?_push_of_some _ q
  obtain ⟨a, vs, ds, rfl, hx, hw, hd, hc, q⟩ := q3
  cases r1
  obtain ⟨its, r, ht, hz⟩ := I4.tuple hx
  have hlen : its.toArray.size = vs.length := by rw [List.size_toArray]; exact r.length.symm
  refine tail_any (ops := [.ref s3.heap.objs.size, .ref a]) ht.typeIs PyProof.Rows.slot_tuple_getitem.lookup ?_ (by with_unfolding_all rfl)
  refine HT.getItem_tuple_cut ht (Heap.IsSliceOf.new ..) pl pu (by rw [hlen]; exact hw) ?_ (by rw [hlen]; exact hz)
  rw [hlen]
  generalize eh : Heap.push (Heap.push s3.heap { cls := .type "slice", data := .fields #[vl, vu, .none] }) _ = h5
  have I5 : Inv X pins σ H3 { s3 with heap := h5 } := by
    rw [← eh]; exact I4.kept (t' := s3.toks) fun b ob q => Heap.get?_push_of_some _ q
  have hit : h5.get? (s3.heap.push { cls := .type "slice", data := .fields #[vl, vu, .none] }).objs.size = some { cls := .type "tuple", data := .seq ((List.take (HT.sIx vs.length vs.length u - HT.sIx vs.length 0 l) (List.drop (HT.sIx vs.length 0 l) its)).toArray) } := by
    rw [← eh]; exact Heap.get?_push_size _ rfl
  generalize (s3.heap.push { cls := .type "slice", data := .fields #[vl, vu, .none] }).objs.size = t at hit ⊢
  have rv : Vals (cutV vs l u) (List.take (HT.sIx vs.length vs.length u - HT.sIx vs.length 0 l) (List.drop (HT.sIx vs.length 0 l) its)) := (r.drop _).take _
  generalize (List.take (HT.sIx vs.length vs.length u - HT.sIx vs.length 0 l) (List.drop (HT.sIx vs.length 0 l) its)) = cut at hit rv
  obtain ⟨as, rs⟩ := Dp.readsAll I5 ds _ cut hd rv
  refine ⟨"tuple", "tuple.count", PySem.F.plainAttrs_tuple, PySem.F.slot_tuple_count, PySem.F.type_tuple_count, ⟨_, hit, rfl⟩, fun b eb => by cases eb; exact ⟨_, hit, rfl⟩, ?_⟩
  rw [hs]
  refine Calls.callWith_builtin rfl (Calls.evalArgs_plain ?_)
  refine Calls.spliced_cons (show wpAny _ _ (eval (.Constant .none j pn) X.env) _ _ _ from Constant_none (Calls.spliced_nil ?_))
  refine call_meets PySem.F.slot_tuple_count ⟨_, hit, rfl⟩ PySem.F.entry_tuple_count (PySem.F.args_tuple_count_2 _ _)
    (SeqAt.tuple_countAt t cut.toArray _ _ _ .none (fun y => PyData.eqv (SeqAt.readOf h5 y) .none)) ⟨hit, SeqAt.items_eqAt (as := as) (bs := []) (by simpa using rs) Reads.none hc rfl ?_, ?_⟩
  · exact room_in_shaped (d := .none) rfl hun
  · rw [← SeqAt.readsAll_map ds cut as hc rs, List.countP_map] at q
    exact ⟨.int _, H3, I5.tok _, ⟨_, rfl⟩, q⟩
section
variable {T : TC} {a : Expr} {e0 e1 e2 e3 : Env'} {pos : Pos} {α : Type} {enc : α → PyData}
theorem shc {p : PyData → Prop} {x : PyData} {xs : List PyData} (h : p x) (h' : ∀ y ∈ xs, p y) : ∀ y ∈ x :: xs, p y := fun y hy => by
  rcases List.mem_cons.mp hy with rfl | hy
  · exact h
  · exact h' y hy
theorem shn {p : PyData → Prop} : ∀ y ∈ ([] : List PyData), p y := fun y hy => by cases hy
def cntN (xs : List PyData) : Int := ((xs.countP fun y => PyData.eqv y .none : Nat) : Int)
/-- the part of a tuple is a true one -/
def cutTrue (n : Nat) (lo hi : Option Int) : Prop := ¬ (HT.sIx n 0 lo = 0 ∧ HT.sIx n n hi = n)
theorem je_slCount {xs : List PyData} {lo hi : Option Int} {l u : Option Expr} {p2 apos cpos pn : Pos} {j : Nat} (h : JE T a e0 e1 (.d (.tuple xs))) (hl : JO T l e1 e2 lo) (hu : JO T u e2 e3 hi) (hw : cutTrue xs.length lo hi)
    (sh : ∀ x ∈ xs, shN 63 x = true) (hf : PlainE (.Subscript a (.Slice l u none p2) pos) "count" apos (.Constant .none j pn) [] cpos := by exact ⟨fun _ => rfl, fun _ => rfl, rfl, fun _ => rfl, fun _ => rfl⟩) :
    JE T (.Call (.Attribute (.Subscript a (.Slice l u none p2) pos) "count" apos) [.Constant .none j pn] [] cpos) e0 e3 (.d (.int (cntN (cutL xs lo hi)))) := fun X hX =>
  (pe_slC (by have := hX.room.un; omega) (h X hX) (hl X hX) (hu X hX) (hf.base X.env) (hf.few X.env) hf.line (hf.hs X.env)).wk fun σ H Q ⟨R, C, E, k⟩ => ⟨R, C, E, fun v C1 H1 c1 E1 r1 => ⟨R, C1, E1, fun C2 H2 c2 E2 => ⟨R, C2, E2, fun C3 H3 c3 E3 => by
    rw [hX.K] at *
    obtain ⟨p, vs, rfl, h1, q1, l1, r1⟩ := rb_tup E3 (.inl (r1.mono (c2.trans c3)))
    have sc : ∀ x ∈ cutL xs lo hi, shN 63 x = true := fun x hx => sh x (List.drop_subset _ _ (List.take_subset _ _ hx))
    have ss : shN 64 (.tuple (cutL xs lo hi)) = true := by rw [shN, List.all_eq_true]; exact sc
    have pa : pureAll (cutL xs lo hi) = true := pureAll_of fun x hx => (shN_of (sc x hx)).1
    have rc := rps_cut r1 lo hi
    have rl := r1.len
    refine ⟨p, vs, cutL xs lo hi, rfl, h1, by rw [rl]; exact hw, (rc.mono E3.cH).dps pa, rc.can pa, k _ C3 H3 ((c1.trans c2).trans c3) E3 (.int _)⟩⟩⟩⟩
end
end J
namespace J
/-- turns enough for a while -/
@[irreducible] def fuel : Nat := 1000000
theorem fuel_eq : fuel = 1000000 := by unfold fuel; rfl
open PySem L2 PySem.Spec PyProof.Rows
/-! ### "".join(texts) -/
def joinS (ys : List Str) : Str := Str.join ("" : Str) ys
theorem app_e (x : Str) : x ++ ("" : Str) = x := by
  show (⟨x.cps ++ #[]⟩ : Str) = x
  rw [Array.append_empty]
theorem joinS_cons (x : Str) (ys : List Str) : joinS (x :: ys) = x ++ joinS ys := by
  cases ys with
  | nil => show x = x ++ ("" : Str); rw [app_e]
  | cons y ys => show x ++ ("" : Str) ++ Str.join ("" : Str) (y :: ys) = _; rw [app_e]; rfl
theorem joinS_len : ∀ ys : List Str, (joinS ys).length = (ys.map (·.length)).sum
  | [] => rfl
  | x :: ys => by rw [joinS_cons, len_app, joinS_len ys]; rfl
theorem joinS_ok : ∀ ys : List Str, (∀ y ∈ ys, sOk y) → (ys.map (·.length)).sum ≤ LN → sOk (joinS ys)
  | [], _, _ => ⟨by decide +kernel, by decide +kernel⟩
  | x :: ys, h, hl => by
    rw [joinS_cons]
    have hl : x.length + (ys.map (·.length)).sum ≤ LN := hl
    exact sOk_app (h x (by simp)) (joinS_ok ys (fun y hy => h y (by simp [hy])) (by omega)) (by rw [joinS_len]; exact hl)
theorem signs_app (i j : Str) : J.signs (i ++ j) = J.signs i ++ J.signs j := by
  unfold J.signs
  show List.map _ (i.cps ++ j.cps).toList = _
  rw [Array.toList_append, List.map_append]
theorem signs_one {x : Str} (h : x.length = 1) : J.signs x = [x] := by
  obtain ⟨⟨l⟩⟩ := x
  match l, h with
  | [c], _ => rfl
theorem signs_join : ∀ ys : List Str, (∀ y ∈ ys, y.length = 1) → J.signs (joinS ys) = ys
  | [], _ => rfl
  | x :: ys, h => by rw [joinS_cons, signs_app, signs_one (h x (by simp)), signs_join ys fun y hy => h y (by simp [hy])]; rfl
section
variable {T : TC} {a b c e o : Expr} {es : List Expr} {env e0 e1 e2 e3 : Env'} {pos p p1 p2 p3 : Pos} {K : PySem.W.Frag} {R C C' H H' : Hp} {σ : L2.St} {v : V}
theorem rps_strs {ys : List Str} {vs : List V} (r : Rps K C vs (ys.map .str)) : vs = ys.map V.str ∧ ∀ y ∈ ys, sOk y := by
  induction ys generalizing vs with
  | nil => rw [List.map_nil] at r; cases r; exact ⟨rfl, fun y hy => by cases hy⟩
  | cons y ys ih =>
    rw [List.map_cons] at r
    cases r with
    | cons r1 r2 =>
      obtain ⟨e, h⟩ := ih r2
      cases r1 with
      | str o1 =>
        subst e
        exact ⟨rfl, fun z hz => by
          rcases List.mem_cons.mp hz with rfl | hz
          · exact o1
          · exact h z hz⟩
theorem je_join {ys : List Str} {apos : Pos} (ho : JE T o e0 e1 (.d (.str ("" : Str)))) (he : JE T e e1 e2 (.b (.list (ys.map .str)))) (hl : (ys.map (·.length)).sum ≤ LN)
    (hf : PlainE o "join" apos e [] pos := by exact ⟨fun _ => rfl, fun _ => rfl, rfl, fun _ => rfl, fun _ => rfl⟩) : JE T (.Call (.Attribute o "join" apos) [e] [] pos) e0 e2 (.d (.str (joinS ys))) := fun X hX =>
  (pe_join (ho X hX) (he X hX) (hf.hs X.env) (hf.base X.env) hf.line).wk fun σ H Q ⟨R, C, E, k⟩ => ⟨R, C, E, fun v C1 H1 c1 E1 r1 => by
    have e := rb_str E1 (.inl r1)
    subst e
    refine ⟨⟨_, rfl⟩, R, C1, E1, fun w C2 H2 c2 E2 r2 => ?_⟩
    rw [hX.K] at *
    obtain ⟨q, vs, rfl, h1, l1, r1⟩ := rb_lst E2 r2
    obtain ⟨ev, hs⟩ := rps_strs r1
    subst ev
    refine ⟨_, q, ys, rfl, rfl, .inl (SqL.of h1), by show _ + ys.length * 0 ≤ 16777216; rw [Nat.mul_zero]; exact hl, ?_⟩
    rw [show Txt.join ("" : Str) ys = joinS ys from TL.join_eq _ _]
    exact k _ C2 H2 (c1.trans c2) E2 (.str (joinS_ok ys hs hl))⟩
/-! ### len(range(a, b, c)) -/
def lenR (i j k : Int) : Int := Builtin.Range.rangeSize i j k
def lenROk (i j k : Int) : Prop := (-1000000 ≤ i ∧ i ≤ 1000000) ∧ (-1000000 ≤ j ∧ j ≤ 1000000) ∧ (0 < k ∧ k ≤ 1000000)
def tLR (ta : TA) : TE := fun σ H Q => ta σ H fun vs H1 => ∃ i j k : Int, vs = [.int i, .int j, .int k] ∧ lenROk i j k ∧ Q (.int (lenR i j k)) H1
theorem lenR_bd {i j k : Int} (h : lenROk i j k) : 0 ≤ lenR i j k ∧ lenR i j k < 2 ^ 62 := by
  obtain ⟨h1, h2, h3⟩ := h
  unfold lenR Builtin.Range.rangeSize
  rw [if_pos (by omega)]
  split
  · have a : 0 ≤ (j - i - 1) / k := Int.ediv_nonneg (by omega) (by omega)
    have b : (j - i - 1) / k ≤ j - i - 1 := Int.ediv_le_self _ (by omega)
    omega
  · omega
theorem pe_lenR {X : Cx} {a b c : Expr} {ta : TA} {p p1 p2 pos : Pos} (hgl : Gl X "len") (hml : X.mg "len" = none) (hgr : Gl X "range") (hmr : X.mg "range" = none) (ha : PA X [a, b, c] ta)
    (ho : starEach [.Call (.Name "range" p1) [a, b, c] [] p2] X.env = [(false, eval (.Call (.Name "range" p1) [a, b, c] [] p2) X.env)])
    (hs : starEach [a, b, c] X.env = (false, eval a X.env) :: starEach [b, c] X.env) (hp : (backTo p2 (starEach [b, c] X.env)).any (·.1) = false) :
    PE X (.Call (.Name "len" p) [.Call (.Name "range" p1) [a, b, c] [] p2] [] pos) (tLR ta) := by
  refine ⟨fun pins s σ H Q I h => ?_⟩
  refine wpAny_Call_Name_kw (ld_blt I hgl hml boot_len ?_ (by decide) (by decide))
  refine PyProof.Rows.callWith_builtin1 (e := .Call (.Name "range" p1) [a, b, c] [] p2) (rest := []) ?_ ho rfl
  rw [ho]
  refine Calls.spliced_cons (show wpAny _ _ (eval (.Call (.Name "range" p1) [a, b, c] [] p2) X.env) _ _ _ from ?_)
  refine Call_ (ld_blt I hgr hmr boot_range (PyProof.Rows.callWith_type1 (thn (ha.run p2 pins s σ H _ I h) fun us s1 ⟨vs, H1, I1, r1, q1⟩ => ?_) hs hp))
  obtain ⟨i, j, k, e, hk, q⟩ := q1
  subst e
  cases r1 with
  | cons r rr =>
    cases rr with
    | cons r' rr =>
      cases rr with
      | cons r'' rr =>
        cases rr
        obtain ⟨t, rfl⟩ := r
        obtain ⟨t', rfl⟩ := r'
        obtain ⟨t'', rfl⟩ := r''
        obtain ⟨h1, h2, h3⟩ := hk
        refine call_range_3 (by omega) (Calls.spliced_nil ?_) (Or.inl (PyProof.noPylong_small (by omega)))
        have I2 : Inv X pins σ H1 { s1 with heap := s1.heap.push { cls := .type "range", data := .fields #[.int i t, .int j t', .int k t''] } } := I1.kept (t' := s1.toks) fun b o e => Heap.get?_push_of_some _ e
        obtain ⟨b1, b2⟩ := lenR_bd (i := i) (j := j) (k := k) ⟨h1, h2, h3⟩
        refine call_len_range (n := (lenR i j k).toNat) (IsRange.new ..) (by show lenR i j k = _; omega) (by omega) ?_
        have e : (((lenR i j k).toNat : Nat) : Int) = lenR i j k := by omega
        rw [e]
        exact ⟨.int _, H1, I2.tok _, ⟨_, rfl⟩, q⟩
theorem je_lenR {i j k : Int} (hgl : glB T.sc "len" = true) (hml : T.mg "len" = none) (hgr : glB T.sc "range" = true) (hmr : T.mg "range" = none) (ha : JA T [a, b, c] e0 e1 [.int i, .int j, .int k]) (hk : lenROk i j k)
    (ho : ∀ v : Env, starEach [.Call (.Name "range" p1) [a, b, c] [] p2] v = [(false, eval (.Call (.Name "range" p1) [a, b, c] [] p2) v)] := by intro _; rfl)
    (hs : ∀ v : Env, starEach [a, b, c] v = (false, eval a v) :: starEach [b, c] v := by intro _; rfl) (hp : ∀ v : Env, (backTo p2 (starEach [b, c] v)).any (·.1) = false := by intro _; rfl) :
    JE T (.Call (.Name "len" p) [.Call (.Name "range" p1) [a, b, c] [] p2] [] pos) e0 e1 (.d (.int (lenR i j k))) := fun X hX =>
  (pe_lenR (gl_of hX hgl) (by rw [hX.mg]; exact hml) (gl_of hX hgr) (by rw [hX.mg]; exact hmr) (ha X hX) (ho X.env) (hs X.env) (hp X.env)).wk fun σ H Q ⟨R, C, E, kk⟩ => ⟨R, C, E, fun vs C1 H1 c1 E1 r1 => by
    cases r1 with
    | cons r1 r2 => cases r2 with
      | cons r2 r3 => cases r3 with
        | cons r3 r4 =>
          cases r4
          cases r1; cases r2; cases r3
          exact ⟨i, j, k, rfl, hk, kk _ C1 H1 c1 E1 (.int _)⟩⟩
end
end J
namespace J
open PySem L2 PySem.Spec PyProof.Rows PySem.W
/-! ### sorted(a tuple) -/
section
variable {prog : Program} {w : World} {A : Around} {E : Value → Shared → Prop} {s : Shared} {β : Type} {vs : List Value} {bs : List β} {enc : β → PyData} {R : Value → β → Prop}
theorem sorted_tupD {l : Addr} {Q : Value → Shared → Prop} (hl : IsTup s.heap l vs.toArray) (e : EachIs R vs bs) (er : EachIs (fun v b => ∃ as, Reads s.heap v (enc b) as) vs bs) (hal : AllAlike (bs.map enc)) (hk : Sortable (bs.map enc)) (hL : bs.length ≤ sizeLine)
    (hu : ∀ b, b ∈ bs → A.units + 2 + (enc b).depth < cLine)
    (h : ∀ (h1 h' : Heap) (out : List Value) (n : Nat), (∀ b o, s.heap.get? b = some o → h1.get? b = some o) → (∀ b o, h1.get? b = some o → h'.get? b = some o) → h'.get? h1.objs.size = some (seqObj "list" out.toArray n) → out.length = bs.length → EachIs R out (bs.mergeSort (dataLe false enc)) → Q (.ref h1.objs.size) { s with heap := h' }) :
    wpAny (model prog w) A (call (.builtin "sorted") [.ref l]) Q E s := by
  have hLv : vs.length ≤ sizeLine := by rw [e.length]; exact hL
  obtain ⟨o, ho, hc, n, hd⟩ := hl
  refine Calls.call_function_entry kind_sorted plain_sorted entry_sorted (args_sorted1 _) ?_
  unfold Builtin.«sorted»
  refine wpAny_bind (m := checkCount "sorted" 1 1 _) (wpAny_pure ?_)
  refine wpAny_bind (wpAny_collect_seq l (.inr rfl) ho hc hd (fun h1 keep => ?_) (by rw [List.size_toArray]; exact hLv))
  refine wpAny_bind (wpAny_newList ?_ hLv)
  have hoL : (h1.push (seqObj "list" vs.toArray 0)).get? h1.objs.size = some (seqObj "list" vs.toArray 0) := Heap.get?_push_size _ rfl
  have old : ∀ b o, s.heap.get? b = some o → b ≠ h1.objs.size ∧ (h1.push (seqObj "list" vs.toArray 0)).get? b = some o := fun b o q => ⟨Nat.ne_of_lt (Heap.lt_size (keep b o q)), Heap.get?_push_of_some _ (keep b o q)⟩
  have er' : EachIs (fun v b => ∃ as, Reads (sortingHeap (h1.push (seqObj "list" vs.toArray 0)) h1.objs.size vs) v (enc b) as) vs bs :=
    er.mono fun _ _ ⟨as, r⟩ => ⟨as, PyProof.Rows.Reads.keeps (fun b o q => sortingHeap_old (old b o q).1 (old b o q).2) r⟩
  have S := SortsAt.data (prog := prog) (w := w) (A := A.in1.in1) (s := { s with heap := sortingHeap (h1.push (seqObj "list" vs.toArray 0)) h1.objs.size vs }) (each_map (R := fun v d => ∃ as, Reads (sortingHeap (h1.push (seqObj "list" vs.toArray 0)) h1.objs.size vs) v d as) enc er') hal hk (bound_map hu)
  show wpAny _ _ _ _ _ { s with heap := h1.push (seqObj "list" vs.toArray 0) }
  refine wpAny_bind (wpAny_holding (wpAny_call_entry slot_list_sort ⟨_, hoL, rfl⟩ entry_list_sort ?body (args_list_sort _)))
  case body =>
    refine list_sort_vals (s := { s with heap := h1.push (seqObj "list" vs.toArray 0) }) hoL S hLv ⟨_, rfl, wpAny_pure ⟨_, rfl, ?_⟩⟩
    obtain ⟨n', hn'⟩ := sortedHeap_at (vs := vs) (out := (sortVals (dataKind (sortingHeap (h1.push (seqObj "list" vs.toArray 0)) h1.objs.size vs) (bs.map enc)) false vs vs).toArray) hoL
    refine h h1 _ _ n' keep (fun b o q => ?_) hn' (by rw [sortVals_length false rfl]; exact e.length) (sortVals_data false e er' hal)
    have q1 : b ≠ h1.objs.size := Nat.ne_of_lt (Heap.lt_size q)
    have q2 : (h1.push (seqObj "list" vs.toArray 0)).get? b = some o := Heap.get?_push_of_some _ q
    rw [sortedHeap_old q1 (Heap.lt_size q2)]
    exact q2
end
section
variable {X : Cx}
def rSortTD (K : PySem.W.Frag) : List V → Hp → VK → Prop := fun vs H Q => ∃ (a : Addr) (ys : List V) (ds : List PyData), vs = [.ref a] ∧ SqT K H a ys ∧ DpAll K H ys ds ∧ AllAlike ds ∧ Sortable ds ∧ PyData.depthAll ds ≤ 64 ∧
  ∀ p, H p = none → Q (.ref p) (upd H p (.lst (((ys.zip ds).mergeSort (dataLe false (·.2))).map (·.1))))
theorem cr_sortTD (hu : X.A.units + 200 < cLine) : CallR X (.builtin "sorted") (rSortTD X.K) := by
  intro pins s σ H xs us Q I rv h
  obtain ⟨a, ys, ds, rfl, hq, hd, al, so, dp, q⟩ := h
  have eu := Vals.ref1 rv
  subst eu
  obtain ⟨its, r, pl, hz⟩ := I.tuple hq
  obtain ⟨as, ra⟩ := Dp.readsAll I ds ys its hd r
  have hlen : ys.length = ds.length := dpAll_len hd
  have e1 : (ys.zip ds).map (·.2) = ds := List.map_snd_zip (by omega)
  have R1 := zipR r hlen
  have R2 := zipRd r ra
  have hdep : ∀ b, b ∈ ys.zip ds → X.A.units + 2 + b.2.depth < cLine := fun b hb => by
    have hm : b.2 ∈ ds := by
      have : b.2 ∈ (ys.zip ds).map (·.2) := List.mem_map.mpr ⟨b, hb, rfl⟩
      rw [e1] at this; exact this
    have := depth_mem hm
    omega
  refine sorted_tupD (R := fun (u : Value) (b : V × PyData) => RelV b.1 u) (enc := fun b => b.2) (bs := ys.zip ds) pl R1 R2 (by rw [e1]; exact al) (by rw [e1]; exact so) (by rw [List.length_zip]; omega) hdep fun h1 h' out n k1 k2 he ho hout => ?_
  have hv := eachVals hout
  have I1 : Inv X pins σ H { s with heap := h1 } := I.kept (t' := s.toks) k1
  have hn : H h1.objs.size = none := I1.hok.fresh (Nat.le_refl _)
  refine ⟨.ref h1.objs.size, _, I1.laid (a := h1.objs.size) (o := .lst _) (t' := s.toks) (fun b ob q => k2 b ob q) (Nat.le_refl _) ?_, rfl, q _ hn⟩
  exact ⟨by rw [List.length_map, List.length_mergeSort, List.length_zip]; omega, out, n, hv, he⟩
end
section
variable {T : TC} {a b e : Expr} {es : List Expr} {env e0 e1 e2 e3 : Env'} {pos p : Pos} {α : Type} {enc : α → PyData} {xs zs : List α}
theorem je_sortT (hg : glB T.sc "sorted" = true) (hm : T.mg "sorted" = none) (ha : JE T e e0 e1 (.b (.tuple (xs.map enc)))) (al : AlkE enc) (so : SrtE enc) (sh : shN 64 (.list (xs.map enc)) = true) (hp : Plain e [] pos := by exact ⟨fun _ => rfl, fun _ => rfl⟩) : JE T (.Call (.Name "sorted" p) [e] [] pos) e0 e1 (.o (.list ((pySort enc xs).map enc))) :=
  je_bi1 (r := rSortTD) (fun X hX => cr_sortTD (room_units hX)) hg hm (by decide +kernel) ha (fun R C H env σ v Q E hv k => by
    obtain ⟨p, vs, rfl, h1, c1, l1, r1⟩ := rb_tup E hv
    obtain ⟨q1, q2⟩ := shN_all (n := 63) sh
    have aa := al.all xs
    refine ⟨p, vs, xs.map enc, rfl, h1, (r1.mono E.cH).dps q1, aa.1, ?_, by omega, fun q hq => ?_⟩
    · rcases so with so | so
      · left; intro d hd
        obtain ⟨a, _, rfl⟩ := List.mem_map.mp hd
        exact so a
      · right; intro d hd
        obtain ⟨a, _, rfl⟩ := List.mem_map.mp hd
        exact ⟨al.2 a, so a⟩
    · have e1 : (vs.zip (xs.map enc)).map (·.2) = xs.map enc := List.map_snd_zip (by rw [r1.len]; exact Nat.le_refl _)
      have key : ((vs.zip (xs.map enc)).mergeSort (dataLe false (·.2))).map (·.2) = (pySort enc xs).map enc := by
        rw [sort_maps (r := dataLe false fun b : V × PyData => b.2) (s := dataLe false fun d => d) (fun b : V × PyData => b.2) (fun _ _ _ _ => rfl), e1]
        unfold pySort
        rw [sort_maps (r := dataLe false enc) (s := dataLe false fun d => d) enc (fun _ _ _ _ => rfl)]
      have rr := rps_of_pairs (zs := (vs.zip (xs.map enc)).mergeSort (dataLe false (·.2))) (K := T.K) (C := C) fun b hb => rps_pairs r1 b (List.mem_mergeSort.mp hb)
      rw [key] at rr
      obtain ⟨E', r⟩ := E.freshO hq (by rw [List.length_map, List.length_mergeSort, List.length_zip]; omega) rr
      exact k _ C _ (Ex.refl C) E' r) hp
/-! ### things or None, none of them None -/
theorem un_map [Inhabited α] (enc : α → PyData) {xs : List (Option α)} (h : ∀ x ∈ xs, x.isSome = true) : xs.map (eO enc) = (xs.map unO).map enc := by
  rw [List.map_map]
  refine List.map_congr_left fun x hx => ?_
  have := h x hx
  cases x with
  | none => cases this
  | some y => rfl
theorem je_unLb [Inhabited α] {xs : List (Option α)} (h : JE T e e0 e1 (.b (.list (xs.map (eO enc))))) (hs : ∀ x ∈ xs, x.isSome = true) : JE T e e0 e1 (.b (.list ((xs.map unO).map enc))) := by rw [← un_map enc hs]; exact h
/-! ### xs[an index that draws], xs owned -/
theorem je_ixLV [Inhabited α] {nm : Str} {np : Pos} (j : Nat) {k0 : Option Addr} {i : Int} (h : JE T b e0 e2 (.d (.int i))) (hr : inR xs.length i) (hN : T.N[j]? = some nm := by rfl) (hv : visB T.sc nm = true := by rfl) (h0 : ∃ d0, e0[j]? = some (.o k0 d0) := by exact ⟨_, rfl⟩) (he : e2[j]? = some (.o k0 (.list (xs.map enc))) := by rfl)
    (hs : PlainIx b := by intro _ _; rfl) (hd : (nm == ("__debug__" : Str)) = false := by decide) (hcd : (nm == ("__classdict__" : Str)) = false := by decide) : JE T (.Subscript (.Name nm np) b pos) e0 e2 (.d (enc (gI xs i))) := fun X hX =>
  (pe_ix ix_list (pe_var (i := j) (by rw [hX.N]; exact hN) (by rw [hX.sc]; exact vis_of hv) hd hcd) (h X hX) hs).wk fun σ H Q ⟨R, C, E, k⟩ => by
    obtain ⟨d0, h0⟩ := h0
    obtain ⟨p, s0, _, _, _, ow0⟩ := E.own j k0 _ h0
    refine ⟨.ref p, s0, R, C, E, fun v C1 H1 c1 E1 r1 => ?_⟩
    obtain ⟨p', s1, hq, cp, rp, vs, hh, l, rr⟩ := E1.own j k0 _ he
    rw [s0] at s1; cases s1
    cases r1
    obtain ⟨w, hw, rw⟩ := atI_rps rr (gI_at hr)
    rw [hX.K] at *
    exact ⟨p, vs, i, w, rfl, rfl, SqL.of hh, hw, k _ C1 H1 c1 E1 rw⟩
/-! ### xs.extend(a list just made) -/
theorem mtm_mt {X : Cx} {id : String} {r : V → List V → Hp → VK → Prop} (h : MtM X id r) : MtR X id r := h
theorem je_extend {nm : Str} {apos np : Pos} (i : Nat) {k0 : Option Addr} (h : JE T e e0 e1 (.b (.list (zs.map enc)))) (hl : xs.length + zs.length ≤ LN) (hN : T.N[i]? = some nm := by rfl) (hv : visB T.sc nm = true := by rfl) (h0 : ∃ xs0, e0[i]? = some (.o k0 (.list xs0)) := by exact ⟨_, rfl⟩) (he : e1[i]? = some (.o k0 (.list (xs.map enc))) := by rfl)
    (hp : PlainM (.Name nm np) "extend" apos e [] pos := by exact ⟨fun _ => rfl, fun _ => rfl, rfl, fun _ => rfl, fun _ => rfl⟩)
    (hd : (nm == ("__debug__" : Str)) = false := by decide) (hcd : (nm == ("__classdict__" : Str)) = false := by decide) :
    JE T (.Call (.Attribute (.Name nm np) "extend" apos) [e] [] pos) e0 (e1.set i (.o k0 (.list ((xs ++ zs).map enc)))) (.d .none) := fun X hX =>
  (pe_bm PySem.F.plainAttrs_list PySem.F.slot_list_extend PySem.F.type_list_extend mt_extend (pe_var (i := i) (by rw [hX.N]; exact hN) (by rw [hX.sc]; exact vis_of hv) hd hcd) (pa_cons (h X hX) pa_nil (hp.hs X.env)) (hp.base X.env) (hp.few X.env) hp.line (hp.hs X.env) (hp.plain X.env)).wk fun σ H Q ⟨R, C, E, k⟩ => by
    obtain ⟨xs0, h0⟩ := h0
    obtain ⟨p, s0, _, _, _, ow0⟩ := E.own i k0 _ h0
    refine ⟨.ref p, s0, tyL ⟨C, ow0⟩, R, C, E, fun v C1 H1 c1 E1 r1 => ?_⟩
    obtain ⟨q, zv, rfl, hz, lz, rz⟩ := rb_lst E1 r1
    obtain ⟨p', s1, hq, cp, rp, vs, hh, l, rr⟩ := E1.own i k0 _ he
    rw [s0] at s1; cases s1
    have hh : H1 p = some (.lst vs) := hh
    have el := rr.len
    have ez := rz.len
    rw [List.length_map] at el ez
    refine ⟨p, q, vs, zv, rfl, rfl, hh, hz, by rw [sizeLine_eq, el, ez]; exact hl, ?_⟩
    refine k _ C1 _ c1 (E1.mutO he s0 cp rp ⟨vs ++ zv, rfl, ?_, by rw [List.map_append]; exact rr.append rz⟩) .non
    rw [List.length_append, el, ez]
    exact hl
end
end J
namespace J
open PySem L2 PySem.Spec PyProof.Rows
/-! ### len(set(a tuple of ints)) -/
def dd : List Int → List Int
  | [] => []
  | x :: xs => if x ∈ dd xs then dd xs else x :: dd xs
theorem dd_mem {x : Int} : ∀ {xs : List Int}, x ∈ dd xs ↔ x ∈ xs
  | [] => Iff.rfl
  | y :: ys => by
    unfold dd
    split
    · rename_i h
      rw [dd_mem (xs := ys), List.mem_cons]
      exact ⟨.inr, fun q => q.elim (fun e => by rw [e]; exact dd_mem.mp h) id⟩
    · rw [List.mem_cons, List.mem_cons, dd_mem (xs := ys)]
theorem dd_nd : ∀ xs : List Int, (dd xs).Nodup
  | [] => .nil
  | y :: ys => by
    unfold dd
    split
    · exact dd_nd ys
    · rename_i h
      exact List.nodup_cons.mpr ⟨h, dd_nd ys⟩
def lenSet (ns : List Int) : Int := (dd ns).length
theorem lenSet_of {l ns : List Int} (hn : l.Nodup) (h : ∀ k, k ∈ l ↔ k ∈ ns) : l.length = (dd ns).length :=
  ((List.perm_ext_iff_of_nodup hn (dd_nd ns)).mpr fun k => (h k).trans dd_mem.symm).length_eq
section
variable {X : Cx}
def tLenSetT (K : PySem.W.Frag) (ta : TE) : TE := fun σ H Q => ta σ H fun x H1 => ∃ (l : Addr) (ns : List Int), x = V.ref l ∧ SqT K H1 l (ns.map V.int) ∧ ns.length < 64 ∧ Q (.int (lenSet ns)) H1
theorem pe_lenSetT {a : Expr} {ta : TE} {p p2 q pos : Pos} (hc : X.calm = true) (hg : Gl X "len") (hm : X.mg "len" = none) (hg2 : Gl X "set") (hm2 : X.mg "set" = none) (ha : PE X a ta)
    (na : starEach [a] X.env = (false, eval a X.env) :: starEach [] X.env) : PE X (.Call (.Name "len" p) [.Call (.Name "set" p2) [a] [] q] [] pos) (tLenSetT X.K ta) := by
  refine ⟨fun pins s σ H Q I h => ?_⟩
  refine Call_ (ld_blt I hg hm PySem.boot_len ?_)
  refine PyProof.Rows.callWith_builtin1 (PyProof.Rows.args_cons ?_ rfl) rfl rfl
  refine Call_ (ld_blt I hg2 hm2 PyProof.Rows.boot_set ?_)
  refine PyProof.Rows.callWith_type1 (PyProof.Rows.args_cons (thn (ha.run pins s σ H _ I h) fun v s1 ⟨x, H1, I1, r1, q1⟩ => PyProof.Rows.args_nil ?_) na) na rfl
  obtain ⟨l, ns, rfl, hq, h1, q1⟩ := q1
  cases r1
  obtain ⟨its, r, pl, hz⟩ := I1.tuple hq
  refine call_set_tupI ns (I1.ok.hd hc) pl (by simpa using r.ints) (by unfold scanBound; omega) fun h' tk c hS hcn hk => ?_
  refine PyProof.Rows.args_nil ?_
  obtain ⟨o, es, ep, t, ho, hex, hd, _, hnd, hmem, _, hf, hn, _⟩ := hS
  have el : es.size = (dd ns).length := by
    rw [← lenSet_of hnd (fun k => by rw [← hmem k, decide_eq_true_eq]), List.length_map, Array.length_toList]
  have I2 : Inv X pins σ H1 { s1 with heap := h', toks := tk } := I1.kept fun b o e => hk b o e
  refine call_len_set ho hex hd hf (by rw [hn] <;> omega) ⟨.int (lenSet ns), H1, I2.tok _, ⟨_, by unfold lenSet; rw [el]⟩, q1⟩
end
section
variable {T : TC} {a : Expr} {e0 e1 : Env'} {pos p p1 p2 : Pos}
theorem je_lenSetT {ns : List Int} (hg : glB T.sc "len" = true) (hm : T.mg "len" = none) (hg2 : glB T.sc "set" = true) (hm2 : T.mg "set" = none) (ha : JE T a e0 e1 (.b (.tuple (ns.map .int)))) (hn : ns.length < 64)
    (na : ∀ v : Env, starEach [a] v = (false, eval a v) :: starEach [] v := by intro _; rfl) : JE T (.Call (.Name "len" p) [.Call (.Name "set" p1) [a] [] p2] [] pos) e0 e1 (.d (.int (lenSet ns))) := fun X hX =>
  (pe_lenSetT hX.calm (gl_of hX hg) (by rw [hX.mg]; exact hm) (gl_of hX hg2) (by rw [hX.mg]; exact hm2) (ha X hX) (na X.env)).wk fun σ H Q ⟨R, C, E, k⟩ => ⟨R, C, E, fun v C1 H1 c1 E1 r1 => by
    rw [hX.K] at *
    obtain ⟨q, vs, rfl, h1, q1, l1, r1⟩ := rb_tup E1 r1
    have e := r1.int
    subst e
    exact ⟨q, ns, rfl, h1, hn, k _ C1 H1 c1 E1 (.int _)⟩⟩
/-- the tuple of things or None, none of them None -/
theorem je_unTb {α : Type} {enc : α → PyData} [Inhabited α] {xs : List (Option α)} {e : Expr} (h : JE T e e0 e1 (.b (.tuple (xs.map (eO enc))))) (hs : ∀ x ∈ xs, x.isSome = true) : JE T e e0 e1 (.b (.tuple ((xs.map unO).map enc))) := by rw [← un_map enc hs]; exact h
theorem je_unTd {α : Type} {enc : α → PyData} [Inhabited α] {xs : List (Option α)} {e : Expr} (h : JE T e e0 e1 (.d (.tuple (xs.map (eO enc))))) (hs : ∀ x ∈ xs, x.isSome = true) : JE T e e0 e1 (.d (.tuple ((xs.map unO).map enc))) := by rw [← un_map enc hs]; exact h
end
end J
namespace J
open PySem L2 PySem.Spec PyProof.Rows
/-! ### gcd -/
section
variable {T : TC} {a b e o : Expr} {es : List Expr} {e0 e1 e2 : Env'} {pos p p1 p2 : Pos}
def gcdI (i j : Int) : Int := ((Nat.gcd i.natAbs j.natAbs : Nat) : Int)
theorem je_gcd {i j : Int} {nm : Str} (hg : glB T.sc nm = true) (hm : T.mg nm = some (.builtin "math.gcd")) (ha : JA T (e :: es) e0 e1 [.int i, .int j]) (hp : Plain e es pos := by exact ⟨fun _ => rfl, fun _ => rfl⟩) (hdb : (nm == ("__debug__" : Str)) = false := by decide) :
    JE T (.Call (.Name nm p) (e :: es) [] pos) e0 e1 (.d (.int (gcdI i j))) := fun X hX =>
  (pe_callBfun cr_gcd (gl_of hX hg) (by rw [hX.mg]; exact hm) (ha X hX) hdb (hp.he X.env) (hp.hp X.env)).wk fun σ H Q ⟨R, C, E, k⟩ => ⟨R, C, E, fun vs C1 H1 c1 E1 r1 => by
    cases r1 with
    | cons r1 r2 => cases r2 with
      | cons r2 r3 =>
        cases r3
        cases r1; cases r2
        exact ⟨i, j, rfl, k _ C1 H1 c1 E1 (.int _)⟩⟩
/-! ### xs.count(x) of a list -/
def cntL {α : Type} [DecidableEq α] (xs : List α) (x : α) : Int := ((xs.countP fun y => decide (y = x) : Nat) : Int)
def rCountD (K : PySem.W.Frag) : V → List V → Hp → VK → Prop := fun x xs H Q => ∃ (a : Addr) (y : V) (d : PyData) (ds : List PyData), x = V.ref a ∧ xs = [y] ∧ Dp K H (V.ref a) (.list ds) ∧ Dp K H y d ∧
  SeqAt.shaped (.list ds) = true ∧ SeqAt.shaped d = true ∧ Q (.int ((ds.countP fun z => PyData.eqv z d : Nat) : Int)) H
theorem mt_countD {X : Cx} (hu : X.A.units + 65 < cLine) : MtR X "list.count" (rCountD X.K) := by
  intro pins s σ H x xs v us Q I rx rxs h
  obtain ⟨a, y, d, ds, rfl, rfl, hl, hy, sl, sd, q⟩ := h
  cases rx
  cases rxs with
  | cons ry rt =>
    rename_i uy ut
    cases rt
    obtain ⟨bs, r1⟩ := Dp.reads I d y uy hy ry
    have hxs : PyData.canLayAll0 ds = true := SeqAt.canLay_of_shaped sl
    cases hl with
    | lst hs ha =>
      obtain ⟨its, rv, ⟨⟨cls, dd, data, sls⟩, n, ho, hc, hdn, hdt⟩, hlen⟩ := I.list hs
      simp only at hc hdt
      subst hc hdt
      obtain ⟨as, h4⟩ := Dp.readsAll I ds _ its ha rv
      refine call_meets PySem.F.slot_list_count ⟨_, ho, rfl⟩ PySem.F.entry_list_count (PySem.F.args_list_count_2 _ _)
        (SeqAt.list_countAt a its.toArray n dd sls uy (fun u => PyData.eqv (SeqAt.readOf s.heap u) d)) ⟨ho, SeqAt.items_eqAt (vs := its.toArray) (show ReadsAll s.heap its.toArray.toList ds as from h4) r1 hxs (SeqAt.canLay_of_shaped sd) (room_in_shaped sd hu), ?_⟩
      have e : its.toArray.toList.countP (fun u => PyData.eqv (SeqAt.readOf s.heap u) d) = ds.countP fun z => PyData.eqv z d := by
        rw [← SeqAt.readsAll_map ds its as hxs h4, List.countP_map]; rfl
      rw [e]
      exact ⟨.int _, H, I.tok _, ⟨_, rfl⟩, q⟩
variable {α : Type} {enc : α → PyData}
theorem je_countL [DecidableEq α] {xs : List α} {x : α} {apos : Pos} (h : JE T o e0 e1 (.d (.list (xs.map enc)))) (h2 : JE T e e1 e2 (.d (enc x))) (sh : ShE 63 enc) (sh' : ShE 64 enc) (eq : EqE enc)
    (hp : PlainE o "count" apos e [] pos := by exact ⟨fun _ => rfl, fun _ => rfl, rfl, fun _ => rfl, fun _ => rfl⟩) :
    JE T (.Call (.Attribute o "count" apos) [e] [] pos) e0 e2 (.d (.int (cntL xs x))) := fun X hX =>
  (pe_bm PySem.F.plainAttrs_list PySem.F.slot_list_count PySem.F.type_list_count (mt_countD (by have := hX.room.un; omega)) (h X hX) (pa_cons (h2 X hX) pa_nil (hp.hs X.env)) (hp.base X.env) (hp.few X.env) hp.line (hp.hs X.env) (hp.plain X.env)).wk fun σ H Q ⟨R, C, E, k⟩ => by
    rw [hX.K] at *
    refine ⟨R, C, E, fun u C1 H1 c1 E1 r1 => ?_⟩
    have r1' := r1
    cases r1 with
    | lst q l r =>
    refine ⟨.inl ⟨rfl, _, SqL.of (E1.cH _ _ q)⟩, R, C1, E1, fun w C2 H2 c2 E2 r2 => ?_⟩
    have hr : Rp T.K H2 _ (PyData.list (xs.map enc)) := (r1'.mono c2).mono E2.cH
    have hy : Rp T.K H2 w (enc x) := r2.mono E2.cH
    have s1 : shN 64 (.list (xs.map enc)) = true := by
      rw [shN, List.all_eq_true]; intro d hd
      obtain ⟨y, _, rfl⟩ := List.mem_map.mp hd; exact sh y
    refine ⟨_, w, enc x, xs.map enc, rfl, rfl, hr.dp' s1, hy.dp' (sh' x), hr.shaped s1, hy.shaped (sh' x), ?_⟩
    have e : ((xs.map enc).countP fun z => PyData.eqv z (enc x)) = xs.countP fun y => decide (y = x) := by
      rw [List.countP_map]
      congr 1
      funext y
      exact eq y x
    rw [e]
    exact k _ C2 H2 (c1.trans c2) E2 (.int _)
end
/-! ### len(set(a list of tuples of ints)) -/
def ddL : List (List Int) → List (List Int)
  | [] => []
  | x :: xs => if x ∈ ddL xs then ddL xs else x :: ddL xs
theorem ddL_mem {x : List Int} : ∀ {xs : List (List Int)}, x ∈ ddL xs ↔ x ∈ xs
  | [] => Iff.rfl
  | y :: ys => by
    unfold ddL
    split
    · rename_i h
      rw [ddL_mem (xs := ys), List.mem_cons]
      exact ⟨.inr, fun q => q.elim (fun e => by rw [e]; exact ddL_mem.mp h) id⟩
    · rw [List.mem_cons, List.mem_cons, ddL_mem (xs := ys)]
theorem ddL_nd : ∀ xs : List (List Int), (ddL xs).Nodup
  | [] => .nil
  | y :: ys => by
    unfold ddL
    split
    · exact ddL_nd ys
    · rename_i h
      exact List.nodup_cons.mpr ⟨h, ddL_nd ys⟩
def lenSetL (xs : List (List Int)) : Int := (ddL xs).length
section
variable {X : Cx}
def tLenSetL (K : PySem.W.Frag) (ta : TE) : TE := fun σ H Q => ta σ H fun x H1 => ∃ (l : Addr) (ks : List (Addr × List Int)), x = V.ref l ∧ SqL K H1 l (ks.map fun p => V.ref p.1) ∧ (∀ p ∈ ks, SqT K H1 p.1 (p.2.map V.int)) ∧ ks.length < 64 ∧ Q (.int (lenSetL (ks.map (·.2)))) H1
theorem pe_lenSetL {a : Expr} {ta : TE} {p p2 q pos : Pos} (hc : X.calm = true) (hu : X.A.units + 65 < cLine) (hg : Gl X "len") (hm : X.mg "len" = none) (hg2 : Gl X "set") (hm2 : X.mg "set" = none) (ha : PE X a ta)
    (na : starEach [a] X.env = (false, eval a X.env) :: starEach [] X.env) : PE X (.Call (.Name "len" p) [.Call (.Name "set" p2) [a] [] q] [] pos) (tLenSetL X.K ta) := by
  refine ⟨fun pins s σ H Q I h => ?_⟩
  refine Call_ (ld_blt I hg hm PySem.boot_len ?_)
  refine PyProof.Rows.callWith_builtin1 (PyProof.Rows.args_cons ?_ rfl) rfl rfl
  refine Call_ (ld_blt I hg2 hm2 PyProof.Rows.boot_set ?_)
  refine PyProof.Rows.callWith_type1 (PyProof.Rows.args_cons (thn (ha.run pins s σ H _ I h) fun v s1 ⟨x, H1, I1, r1, q1⟩ => PyProof.Rows.args_nil ?_) na) na rfl
  obtain ⟨l, ks, rfl, hl, hk, hf, q1⟩ := q1
  cases r1
  obtain ⟨its, rv, pl, hz⟩ := I1.list hl
  refine call_set_tups (P := X.prog) (w := X.w) ks (I1.ok.hd hc) pl.isList (by simpa using refs_of_vals rv) (fun p hp => I1.isT (hk p hp)) hf (by omega) fun h' tk L es ep t R g k => ?_
  refine PyProof.Rows.args_nil ?_
  obtain ⟨o, ho, hex, hd⟩ := R.ob
  have el : es.size = (ddL (ks.map (·.2))).length := by
    rw [SetTR.size (s := { s1 with heap := h', toks := tk }) R]
    have nd := R.nd
    have m : ∀ k, k ∈ L.map (·.2) ↔ k ∈ ddL (ks.map (·.2)) := fun k => by
      rw [ddL_mem]
      constructor
      · intro hk2
        obtain ⟨p, hp, rfl⟩ := List.mem_map.mp hk2
        exact List.mem_map.mpr ⟨p, List.mem_of_mem_take (g.sub p hp), rfl⟩
      · intro hk2
        obtain ⟨p, hp, rfl⟩ := List.mem_map.mp hk2
        exact g.all p (by rw [List.take_length]; exact hp)
    have := ((List.perm_ext_iff_of_nodup nd (ddL_nd _)).mpr m).length_eq
    rw [List.length_map] at this
    exact this
  have few := R.few
  have sz := SetTR.size (s := { s1 with heap := h', toks := tk }) R
  have I2 : Inv X pins σ H1 { s1 with heap := h', toks := tk } := I1.kept k
  refine call_len_set ho hex hd (SetTR.fits (s := { s1 with heap := h', toks := tk }) R) (by omega) ⟨.int (lenSetL (ks.map (·.2))), H1, I2.tok _, ⟨_, by unfold lenSetL; rw [el]⟩, q1⟩
end
section
variable {T : TC} {a : Expr} {e0 e1 : Env'} {pos p p1 p2 : Pos} {K : PySem.W.Frag} {C : Hp}
theorem rps_tups : ∀ {xss : List (List Int)} {vs : List V}, Rps K C vs (xss.map (eT PyData.int)) → ∃ ks : List (Addr × List Int), vs = ks.map (fun p => V.ref p.1) ∧ ks.map (·.2) = xss ∧ ∀ p ∈ ks, SqT K C p.1 (p.2.map V.int)
  | [], _, r => by rw [List.map_nil] at r; cases r; exact ⟨[], rfl, rfl, fun p hp => by cases hp⟩
  | x :: xs, _, r => by
    rw [List.map_cons] at r
    cases r with
    | cons r1 r2 =>
      obtain ⟨ks, e1, e2, e3⟩ := rps_tups r2
      cases r1 with
      | tup q l r =>
        have e := r.int
        subst e
        subst e1
        exact ⟨(_, x) :: ks, rfl, by rw [List.map_cons, e2], fun p hp => by
          rcases List.mem_cons.mp hp with rfl | hp
          · exact q
          · exact e3 p hp⟩
theorem je_lenSetL {xss : List (List Int)} (hg : glB T.sc "len" = true) (hm : T.mg "len" = none) (hg2 : glB T.sc "set" = true) (hm2 : T.mg "set" = none) (ha : JE T a e0 e1 (.b (.list (xss.map (eT PyData.int))))) (hn : xss.length < 64)
    (na : ∀ v : Env, starEach [a] v = (false, eval a v) :: starEach [] v := by intro _; rfl) : JE T (.Call (.Name "len" p) [.Call (.Name "set" p1) [a] [] p2] [] pos) e0 e1 (.d (.int (lenSetL xss))) := fun X hX =>
  (pe_lenSetL hX.calm (by have := hX.room.un; omega) (gl_of hX hg) (by rw [hX.mg]; exact hm) (gl_of hX hg2) (by rw [hX.mg]; exact hm2) (ha X hX) (na X.env)).wk fun σ H Q ⟨R, C, E, k⟩ => ⟨R, C, E, fun v C1 H1 c1 E1 r1 => by
    rw [hX.K] at *
    obtain ⟨q, vs, rfl, h1, l1, r1⟩ := rb_lst E1 r1
    obtain ⟨ks, e1, e2, e3⟩ := rps_tups r1
    subst e1 e2
    rw [List.length_map] at hn
    exact ⟨q, ks, rfl, SqL.of h1, fun p hp => (E1.cH.t (e3 p hp)), hn, k _ C1 H1 c1 E1 (.int _)⟩⟩
end
section
variable {T : TC} {a : Expr} {e0 e1 : Env'} {pos p p2 p3 : Pos}
/-! ### tuple(range(n)) -/
theorem je_tupRg1 {n : Int} (hg : glB T.sc "tuple" = true) (hm : T.mg "tuple" = none) (hg' : glB T.sc "range" = true) (hm' : T.mg "range" = none) (h : JE T a e0 e1 (.d (.int n))) (hn : rg1 n)
    (hs : ∀ v : Env, starEach [a] v = [(false, eval a v)] := by intro _; rfl) (hs' : ∀ v : Env, starEach [.Call (.Name "range" p2) [a] [] p3] v = [(false, eval (.Call (.Name "range" p2) [a] [] p3) v)] := by intro _; rfl) : JE T (.Call (.Name "tuple" p) [.Call (.Name "range" p2) [a] [] p3] [] pos) e0 e1 (.d (.tuple ((rgI 0 n).map .int))) := fun X hX =>
  (pe_tupRg hX.calm (gl_of hX hg) (by rw [hX.mg]; exact hm) (prg_1 (gl_of hX hg') (by rw [hX.mg]; exact hm') (h X hX) (hs X.env)) (hs' X.env)).wk fun σ H Q ⟨R, C, E, k⟩ => ⟨R, C, E, fun v C1 H1 c1 E1 r1 => by
    cases r1
    obtain ⟨h1, h2⟩ := hn
    refine ⟨n, rfl, ⟨by omega, by omega, h1, by omega, by omega⟩, fun q hq => ?_⟩
    obtain ⟨c, E2, r⟩ := E1.freshT hq (by rw [rgV_length]; show _ ≤ 16777216; omega) (rgV_rgI 0 n)
    exact k _ _ _ (c1.trans c) E2 r⟩
end
end J
namespace K18
open PySem L2 PySem.Spec PyProof.Rows J
def topS (i : Nat) : Stmt := PySem.Challenge.pw_hoteldays_k18_whole_tasters_and_hats.main.body.getD i (.Pass ⟨0, 0, 0, 0⟩)
local macro_rules | `(tactic| walk_at "le") => `(tactic| repeat (first | exact le_nil | refine le_r ?_ | refine le_u ?_))
local macro_rules | `(tactic| walk_at "kt") => `(tactic| (simp only [tyD]; decide +kernel))
local macro_rules | `(tactic| walk_at "hw") => `(tactic| (intro v hv; cases v; cases hv; rfl))
def C_MOST : Int := 8
structure Txt (K : PySem.W.Frag) (mg : Str → Option Value) where
  f_draw : Addr
  d_draw : FuncData
  o_draw : Own K mg "_law_draw" (topS 26) ["script"] f_draw d_draw
  f_next : Addr
  d_next : FuncData
  o_next : Own K mg "_law_next" (topS 27) ["draw", "many"] f_next d_next
  f_same : Addr
  d_same : FuncData
  o_same : Own K mg "_law_same" (topS 28) ["actual", "due"] f_same d_same
  f_tasters_of : Addr
  d_tasters_of : FuncData
  o_tasters_of : Own K mg "tasters_of" (topS 19) ["plan", "bottle"] f_tasters_of d_tasters_of
  f_is_sure : Addr
  d_is_sure : FuncData
  o_is_sure : Own K mg "is_sure" (topS 20) ["bottles", "plan"] f_is_sure d_is_sure
  f_found_by : Addr
  d_found_by : FuncData
  o_found_by : Own K mg "found_by" (topS 23) ["bottles", "plan", "ill"] f_found_by d_found_by
  f_fewest_tasters : Addr
  d_fewest_tasters : FuncData
  o_fewest_tasters : Own K mg "fewest_tasters" (topS 21) ["bottles"] f_fewest_tasters d_fewest_tasters
  f_first_plan : Addr
  d_first_plan : FuncData
  o_first_plan : Own K mg "first_plan" (topS 22) ["bottles"] f_first_plan d_first_plan
  f_by_two_rounds : Addr
  d_by_two_rounds : FuncData
  o_by_two_rounds : Own K mg "by_two_rounds" (topS 24) ["tasters"] f_by_two_rounds d_by_two_rounds
  f_is_row : Addr
  d_is_row : FuncData
  o_is_row : Own K mg "is_row" (topS 14) ["thing", "least", "most"] f_is_row d_is_row
  f_is_integer : Addr
  d_is_integer : FuncData
  o_is_integer : Own K mg "is_integer" (topS 12) ["thing"] f_is_integer d_is_integer
  f_is_number : Addr
  d_is_number : FuncData
  o_is_number : Own K mg "is_number" (topS 13) ["thing", "least", "most"] f_is_number d_is_number
  f_is_ascending : Addr
  d_is_ascending : FuncData
  o_is_ascending : Own K mg "is_ascending" (topS 15) ["entries"] f_is_ascending d_is_ascending
  f_is_plan : Addr
  d_is_plan : FuncData
  o_is_plan : Own K mg "is_plan" (topS 18) ["bottles", "thing"] f_is_plan d_is_plan
  f_choose : Addr
  d_choose : FuncData
  o_choose : Own K mg "choose" (topS 5) ["many", "some"] f_choose d_choose
  f_none_lucky : Addr
  d_none_lucky : FuncData
  o_none_lucky : Own K mg "none_lucky" (topS 4) ["guests"] f_none_lucky d_none_lucky
  f_count_lucky : Addr
  d_count_lucky : FuncData
  o_count_lucky : Own K mg "count_lucky" (topS 6) ["guests", "lucky"] f_count_lucky d_count_lucky
  f_ratio : Addr
  d_ratio : FuncData
  o_ratio : Own K mg "ratio" (topS 2) ["number", "by"] f_ratio d_ratio
  f_chance_of_none : Addr
  d_chance_of_none : FuncData
  o_chance_of_none : Own K mg "chance_of_none" (topS 7) ["guests"] f_chance_of_none d_chance_of_none
  f_law_low : Addr
  d_law_low : FuncData
  o_law_low : Own K mg "_law_low" (topS 29) ["number", "by"] f_law_low d_law_low
  f_applied : Addr
  d_applied : FuncData
  o_applied : Own K mg "applied" (topS 9) ["row", "times"] f_applied d_applied
  f_least_times : Addr
  d_least_times : FuncData
  o_least_times : Own K mg "least_times" (topS 10) ["row"] f_least_times d_least_times
  f_rings : Addr
  d_rings : FuncData
  o_rings : Own K mg "rings" (topS 8) ["row"] f_rings d_rings
  f_law_hats : Addr
  d_law_hats : FuncData
  o_law_hats : Own K mg "_law_hats" (topS 30) ["draw"] f_law_hats d_law_hats
  f_law : Addr
  d_law : FuncData
  o_law : Own K mg "law" (topS 31) ["script"] f_law d_law
  m_abs : mg "abs" = none
  m_all : mg "all" = none
  m_bool : mg "bool" = none
  m_enumerate : mg "enumerate" = none
  m_int : mg "int" = none
  m_isinstance : mg "isinstance" = none
  m_len : mg "len" = none
  m_list : mg "list" = none
  m_min : mg "min" = none
  m_range : mg "range" = none
  m_set : mg "set" = none
  m_str : mg "str" = none
  m_tuple : mg "tuple" = none
  m_zip : mg "zip" = none
  m_gcd : mg "gcd" = some (.builtin "math.gcd")
  v_MOST : Glb K mg "MOST" (PyData.int C_MOST)
section
variable {P : Program} {w : World} {K : PySem.W.Frag} {mg : Str → Option Value} {base : Heap}
abbrev N11 : List Str := ["script"]
abbrev N12 : List Str := ["draw", "many", "found", "cell"]
abbrev N13 : List Str := ["actual", "due", "k"]
theorem sc11 : FnScope N11 ["script"] (defScope (topS 26)) := ⟨rfl, rfl, rfl, by decide +kernel, rfl, by decide +kernel, by decide +kernel⟩
theorem sc12 : FnScope N12 ["draw", "many"] (defScope (topS 27)) := ⟨rfl, rfl, rfl, by decide +kernel, rfl, by decide +kernel, by decide +kernel⟩
theorem sc13 : FnScope N13 ["actual", "due"] (defScope (topS 28)) := ⟨rfl, rfl, rfl, by decide +kernel, rfl, by decide +kernel, by decide +kernel⟩
theorem ok_draw (X : Txt K mg) : FnOk P w K mg base CX0 1 X.f_draw X.d_draw ["script"] (SpDraw K) := by
  refine fn_okF (A := List Int) (args := fun ns => [.dict [(.none, .list (ns.map .int))]]) X.o_draw.F sc11 (fun _ => rfl) (by decide) ?_
  intro ns _ _
  exact ⟨_, jss_rt (js_ret (je_lst (ja_cons (je_fz (je_listS rfl X.m_list (je_var 0))) (ja_cons je_int (ja_cons je_int (ja_cons je_int ja_nil))))))⟩
theorem ok_next (X : Txt K mg) : FnOk P w K mg base CX0 1 X.f_next X.d_next ["draw", "many"] (SpNext K) := by
  refine fn_okO (A := Dr × Int) (ρ := Int × Dr) X.o_next.F sc12 (fun r => .int r.1) (fun r => drD r.2) (fun a => nxt a.1 a.2) (fun _ => rfl) (by decide) ?_
  rintro ⟨⟨ns, i, x, st⟩, many⟩ p ⟨hm, hm'⟩ _
  have nd : (tc P w K mg base N12 (topS 27) 0).N.Nodup := sc12.nd
  have hdv : CDivN x many := ⟨by omega, by omega⟩
  show JB (tc P w K mg base N12 (topS 27) 0) (fun r => .int r.1) (fun r : Int × Dr => endO N12 p (drD r.2)) _ [.o (some p) (drD ⟨ns, i, x, st⟩), .d (.int many), .u, .u] (nxt ⟨ns, i, x, st⟩ many)
  unfold nxt
  refine jb_ifr (jt_c (cj_gt (j2d (je_ixL (j2bd (je_varB 0) je_int) rfl) je_int))) (fun hc => ?_) (fun hc => ?_)
  · refine jb_cons (e1 := [.o (some p) (drD ⟨ns, i, x, st⟩), .d (.int many), .d (.int (Int.fmod x many)), .u]) (js_set 2 nd (je_mod (j2d (je_intI rfl X.m_int (je_ixL (j2bd (je_varB 0) je_int) rfl)) (je_var 1)) (by show many ≠ 0; omega))) ?_
    refine jb_let (F := fun found => [.o (some p) (drD ⟨ns, i, x, st⟩), .d (.int many), .d (.int found), .u]) fun found h => ?_
    refine jb_cons (e1 := [.o (some p) (drD ⟨ns, i, Int.fdiv x many, st⟩), .d (.int many), .d (.int found), .u]) (js_setIx 0 (xs := [.list (ns.map .int), .int i, .int x, .int st]) (m := 2) rfl rfl (je_fdiv (j2d (je_ixL (j2bd (je_varB 0) je_int) rfl) (je_var 1)) hdv) je_int ⟨_, rfl⟩ rfl rfl) ?_
    refine jb_let (F := fun d : Dr => [.o (some p) (drD d), .d (.int many), .d (.int found), .u]) fun d h => ?_
    exact jb_ret (r := (found, d)) (je_var 2) (by walk_at "le")
  · refine jb_or (E := fun d : Dr => [.o (some p) (drD d), .d (.int many), .u, .u]) ?_ ?_
    · unfold nxtM
      refine js_ifM (jt_c (cj_lt (j2d (je_ixL (j2bd (je_varB 0) je_int) rfl) (je_lenL' rfl X.m_len (je_b (je_ixL (j2bd (je_varB 0) je_int) rfl)))))) (fun hc => ?_) (fun hc => ?_)
      · have hir : inR ns.length i := by
          have := of_decide_eq_true hc
          exact ⟨by omega, this⟩
        refine jm_cons (e1 := [.o (some p) (drD ⟨ns, i, x, st⟩), .d (.int many), .u, .d (.int (iabs (gI ns i)))]) (js_set 3 nd (je_abs rfl X.m_abs (je_ixL' (enc := PyData.int) (xs := ns) (j2d (je_ixL (j2bd (je_varB 0) je_int) rfl) (je_ixL (j2bd (je_varB 0) je_int) rfl)) hir))) ?_
        refine jm_let (F := fun cell => [.o (some p) (drD ⟨ns, i, x, st⟩), .d (.int many), .u, .d (.int cell)]) fun cell h => ?_
        refine jm_cons (e1 := [.o (some p) (drD ⟨ns, i + 1, x, st⟩), .d (.int many), .u, .d (.int cell)]) (js_setIx 0 (xs := [.list (ns.map .int), .int i, .int x, .int st]) (m := 1) rfl rfl (je_is (r := .d (.int ((i : Int) + 1))) (je_add (j2d (je_ixL (j2bd (je_varB 0) je_int) rfl) je_int)) rfl) je_int ⟨_, rfl⟩ rfl rfl) ?_
        refine jm_let (F := fun d : Dr => [.o (some p) (drD d), .d (.int many), .u, .d (.int cell)]) fun d h => ?_
        obtain ⟨ns, i, x, st⟩ := d
        refine jm_ifr (jt_c (cj_ge (j2d (je_var 3) (je_pow (j2d je_int je_int) ⟨by decide, by decide, by decide⟩)))) (fun hc => ?_) (fun hc => ?_)
        · refine jb_cons (e1 := [.o (some p) (drD ⟨ns, i, Int.fdiv cell many, st⟩), .d (.int many), .u, .d (.int cell)]) (js_setIx 0 (xs := [.list (ns.map .int), .int i, .int x, .int st]) (m := 2) rfl rfl (je_fdiv (j2d (je_var 3) (je_var 1)) ⟨by omega, by omega⟩) je_int ⟨_, rfl⟩ rfl rfl) ?_
          exact jb_ret (r := ((Int.fmod cell many, ⟨ns, i, Int.fdiv cell many, st⟩) : Int × Dr)) (je_mod (j2d (je_intI rfl X.m_int (je_var 3)) (je_var 1)) (by show many ≠ 0; omega)) (by walk_at "le")
        · refine jm_cons (e1 := [.o (some p) (drD ⟨ns, i, x, Int.fmod (st * 48271 + cell + 11) 2147483647⟩), .d (.int many), .u, .d (.int cell)]) (js_setIx 0 (xs := [.list (ns.map .int), .int i, .int x, .int st]) (m := 3) rfl rfl (je_mod (j2d (je_intI rfl X.m_int (je_add (j2d (je_add (j2d (je_mul (j2d (je_ixL (j2bd (je_varB 0) je_int) rfl) je_int) (.inr (by decide))) (je_var 3))) je_int))) je_int) (by decide)) je_int ⟨_, rfl⟩ rfl rfl) ?_
          exact jm_nil (by walk_at "le")
      · refine jm_cons (e1 := [.o (some p) (drD ⟨ns, i, x, Int.fmod (st * 48271 + 12345) 2147483647⟩), .d (.int many), .u, .u]) (js_setIx 0 (xs := [.list (ns.map .int), .int i, .int x, .int st]) (m := 3) rfl rfl (je_mod (j2d (je_intI rfl X.m_int (je_add (j2d (je_mul (j2d (je_ixL (j2bd (je_varB 0) je_int) rfl) je_int) (.inr (by decide))) je_int))) je_int) (by decide)) je_int ⟨_, rfl⟩ rfl rfl) ?_
        exact jm_nil (by walk_at "le")
    · rintro ⟨ns, i, x, st⟩ _
      exact jb_ret (r := ((Int.fmod (Int.fdiv (Int.fmod (st * 69621) 2147483629) 7) many, ⟨ns, i, x, st⟩) : Int × Dr)) (je_mod (j2d (je_fdiv (j2d (je_intI rfl X.m_int (je_mod (j2d (je_mul (j2d (je_ixL (j2bd (je_varB 0) je_int) rfl) je_int) (.inr (by decide))) je_int) (by decide))) je_int) ⟨by decide, by decide⟩) (je_var 1)) (by show many ≠ 0; omega)) (by walk_at "le")
theorem ok_same0 {f : Addr} {fd : FuncData} (F : Fun K "_law_same" "_law_same" (topS 28) f fd) (m_own : mg "_law_same" = some (.ref f)) (kp : PySem.W.keepIn K (.ref f) = true) (bi : Binds K fd ["actual", "due"] [])
    (m_isi : mg "isinstance" = none) (m_list : mg "list" = none) (m_tuple : mg "tuple" = none) (m_bool : mg "bool" = none) (m_str : mg "str" = none) (m_int : mg "int" = none) (m_len : mg "len" = none) (m_all : mg "all" = none) (m_range : mg "range" = none)
    (n : Nat) (ih : ∀ m, n = m + 1 → FnOk P w K mg base CX0 (m + 1) f fd ["actual", "due"] (SpSame K m)) : FnOk P w K mg base CX0 (n + 1) f fd ["actual", "due"] (SpSame K n) := by
  refine fn_ok (A := PyData × PyData) (args := fun a => [a.1, a.2]) F sc13 PyData.bool (fun a => sameD a.1 a.2) (fun _ => rfl) (by decide) ?_
  rintro ⟨ac, du⟩ hpre hlen
  have nd : (tc P w K mg base N13 (topS 28) n).N.Nodup := sc13.nd
  have hl1 : lenOk ac := hlen ac (by simp)
  have hl2 : lenOk du := hlen du (by simp)
  show JB (tc P w K mg base N13 (topS 28) n) PyData.bool (fun _ => uE N13) _ [.d ac, .d du, .u] (sameD ac du)
  -- due is no list and no tuple
  have A1 : ∀ {x y : PyData} {r : Bool}, noDc y = true → kitB (tyD y) "list" = some false → kitB (tyD y) "tuple" = some false →
      JB (tc P w K mg base N13 (topS 28) n) PyData.bool (fun _ => uE N13) ((defBody (topS 28)).drop 1) [.d x, .d y, .u] r → JB (tc P w K mg base N13 (topS 28) n) PyData.bool (fun _ => uE N13) (defBody (topS 28)) [.d x, .d y, .u] r := fun hy h1 h2 h3 =>
    jb_noc (jt_v (je_isi2 rfl m_isi rfl m_list b_list rfl m_tuple b_tuple (je_var 1) h1 h2 hy)) rfl h3
  -- due is None
  have A2 : ∀ {x : PyData}, JB (tc P w K mg base N13 (topS 28) n) PyData.bool (fun _ => uE N13) ((defBody (topS 28)).drop 1) [.d x, .d .none, .u] (isNoneD x) := fun {x} =>
    jb_yesc (jt_isN (je_b (je_var 1))) rfl (jb_ret (je_isN (je_b (je_var 0))) (by walk_at "le"))
  have A2n : ∀ {x y : PyData} {r : Bool}, isNoneD y = false →
      JB (tc P w K mg base N13 (topS 28) n) PyData.bool (fun _ => uE N13) ((defBody (topS 28)).drop 2) [.d x, .d y, .u] r → JB (tc P w K mg base N13 (topS 28) n) PyData.bool (fun _ => uE N13) ((defBody (topS 28)).drop 1) [.d x, .d y, .u] r := fun h h3 =>
    jb_noc (jt_isN (je_b (je_var 1))) h h3
  -- a bool against another kind
  have A3 : ∀ {x y : PyData} {b1 b2 : Bool}, noDc x = true → noDc y = true → kitB (tyD y) "bool" = some b1 → kitB (tyD x) "bool" = some b2 → b1 ≠ b2 →
      JB (tc P w K mg base N13 (topS 28) n) PyData.bool (fun _ => uE N13) ((defBody (topS 28)).drop 2) [.d x, .d y, .u] false := fun hx hy h1 h2 hne =>
    jb_yesc (jt_c (cj_neB (j2d (je_isi rfl m_isi rfl m_bool b_bool (je_var 1) h1 hy) (je_isi rfl m_isi rfl m_bool b_bool (je_var 0) h2 hx)))) (by simp [hne]) (jb_ret je_bl (by walk_at "le"))
  have A3n : ∀ {x y : PyData} {b : Bool} {r : Bool}, noDc x = true → noDc y = true → kitB (tyD y) "bool" = some b → kitB (tyD x) "bool" = some b →
      JB (tc P w K mg base N13 (topS 28) n) PyData.bool (fun _ => uE N13) ((defBody (topS 28)).drop 3) [.d x, .d y, .u] r → JB (tc P w K mg base N13 (topS 28) n) PyData.bool (fun _ => uE N13) ((defBody (topS 28)).drop 2) [.d x, .d y, .u] r := fun hx hy h1 h2 h3 =>
    jb_noc (jt_c (cj_neB (j2d (je_isi rfl m_isi rfl m_bool b_bool (je_var 1) h1 hy) (je_isi rfl m_isi rfl m_bool b_bool (je_var 0) h2 hx)))) (by simp) h3
  -- due is a text
  have A4 : ∀ {x : PyData} {t : Str} {b : Bool}, noDc x = true → kitB (tyD x) "str" = some b → shN 64 x = true →
      JB (tc P w K mg base N13 (topS 28) n) PyData.bool (fun _ => uE N13) ((defBody (topS 28)).drop 3) [.d x, .d (.str t), .u] (b && PyData.eqv x (.str t)) := fun hx h1 sh =>
    jb_yesc (jt_v (je_isi rfl m_isi rfl m_str b_str (je_var 1) (by walk_at "kt"))) rfl (jb_ret (je_and (je_isi rfl m_isi rfl m_str b_str (je_var 0) h1 hx) (fun _ => je_one (je_c (cj_eqD (j2d (je_var 0) (je_var 1)) sh)))) (by walk_at "le"))
  have A4n : ∀ {x y : PyData} {b : Bool}, noDc x = true → noDc y = true → kitB (tyD y) "str" = some false → kitB (tyD x) "int" = some b → shN 64 x = true → shN 64 y = true →
      JB (tc P w K mg base N13 (topS 28) n) PyData.bool (fun _ => uE N13) ((defBody (topS 28)).drop 3) [.d x, .d y, .u] (b && PyData.eqv x y) := fun hx hy h1 h2 sh sh2 =>
    jb_noc (jt_v (je_isi rfl m_isi rfl m_str b_str (je_var 1) h1 hy)) rfl (jb_ret (je_and (je_isi rfl m_isi rfl m_int b_int (je_var 0) h2 hx) (fun _ => je_one (je_c (cj_eqD (j2d (je_var 0) (je_var 1)) sh sh2)))) (by walk_at "le"))
  -- due is a list or a tuple, actual is none
  have A5 : ∀ {x y : PyData} {l1 l2 t1 t2 : Bool}, noDc x = true → noDc y = true → kitB (tyD y) "list" = some l1 → kitB (tyD y) "tuple" = some t1 → kitB (tyD x) "list" = some l2 → kitB (tyD x) "tuple" = some t2 → (l1 || t1) = true → ((!decide (l1 = l2)) || (!decide (t1 = t2))) = true →
      JB (tc P w K mg base N13 (topS 28) n) PyData.bool (fun _ => uE N13) (defBody (topS 28)) [.d x, .d y, .u] false := fun hx hy h1 h2 h3 h4 h5 h6 =>
    jb_yesc (jt_v (je_isi2 rfl m_isi rfl m_list b_list rfl m_tuple b_tuple (je_var 1) h1 h2 hy)) h5
      (jb_yesc (jt_w (jw_or (jt_c (cj_neB (j2d (je_isi rfl m_isi rfl m_list b_list (je_var 1) h1 hy) (je_isi rfl m_isi rfl m_list b_list (je_var 0) h3 hx))))
        (fun _ => jw_or1 (jt_c (cj_neB (j2d (je_isi rfl m_isi rfl m_tuple b_tuple (je_var 1) h2 hy) (je_isi rfl m_isi rfl m_tuple b_tuple (je_var 0) h4 hx))))))) h6 (jb_ret je_bl (by walk_at "le")))
  cases hpre with
  | non => exact A1 rfl (by walk_at "kt") (by walk_at "kt") A2
  | non2 hx => exact A1 rfl (by walk_at "kt") (by walk_at "kt") (jb_is A2 (by cases ac <;> first | rfl | cases hx))
  | int i j => exact A1 rfl (by walk_at "kt") (by walk_at "kt") (A2n rfl (A3n rfl rfl (b := false) (by walk_at "kt") (by walk_at "kt") (jb_is (A4n rfl rfl (b := true) (by walk_at "kt") (by walk_at "kt") rfl rfl) (by simp [sameD, PyData.eqv, Bool.beq_eq_decide_eq]))))
  | bool i j => exact A1 rfl (by walk_at "kt") (by walk_at "kt") (A2n rfl (A3n rfl rfl (b := true) (by walk_at "kt") (by walk_at "kt") (jb_is (A4n rfl rfl (b := true) (by walk_at "kt") (by walk_at "kt") rfl rfl) (by simp [sameD, PyData.eqv, Bool.beq_eq_decide_eq]))))
  | str i j => exact A1 rfl (by walk_at "kt") (by walk_at "kt") (A2n rfl (A3n rfl rfl (b := false) (by walk_at "kt") (by walk_at "kt") (jb_is (A4 rfl (b := true) (by walk_at "kt") rfl) (by simp [sameD, PyData.eqv, Bool.beq_eq_decide_eq]))))
  | non1 hy =>
    rcases noDc_cases hy with rfl | ⟨b, rfl⟩ | ⟨b, rfl⟩ | ⟨b, rfl⟩ | ⟨b, rfl⟩ | ⟨b, rfl⟩
    · exact A1 rfl (by walk_at "kt") (by walk_at "kt") A2
    · exact A1 rfl (by walk_at "kt") (by walk_at "kt") (A2n rfl (A3 rfl rfl (b1 := true) (b2 := false) (by walk_at "kt") (by walk_at "kt") (by decide)))
    · exact A1 rfl (by walk_at "kt") (by walk_at "kt") (A2n rfl (A3n rfl rfl (b := false) (by walk_at "kt") (by walk_at "kt") (jb_is (A4n rfl rfl (b := false) (by walk_at "kt") (by walk_at "kt") rfl rfl) rfl)))
    · exact A1 rfl (by walk_at "kt") (by walk_at "kt") (A2n rfl (A3n rfl rfl (b := false) (by walk_at "kt") (by walk_at "kt") (jb_is (A4 rfl (b := false) (by walk_at "kt") rfl) rfl)))
    · exact A5 rfl rfl (l1 := true) (t1 := false) (l2 := false) (t2 := false) (by walk_at "kt") (by walk_at "kt") (by walk_at "kt") (by walk_at "kt") rfl rfl
    · exact A5 rfl rfl (l1 := false) (t1 := true) (l2 := false) (t2 := false) (by walk_at "kt") (by walk_at "kt") (by walk_at "kt") (by walk_at "kt") rfl rfl
  | @lst m xs ys hxy =>
    have hl1 : xs.length ≤ 16777216 := hl1
    have hl2 : ys.length ≤ 16777216 := hl2
    refine jb_yesc (jt_v (je_isi2 (b1 := true) (b2 := false) rfl m_isi rfl m_list b_list rfl m_tuple b_tuple (je_var 1) (by walk_at "kt") (by walk_at "kt"))) rfl ?_
    refine jb_noc (jt_w (jw_or (jt_c (cj_neB (j2d (je_isi (c := true) rfl m_isi rfl m_list b_list (je_var 1) (by walk_at "kt")) (je_isi (c := true) rfl m_isi rfl m_list b_list (je_var 0) (by walk_at "kt")))))
        (fun _ => jw_or1 (jt_c (cj_neB (j2d (je_isi (c := false) rfl m_isi rfl m_tuple b_tuple (je_var 1) (by walk_at "kt")) (je_isi (c := false) rfl m_isi rfl m_tuple b_tuple (je_var 0) (by walk_at "kt")))))))) rfl ?_
    refine jb_is (jb_ifr (r := false) (r' := sameD.sameAll xs ys) (jt_c (cj_neI (j2d (je_lenL rfl m_len (je_b (je_var 0))) (je_lenL rfl m_len (je_b (je_var 1)))))) (fun _ => jb_ret je_bl (by walk_at "le")) (fun hc => ?_)) (sameD_list xs ys)
    have hl := of_nec hc
    rw [sameAll_map xs ys hl]
    refine jb_ret (je_all rfl m_all (je_b (je_fz (je_lc0 (enc := PyData.int) (dec := PyData.bool) [("k", 2)] (fun k => sameD (gI xs k) (gI ys k)) (ji_range1 rfl m_range (je_lenL rfl m_len (je_b (je_var 1))) ⟨by omega, by omega⟩) nd rfl (unk_of rfl) (fun k hk => ?_))))) (by walk_at "le")
    have hk := rgI_mem hk
    refine lcp (js := [2]) (by simp) (jg_name 2 nd) jts_nil (le_r (le_r (le_u le_nil))) fun _ => ?_
    refine je_call' (A := PyData × PyData) (ih m rfl) (gI xs k, gI ys k) m_own kp bi (ja_cons (je_ixL (j2d (je_var 0) (je_var 2)) (gI_some ⟨by omega, by omega⟩)) (ja_cons (je_ixL (j2d (je_var 1) (je_var 2)) (gI_some ⟨by omega, by omega⟩)) ja_nil)) ?_ rfl (Nat.le_refl _)
    refine hxy k.toNat _ _ (gI_getE ⟨by omega, by omega⟩) (gI_getE ⟨by omega, by omega⟩)
  | @tup m xs ys hxy =>
    have hl1 : xs.length ≤ 16777216 := hl1
    have hl2 : ys.length ≤ 16777216 := hl2
    refine jb_yesc (jt_v (je_isi2 (b1 := false) (b2 := true) rfl m_isi rfl m_list b_list rfl m_tuple b_tuple (je_var 1) (by walk_at "kt") (by walk_at "kt"))) rfl ?_
    refine jb_noc (jt_w (jw_or (jt_c (cj_neB (j2d (je_isi (c := false) rfl m_isi rfl m_list b_list (je_var 1) (by walk_at "kt")) (je_isi (c := false) rfl m_isi rfl m_list b_list (je_var 0) (by walk_at "kt")))))
        (fun _ => jw_or1 (jt_c (cj_neB (j2d (je_isi (c := true) rfl m_isi rfl m_tuple b_tuple (je_var 1) (by walk_at "kt")) (je_isi (c := true) rfl m_isi rfl m_tuple b_tuple (je_var 0) (by walk_at "kt")))))))) rfl ?_
    refine jb_is (jb_ifr (r := false) (r' := sameD.sameAll xs ys) (jt_c (cj_neI (j2d (je_lenT rfl m_len (je_b (je_var 0))) (je_lenT rfl m_len (je_b (je_var 1)))))) (fun _ => jb_ret je_bl (by walk_at "le")) (fun hc => ?_)) (sameD_tuple xs ys)
    have hl := of_nec hc
    rw [sameAll_map xs ys hl]
    refine jb_ret (je_all rfl m_all (je_b (je_fz (je_lc0 (enc := PyData.int) (dec := PyData.bool) [("k", 2)] (fun k => sameD (gI xs k) (gI ys k)) (ji_range1 rfl m_range (je_lenT rfl m_len (je_b (je_var 1))) ⟨by omega, by omega⟩) nd rfl (unk_of rfl) (fun k hk => ?_))))) (by walk_at "le")
    have hk := rgI_mem hk
    refine lcp (js := [2]) (by simp) (jg_name 2 nd) jts_nil (le_r (le_r (le_u le_nil))) fun _ => ?_
    refine je_call' (A := PyData × PyData) (ih m rfl) (gI xs k, gI ys k) m_own kp bi (ja_cons (je_ixT (j2d (je_var 0) (je_var 2)) (gI_some ⟨by omega, by omega⟩)) (ja_cons (je_ixT (j2d (je_var 1) (je_var 2)) (gI_some ⟨by omega, by omega⟩)) ja_nil)) ?_ rfl (Nat.le_refl _)
    refine hxy k.toNat _ _ (gI_getE ⟨by omega, by omega⟩) (gI_getE ⟨by omega, by omega⟩)
theorem ok_same (X : Txt K mg) : ∀ n : Nat, FnOk P w K mg base CX0 (n + 1) X.f_same X.d_same ["actual", "due"] (SpSame K n) := by
  intro n
  induction n with
  | zero => exact ok_same0 X.o_same.F X.o_same.m X.o_same.F.kp X.o_same.b X.m_isinstance X.m_list X.m_tuple X.m_bool X.m_str X.m_int X.m_len X.m_all X.m_range 0 (fun m h => by cases h)
  | succ n ih => exact ok_same0 X.o_same.F X.o_same.m X.o_same.F.kp X.o_same.b X.m_isinstance X.m_list X.m_tuple X.m_bool X.m_str X.m_int X.m_len X.m_all X.m_range (n + 1) (fun m h => by cases h; exact ih)
def tasters_of (plan_0 : (List (List Int))) (bottle_0 : Int) : (List Int) :=
  (((enumL plan_0).filter fun x_1 : (Int × (List Int)) => (inB bottle_0 x_1.2)).map fun x_1 : (Int × (List Int)) => x_1.1)
def tasters_of_ok (plan_0 : (List (List Int))) (bottle_0 : Int) : Prop :=
  True
abbrev N_tasters_of : List Str := ["plan", "bottle", "taster", "part"]
theorem sc_tasters_of : FnScope N_tasters_of ["plan", "bottle"] (defScope (topS 19)) := ⟨rfl, rfl, rfl, by decide +kernel, rfl, by decide +kernel, by decide +kernel⟩
theorem ok_tasters_of (X : Txt K mg) : FnOk P w K mg base CX0 1 X.f_tasters_of X.d_tasters_of ["plan", "bottle"] (SpD K (fun a : (List (List Int)) × Int => tasters_of_ok a.1 a.2) (fun a => [(eT (eT PyData.int)) a.1, PyData.int a.2]) (fun a => (eT PyData.int) (tasters_of a.1 a.2))) := by
  refine fn_ok (A := (List (List Int)) × Int) (args := fun a => [(eT (eT PyData.int)) a.1, PyData.int a.2]) X.o_tasters_of.F sc_tasters_of (eT PyData.int) (fun a => tasters_of a.1 a.2) (fun _ => rfl) (by decide) ?_
  rintro ⟨plan_0, bottle_0⟩ hok hlen
  have nd : (tc P w K mg base N_tasters_of (topS 19) 0).N.Nodup := sc_tasters_of.nd
  show JB (tc P w K mg base N_tasters_of (topS 19) 0) (eT PyData.int) (fun _ => uE N_tasters_of) _ [.d ((eT (eT PyData.int)) plan_0), .d (PyData.int bottle_0), .u, .u] (tasters_of plan_0 bottle_0)
  have hok : tasters_of_ok plan_0 bottle_0 := hok
  unfold tasters_of_ok at hok
  unfold tasters_of
  have hs_4 := hok
  exact jb_ret (je_tupL (xs := (((enumL plan_0).filter fun x_1 : (Int × (List Int)) => (inB bottle_0 x_1.2)).map fun x_1 : (Int × (List Int)) => x_1.1).map PyData.int) rfl X.m_tuple (je_fb (je_lc1 (enc := (eP2 PyData.int (eT PyData.int))) (dec := PyData.int) [("taster", 2), ("part", 3)] (fun x_1 : (Int × (List Int)) => (inB bottle_0 x_1.2)) (fun x_1 : (Int × (List Int)) => x_1.1) (ji_enumT' rfl X.m_enumerate (je_var 0)) (by exact nd) rfl (unk_of rfl) (fun x_1 hx_2 => lcp (js := [2, 3]) (E1 := [.d ((eT (eT PyData.int)) plan_0), .d (PyData.int bottle_0), .d (PyData.int x_1.1), .d ((eT PyData.int) x_1.2)]) (by simp) (jg_tup (jgs_cons (jg_name 2 (by exact nd)) (jgs_cons (jg_name 3 (by exact nd)) jgs_nil))) (jts_one (jt_c (cj_inTB (enc := PyData.int) (x := bottle_0) (ys := x_1.2) (j2d (je_var 1) (je_var 3)) fl_int eqe_int))) (by walk_at "le") fun hc_3 => (je_var 2))))) (by walk_at "le")

def is_sure (bottles_0 : Int) (plan_0 : (List (List Int))) : Bool :=
  (decide ((lenSetL ((rgI 0 bottles_0).map fun x_1 : Int => (tasters_of plan_0 x_1))) = bottles_0))
def is_sure_ok (bottles_0 : Int) (plan_0 : (List (List Int))) : Prop :=
  (rg1 bottles_0) ∧ (∀ x_1 : Int, x_1 ∈ (rgI 0 bottles_0) → (tasters_of_ok plan_0 x_1)) ∧ (((rgI 0 bottles_0).map fun x_1 : Int => (tasters_of plan_0 x_1)).length < 64)
abbrev N_is_sure : List Str := ["bottles", "plan", "bottle"]
theorem sc_is_sure : FnScope N_is_sure ["bottles", "plan"] (defScope (topS 20)) := ⟨rfl, rfl, rfl, by decide +kernel, rfl, by decide +kernel, by decide +kernel⟩
theorem ok_is_sure (X : Txt K mg) : FnOk P w K mg base CX0 2 X.f_is_sure X.d_is_sure ["bottles", "plan"] (SpD K (fun a : Int × (List (List Int)) => is_sure_ok a.1 a.2) (fun a => [PyData.int a.1, (eT (eT PyData.int)) a.2]) (fun a => PyData.bool (is_sure a.1 a.2))) := by
  refine fn_ok (A := Int × (List (List Int))) (args := fun a => [PyData.int a.1, (eT (eT PyData.int)) a.2]) X.o_is_sure.F sc_is_sure PyData.bool (fun a => is_sure a.1 a.2) (fun _ => rfl) (by decide) ?_
  rintro ⟨bottles_0, plan_0⟩ hok hlen
  have nd : (tc P w K mg base N_is_sure (topS 20) 1).N.Nodup := sc_is_sure.nd
  show JB (tc P w K mg base N_is_sure (topS 20) 1) PyData.bool (fun _ => uE N_is_sure) _ [.d (PyData.int bottles_0), .d ((eT (eT PyData.int)) plan_0), .u] (is_sure bottles_0 plan_0)
  have hok : is_sure_ok bottles_0 plan_0 := hok
  unfold is_sure_ok at hok
  unfold is_sure
  have hs_4 := hok
  exact jb_ret (je_c (cj_eqI (j2d (je_lenSetL rfl X.m_len rfl X.m_set (je_fb (je_lc0 (enc := PyData.int) (dec := (eT PyData.int)) [("bottle", 2)] (fun x_1 : Int => (tasters_of plan_0 x_1)) (ji_range1 rfl X.m_range (je_var 0) hs_4.1) (by exact nd) rfl (unk_of rfl) (fun x_1 hx_2 => lcp (js := [2]) (E1 := [.d (PyData.int bottles_0), .d ((eT (eT PyData.int)) plan_0), .d (PyData.int x_1)]) (by simp) (jg_name 2 (by exact nd)) jts_nil (by walk_at "le") fun hc_3 => (je_call' (d := (eT PyData.int) (tasters_of plan_0 x_1)) (ok_tasters_of X) (plan_0, x_1) X.o_tasters_of.m X.o_tasters_of.F.kp X.o_tasters_of.b (ja_cons (je_var 1) (ja_cons (je_var 2) ja_nil)) (hs_4.2.1 x_1 hx_2))))) hs_4.2.2) (je_var 0)))) (by walk_at "le")

def found_by (bottles_0 : Int) (plan_0 : (List (List Int))) (ill_0 : (List Int)) : (Option Int) :=
  Let ((((rgI 0 bottles_0).filter fun x_1 : Int => (decide (((tasters_of plan_0 x_1) : (List Int)) = ill_0))).map fun x_1 : Int => x_1) : (List Int)) fun good_5 =>
  (if (decide ((good_5.length : Int) = (1 : Int))) = true then (some (gI good_5 (0 : Int))) else (none : (Option Int)))
def found_by_ok (bottles_0 : Int) (plan_0 : (List (List Int))) (ill_0 : (List Int)) : Prop :=
  ((rg1 bottles_0) ∧ (∀ x_1 : Int, x_1 ∈ (rgI 0 bottles_0) → (tasters_of_ok plan_0 x_1))) ∧
  Let ((((rgI 0 bottles_0).filter fun x_1 : Int => (decide (((tasters_of plan_0 x_1) : (List Int)) = ill_0))).map fun x_1 : Int => x_1) : (List Int)) fun good_5 =>
  ((decide ((good_5.length : Int) = (1 : Int))) = true → (inR good_5.length (0 : Int)))
abbrev N_found_by : List Str := ["bottles", "plan", "ill", "good", "bottle"]
theorem sc_found_by : FnScope N_found_by ["bottles", "plan", "ill"] (defScope (topS 23)) := ⟨rfl, rfl, rfl, by decide +kernel, rfl, by decide +kernel, by decide +kernel⟩
theorem ok_found_by (X : Txt K mg) : FnOk P w K mg base CX0 2 X.f_found_by X.d_found_by ["bottles", "plan", "ill"] (SpD K (fun a : Int × (List (List Int)) × (List Int) => found_by_ok a.1 a.2.1 a.2.2) (fun a => [PyData.int a.1, (eT (eT PyData.int)) a.2.1, (eT PyData.int) a.2.2]) (fun a => (eO PyData.int) (found_by a.1 a.2.1 a.2.2))) := by
  refine fn_ok (A := Int × (List (List Int)) × (List Int)) (args := fun a => [PyData.int a.1, (eT (eT PyData.int)) a.2.1, (eT PyData.int) a.2.2]) X.o_found_by.F sc_found_by (eO PyData.int) (fun a => found_by a.1 a.2.1 a.2.2) (fun _ => rfl) (by decide) ?_
  rintro ⟨bottles_0, plan_0, ill_0⟩ hok hlen
  have nd : (tc P w K mg base N_found_by (topS 23) 1).N.Nodup := sc_found_by.nd
  show JB (tc P w K mg base N_found_by (topS 23) 1) (eO PyData.int) (fun _ => uE N_found_by) _ [.d (PyData.int bottles_0), .d ((eT (eT PyData.int)) plan_0), .d ((eT PyData.int) ill_0), .u, .u] (found_by bottles_0 plan_0 ill_0)
  have hok : found_by_ok bottles_0 plan_0 ill_0 := hok
  unfold found_by_ok at hok
  unfold found_by
  obtain ⟨hs_4, hok⟩ := hok
  refine jb_cons (js_frz (i := 3) (k0 := none) (js_lc1 3 (enc := PyData.int) (dec := PyData.int) [("bottle", 4)] (fun x_1 : Int => (decide (((tasters_of plan_0 x_1) : (List Int)) = ill_0))) (fun x_1 : Int => x_1) (ji_range1 rfl X.m_range (je_var 0) hs_4.1) (by exact nd) rfl (unk_of rfl) (fun x_1 hx_2 => lcp (js := [4]) (E1 := [.d (PyData.int bottles_0), .d ((eT (eT PyData.int)) plan_0), .d ((eT PyData.int) ill_0), .u, .d (PyData.int x_1)]) (by simp) (jg_name 4 (by exact nd)) (jts_one (jt_c (cj_eqE (enc := (eT PyData.int)) (x := (tasters_of plan_0 x_1)) (y := ill_0) (j2d (je_call' (d := (eT PyData.int) (tasters_of plan_0 x_1)) (ok_tasters_of X) (plan_0, x_1) X.o_tasters_of.m X.o_tasters_of.F.kp X.o_tasters_of.b (ja_cons (je_var 1) (ja_cons (je_var 4) ja_nil)) (hs_4.2 x_1 hx_2)) (je_var 2)) (sh_t sh_int) (eqe_t eqe_int)))) (by walk_at "le") fun hc_3 => (je_var 4))) rfl) ?_
  refine jb_let (F := fun good_5 : (List Int) => [.d (PyData.int bottles_0), .d ((eT (eT PyData.int)) plan_0), .d ((eT PyData.int) ill_0), .d ((eL PyData.int) good_5), .u]) (v := ((((rgI 0 bottles_0).filter fun x_1 : Int => (decide (((tasters_of plan_0 x_1) : (List Int)) = ill_0))).map fun x_1 : Int => x_1) : (List Int))) fun good_5 e_good_5 => ?_
  have hok := let_ok hok good_5 e_good_5
  have hs_7 := hok
  exact jb_ret (je_ifc (u := (some (gI good_5 (0 : Int)))) (w := (none : (Option Int))) (eO PyData.int) (jt_c (cj_eqI (j2d (je_lenL' rfl X.m_len (je_b (je_var 3))) je_int))) (fun hc_6 => (je_ixL' (enc := PyData.int) (j2d (je_var 3) je_int) (hs_7 hc_6))) (fun hc_6 => je_non)) (by walk_at "le")

def fewest_tasters_c_6 (bottles_0 : Int) (l_5 : (Int × Int)) : Bool :=
  (decide (l_5.1 < bottles_0))
def fewest_tasters_c_6_ok (bottles_0 : Int) (l_5 : (Int × Int)) : Prop :=
  True
def fewest_tasters_s_11 (l_5 : (Int × Int)) : (Int × Int) :=
  Let ((l_5.1 * (2 : Int)) : Int) fun reached_8 =>
  Let ((l_5.2 + (1 : Int)) : Int) fun tasters_10 =>
  (reached_8, tasters_10)
def fewest_tasters_s_11_ok (l_5 : (Int × Int)) : Prop :=
  Let ((l_5.1 * (2 : Int)) : Int) fun reached_8 =>
  Let ((l_5.2 + (1 : Int)) : Int) fun tasters_10 =>
  True
def fewest_tasters (bottles_0 : Int) : Int :=
  Let ((0 : Int) : Int) fun tasters_2 =>
  Let ((1 : Int) : Int) fun reached_4 =>
  Let (whileL (fewest_tasters_c_6 bottles_0) (fewest_tasters_s_11) J.fuel (reached_4, tasters_2) : (Int × Int)) fun l_18 =>
  l_18.2
def fewest_tasters_ok (bottles_0 : Int) : Prop :=
  Let ((0 : Int) : Int) fun tasters_2 =>
  Let ((1 : Int) : Int) fun reached_4 =>
  whileEnds (ρ := PyData) (fewest_tasters_c_6 bottles_0) (fun l => .inl (fewest_tasters_s_11 l)) J.fuel (reached_4, tasters_2) ∧
  (∀ l_5 : (Int × Int), Reach (ρ := PyData) (fewest_tasters_c_6 bottles_0) (fun l => .inl (fewest_tasters_s_11 l)) (reached_4, tasters_2) l_5 → fewest_tasters_c_6_ok bottles_0 l_5) ∧
  (∀ l_5 : (Int × Int), Reach (ρ := PyData) (fewest_tasters_c_6 bottles_0) (fun l => .inl (fewest_tasters_s_11 l)) (reached_4, tasters_2) l_5 → fewest_tasters_c_6 bottles_0 l_5 = true → fewest_tasters_s_11_ok l_5) ∧
  Let (whileL (fewest_tasters_c_6 bottles_0) (fewest_tasters_s_11) J.fuel (reached_4, tasters_2) : (Int × Int)) fun l_18 =>
  True
abbrev N_fewest_tasters : List Str := ["bottles", "tasters", "reached"]
theorem sc_fewest_tasters : FnScope N_fewest_tasters ["bottles"] (defScope (topS 21)) := ⟨rfl, rfl, rfl, by decide +kernel, rfl, by decide +kernel, by decide +kernel⟩
theorem ok_fewest_tasters (X : Txt K mg) : FnOk P w K mg base CX0 1 X.f_fewest_tasters X.d_fewest_tasters ["bottles"] (SpD K (fun a : Int => fewest_tasters_ok a) (fun a => [PyData.int a]) (fun a => PyData.int (fewest_tasters a))) := by
  refine fn_ok (A := Int) (args := fun a => [PyData.int a]) X.o_fewest_tasters.F sc_fewest_tasters PyData.int (fun a => fewest_tasters a) (fun _ => rfl) (by decide) ?_
  intro bottles_0 hok hlen
  have nd : (tc P w K mg base N_fewest_tasters (topS 21) 0).N.Nodup := sc_fewest_tasters.nd
  show JB (tc P w K mg base N_fewest_tasters (topS 21) 0) PyData.int (fun _ => uE N_fewest_tasters) _ [.d (PyData.int bottles_0), .u, .u] (fewest_tasters bottles_0)
  have hok : fewest_tasters_ok bottles_0 := hok
  unfold fewest_tasters_ok at hok
  unfold fewest_tasters
  refine jb_cons (js_set 1 nd je_int) ?_
  refine jb_let (F := fun tasters_2 : Int => [.d (PyData.int bottles_0), .d (PyData.int tasters_2), .u]) (v := ((0 : Int) : Int)) fun tasters_2 e_tasters_2 => ?_
  have hok := let_ok hok tasters_2 e_tasters_2
  refine jb_cons (js_set 2 nd je_int) ?_
  refine jb_let (F := fun reached_4 : Int => [.d (PyData.int bottles_0), .d (PyData.int tasters_2), .d (PyData.int reached_4)]) (v := ((1 : Int) : Int)) fun reached_4 e_reached_4 => ?_
  have hok := let_ok hok reached_4 e_reached_4
  obtain ⟨he_12, ht_13, hb_14, hok⟩ := hok
  refine jb_cons (js_whileN (fun l : (Int × Int) => [.d (PyData.int bottles_0), .d (PyData.int l.2), .d (PyData.int l.1)]) (fewest_tasters_c_6 bottles_0) (fewest_tasters_s_11) J.fuel (reached_4, tasters_2) (by walk_at "le") he_12 (fun l_5 hr_15 => ?_) (fun l_5 hr_15 hc_16 => ?_)) ?_
  · have hs_17 := ht_13 l_5 hr_15
    unfold fewest_tasters_c_6_ok at hs_17
    unfold fewest_tasters_c_6
    exact (jt_c (cj_lt (j2d (je_var 2) (je_var 0))))
  · have hok := hb_14 l_5 hr_15 hc_16
    unfold fewest_tasters_s_11_ok at hok
    unfold fewest_tasters_s_11
    refine jn_cons (js_set 2 nd (je_mul (j2d (je_var 2) je_int) (.inr (by decide)))) ?_
    refine jn_let (F := fun reached_8 : Int => [.d (PyData.int bottles_0), .d (PyData.int l_5.2), .d (PyData.int reached_8)]) (v := ((l_5.1 * (2 : Int)) : Int)) fun reached_8 e_reached_8 => ?_
    have hok := let_ok hok reached_8 e_reached_8
    refine jn_cons (js_set 1 nd (je_add (j2d (je_var 1) je_int))) ?_
    refine jn_let (F := fun tasters_10 : Int => [.d (PyData.int bottles_0), .d (PyData.int tasters_10), .d (PyData.int reached_8)]) (v := ((l_5.2 + (1 : Int)) : Int)) fun tasters_10 e_tasters_10 => ?_
    have hok := let_ok hok tasters_10 e_tasters_10
    exact jn_nil (by walk_at "le")
  refine jb_let (F := fun l : (Int × Int) => [.d (PyData.int bottles_0), .d (PyData.int l.2), .d (PyData.int l.1)]) fun l_18 e_l_18 => ?_
  have hok := let_ok hok l_18 e_l_18
  have hs_19 := hok
  exact jb_ret (je_var 1) (by walk_at "le")

def first_plan_s_16 (bottles_0 : Int) (l_6 : ((List (List Int)) × Int)) (x_7 : Int) : ((List (List Int)) × Int) :=
  Let ((l_6.1 ++ [(((rgI 0 bottles_0).filter fun x_8 : Int => (decide ((Int.fmod (Int.fdiv x_8 l_6.2) (2 : Int)) = (1 : Int)))).map fun x_8 : Int => x_8)]) : (List (List Int))) fun found_12 =>
  Let ((l_6.2 * (2 : Int)) : Int) fun step_14 =>
  (found_12, step_14)
def first_plan_s_16_ok (bottles_0 : Int) (l_6 : ((List (List Int)) × Int)) (x_7 : Int) : Prop :=
  ((rg1 bottles_0) ∧ (∀ x_8 : Int, x_8 ∈ (rgI 0 bottles_0) → (CDivN x_8 l_6.2)) ∧ (l_6.1.length < LN)) ∧
  Let ((l_6.1 ++ [(((rgI 0 bottles_0).filter fun x_8 : Int => (decide ((Int.fmod (Int.fdiv x_8 l_6.2) (2 : Int)) = (1 : Int)))).map fun x_8 : Int => x_8)]) : (List (List Int))) fun found_12 =>
  Let ((l_6.2 * (2 : Int)) : Int) fun step_14 =>
  True
def first_plan (bottles_0 : Int) : (List (List Int)) :=
  Let (([] : (List (List Int))) : (List (List Int))) fun found_2 =>
  Let ((1 : Int) : Int) fun step_4 =>
  Let ((rgI 0 (fewest_tasters bottles_0)).foldl (first_plan_s_16 bottles_0) (found_2, step_4) : ((List (List Int)) × Int)) fun l_21 =>
  l_21.1
def first_plan_ok (bottles_0 : Int) : Prop :=
  Let (([] : (List (List Int))) : (List (List Int))) fun found_2 =>
  Let ((1 : Int) : Int) fun step_4 =>
  ((fewest_tasters_ok bottles_0) ∧ (rg1 (fewest_tasters bottles_0))) ∧
  (∀ (i_19 : Nat) (x_7 : Int) (l_6 : ((List (List Int)) × Int)), (rgI 0 (fewest_tasters bottles_0))[i_19]? = some x_7 → l_6 = ((rgI 0 (fewest_tasters bottles_0)).take i_19).foldl (first_plan_s_16 bottles_0) (found_2, step_4) → first_plan_s_16_ok bottles_0 l_6 x_7) ∧
  Let ((rgI 0 (fewest_tasters bottles_0)).foldl (first_plan_s_16 bottles_0) (found_2, step_4) : ((List (List Int)) × Int)) fun l_21 =>
  True
abbrev N_first_plan : List Str := ["bottles", "found", "step", "_", "bottle"]
theorem sc_first_plan : FnScope N_first_plan ["bottles"] (defScope (topS 22)) := ⟨rfl, rfl, rfl, by decide +kernel, rfl, by decide +kernel, by decide +kernel⟩
theorem ok_first_plan (X : Txt K mg) : FnOk P w K mg base CX0 2 X.f_first_plan X.d_first_plan ["bottles"] (SpD K (fun a : Int => first_plan_ok a) (fun a => [PyData.int a]) (fun a => (eT (eT PyData.int)) (first_plan a))) := by
  refine fn_ok (A := Int) (args := fun a => [PyData.int a]) X.o_first_plan.F sc_first_plan (eT (eT PyData.int)) (fun a => first_plan a) (fun _ => rfl) (by decide) ?_
  intro bottles_0 hok hlen
  have nd : (tc P w K mg base N_first_plan (topS 22) 1).N.Nodup := sc_first_plan.nd
  show JB (tc P w K mg base N_first_plan (topS 22) 1) (eT (eT PyData.int)) (fun _ => uE N_first_plan) _ [.d (PyData.int bottles_0), .u, .u, .u, .u] (first_plan bottles_0)
  have hok : first_plan_ok bottles_0 := hok
  unfold first_plan_ok at hok
  unfold first_plan
  refine jb_cons (js_setO 1 nd (je_lst ja_nil)) ?_
  refine jb_let (F := fun found_2 : (List (List Int)) => [.d (PyData.int bottles_0), .o none ((eL (eT PyData.int)) found_2), .u, .u, .u]) (v := (([] : (List (List Int))) : (List (List Int)))) fun found_2 e_found_2 => ?_
  have hok := let_ok hok found_2 e_found_2
  refine jb_cons (js_set 2 nd je_int) ?_
  refine jb_let (F := fun step_4 : Int => [.d (PyData.int bottles_0), .o none ((eL (eT PyData.int)) found_2), .d (PyData.int step_4), .u, .u]) (v := ((1 : Int) : Int)) fun step_4 e_step_4 => ?_
  have hok := let_ok hok step_4 e_step_4
  obtain ⟨hs_5, hok⟩ := hok
  obtain ⟨hf_20, hok⟩ := hok
  refine jb_cons (js_forN (enc := PyData.int) (fun l : ((List (List Int)) × Int) => [.d (PyData.int bottles_0), .o none ((eL (eT PyData.int)) l.1), .d (PyData.int l.2), .u, .u]) (first_plan_s_16 bottles_0) (found_2, step_4) (ji_range1 rfl X.m_range (je_call' (d := PyData.int (fewest_tasters bottles_0)) (ok_fewest_tasters X) (bottles_0) X.o_fewest_tasters.m X.o_fewest_tasters.F.kp X.o_fewest_tasters.b (ja_cons (je_var 0) ja_nil) hs_5.1) hs_5.2) (by walk_at "le") (fun i_19 x_7 l_6 hx_17 hl_18 => ?_)) ?_
  · have hok := hf_20 i_19 x_7 l_6 hx_17 hl_18
    unfold first_plan_s_16_ok at hok
    unfold first_plan_s_16
    refine ⟨[3], [.d (PyData.int bottles_0), .o none ((eL (eT PyData.int)) l_6.1), .d (PyData.int l_6.2), .d (PyData.int x_7), .u], (jg_name 3 (by exact nd)), ?_⟩
    obtain ⟨hs_11, hok⟩ := hok
    refine jn_cons (js_expr (je_append' (enc := (eT PyData.int)) (xs := l_6.1) (x := (((rgI 0 bottles_0).filter fun x_8 : Int => (decide ((Int.fmod (Int.fdiv x_8 l_6.2) (2 : Int)) = (1 : Int)))).map fun x_8 : Int => x_8)) 1 (je_tupL (xs := (((rgI 0 bottles_0).filter fun x_8 : Int => (decide ((Int.fmod (Int.fdiv x_8 l_6.2) (2 : Int)) = (1 : Int)))).map fun x_8 : Int => x_8).map PyData.int) rfl X.m_tuple (je_fb (je_lc1 (enc := PyData.int) (dec := PyData.int) [("bottle", 4)] (fun x_8 : Int => (decide ((Int.fmod (Int.fdiv x_8 l_6.2) (2 : Int)) = (1 : Int)))) (fun x_8 : Int => x_8) (ji_range1 rfl X.m_range (je_var 0) hs_11.1) (by exact nd) rfl (unk_of rfl) (fun x_8 hx_9 => lcp (js := [4]) (E1 := [.d (PyData.int bottles_0), .o none ((eL (eT PyData.int)) l_6.1), .d (PyData.int l_6.2), .d (PyData.int x_7), .d (PyData.int x_8)]) (by simp) (jg_name 4 (by exact nd)) (jts_one (jt_c (cj_eqI (j2d (je_mod (j2d (je_fdiv (j2d (je_var 4) (je_var 2)) (hs_11.2.1 x_8 hx_9)) je_int) (by decide)) je_int)))) (by walk_at "le") fun hc_10 => (je_var 4))))) hs_11.2.2)) ?_
    refine jn_let (F := fun found_12 : (List (List Int)) => [.d (PyData.int bottles_0), .o none ((eL (eT PyData.int)) found_12), .d (PyData.int l_6.2), .d (PyData.int x_7), .u]) (v := ((l_6.1 ++ [(((rgI 0 bottles_0).filter fun x_8 : Int => (decide ((Int.fmod (Int.fdiv x_8 l_6.2) (2 : Int)) = (1 : Int)))).map fun x_8 : Int => x_8)]) : (List (List Int)))) fun found_12 e_found_12 => ?_
    have hok := let_ok hok found_12 e_found_12
    refine jn_cons (js_set 2 nd (je_mul (j2d (je_var 2) je_int) (.inr (by decide)))) ?_
    refine jn_let (F := fun step_14 : Int => [.d (PyData.int bottles_0), .o none ((eL (eT PyData.int)) found_12), .d (PyData.int step_14), .d (PyData.int x_7), .u]) (v := ((l_6.2 * (2 : Int)) : Int)) fun step_14 e_step_14 => ?_
    have hok := let_ok hok step_14 e_step_14
    exact jn_nil (by walk_at "le")
  refine jb_let (F := fun l : ((List (List Int)) × Int) => [.d (PyData.int bottles_0), .o none ((eL (eT PyData.int)) l.1), .d (PyData.int l.2), .u, .u]) fun l_21 e_l_21 => ?_
  have hok := let_ok hok l_21 e_l_21
  have hs_22 := hok
  exact jb_ret (je_tupL (xs := l_21.1.map (eT PyData.int)) rfl X.m_tuple (je_varB 1)) (by walk_at "le")

def by_two_rounds_s_9 (l_4 : Int) (x_5 : Int) : Int :=
  Let ((l_4 * (3 : Int)) : Int) fun found_7 =>
  found_7
def by_two_rounds_s_9_ok (l_4 : Int) (x_5 : Int) : Prop :=
  Let ((l_4 * (3 : Int)) : Int) fun found_7 =>
  True
def by_two_rounds (tasters_0 : Int) : Int :=
  Let ((1 : Int) : Int) fun found_2 =>
  Let ((rgI 0 tasters_0).foldl (by_two_rounds_s_9) found_2 : Int) fun l_14 =>
  l_14
def by_two_rounds_ok (tasters_0 : Int) : Prop :=
  Let ((1 : Int) : Int) fun found_2 =>
  ((rg1 tasters_0)) ∧
  (∀ (i_12 : Nat) (x_5 : Int) (l_4 : Int), (rgI 0 tasters_0)[i_12]? = some x_5 → l_4 = ((rgI 0 tasters_0).take i_12).foldl (by_two_rounds_s_9) found_2 → by_two_rounds_s_9_ok l_4 x_5) ∧
  Let ((rgI 0 tasters_0).foldl (by_two_rounds_s_9) found_2 : Int) fun l_14 =>
  True
abbrev N_by_two_rounds : List Str := ["tasters", "found", "_"]
theorem sc_by_two_rounds : FnScope N_by_two_rounds ["tasters"] (defScope (topS 24)) := ⟨rfl, rfl, rfl, by decide +kernel, rfl, by decide +kernel, by decide +kernel⟩
theorem ok_by_two_rounds (X : Txt K mg) : FnOk P w K mg base CX0 1 X.f_by_two_rounds X.d_by_two_rounds ["tasters"] (SpD K (fun a : Int => by_two_rounds_ok a) (fun a => [PyData.int a]) (fun a => PyData.int (by_two_rounds a))) := by
  refine fn_ok (A := Int) (args := fun a => [PyData.int a]) X.o_by_two_rounds.F sc_by_two_rounds PyData.int (fun a => by_two_rounds a) (fun _ => rfl) (by decide) ?_
  intro tasters_0 hok hlen
  have nd : (tc P w K mg base N_by_two_rounds (topS 24) 0).N.Nodup := sc_by_two_rounds.nd
  show JB (tc P w K mg base N_by_two_rounds (topS 24) 0) PyData.int (fun _ => uE N_by_two_rounds) _ [.d (PyData.int tasters_0), .u, .u] (by_two_rounds tasters_0)
  have hok : by_two_rounds_ok tasters_0 := hok
  unfold by_two_rounds_ok at hok
  unfold by_two_rounds
  refine jb_cons (js_set 1 nd je_int) ?_
  refine jb_let (F := fun found_2 : Int => [.d (PyData.int tasters_0), .d (PyData.int found_2), .u]) (v := ((1 : Int) : Int)) fun found_2 e_found_2 => ?_
  have hok := let_ok hok found_2 e_found_2
  obtain ⟨hs_3, hok⟩ := hok
  obtain ⟨hf_13, hok⟩ := hok
  refine jb_cons (js_forN (enc := PyData.int) (fun l : Int => [.d (PyData.int tasters_0), .d (PyData.int l), .u]) (by_two_rounds_s_9) found_2 (ji_range1 rfl X.m_range (je_var 0) hs_3) (by walk_at "le") (fun i_12 x_5 l_4 hx_10 hl_11 => ?_)) ?_
  · have hok := hf_13 i_12 x_5 l_4 hx_10 hl_11
    unfold by_two_rounds_s_9_ok at hok
    unfold by_two_rounds_s_9
    refine ⟨[2], [.d (PyData.int tasters_0), .d (PyData.int l_4), .d (PyData.int x_5)], (jg_name 2 (by exact nd)), ?_⟩
    refine jn_cons (js_set 1 nd (je_mul (j2d (je_var 1) je_int) (.inr (by decide)))) ?_
    refine jn_let (F := fun found_7 : Int => [.d (PyData.int tasters_0), .d (PyData.int found_7), .d (PyData.int x_5)]) (v := ((l_4 * (3 : Int)) : Int)) fun found_7 e_found_7 => ?_
    have hok := let_ok hok found_7 e_found_7
    exact jn_nil (by walk_at "le")
  refine jb_let (F := fun l : Int => [.d (PyData.int tasters_0), .d (PyData.int l), .u]) fun l_14 e_l_14 => ?_
  have hok := let_ok hok l_14 e_l_14
  have hs_15 := hok
  exact jb_ret (je_var 1) (by walk_at "le")

def is_row (thing_0 : PyData) (least_0 : Int) (most_0 : Int) : Bool :=
  ((isTup thing_0) && (decide (least_0 ≤ (((dT dA) thing_0).length : Int)) && decide ((((dT dA) thing_0).length : Int) ≤ most_0)))
def is_row_ok (thing_0 : PyData) (least_0 : Int) (most_0 : Int) : Prop :=
  (noDc thing_0 = true) ∧ ((isTup thing_0) = true → ((eT eD) ((dT dA) thing_0) = thing_0))
abbrev N_is_row : List Str := ["thing", "least", "most"]
theorem sc_is_row : FnScope N_is_row ["thing", "least", "most"] (defScope (topS 14)) := ⟨rfl, rfl, rfl, by decide +kernel, rfl, by decide +kernel, by decide +kernel⟩
theorem ok_is_row (X : Txt K mg) : FnOk P w K mg base CX0 1 X.f_is_row X.d_is_row ["thing", "least", "most"] (SpD K (fun a : PyData × Int × Int => is_row_ok a.1 a.2.1 a.2.2) (fun a => [eD a.1, PyData.int a.2.1, PyData.int a.2.2]) (fun a => PyData.bool (is_row a.1 a.2.1 a.2.2))) := by
  refine fn_ok (A := PyData × Int × Int) (args := fun a => [eD a.1, PyData.int a.2.1, PyData.int a.2.2]) X.o_is_row.F sc_is_row PyData.bool (fun a => is_row a.1 a.2.1 a.2.2) (fun _ => rfl) (by decide) ?_
  rintro ⟨thing_0, least_0, most_0⟩ hok hlen
  have nd : (tc P w K mg base N_is_row (topS 14) 0).N.Nodup := sc_is_row.nd
  show JB (tc P w K mg base N_is_row (topS 14) 0) PyData.bool (fun _ => uE N_is_row) _ [.d (eD thing_0), .d (PyData.int least_0), .d (PyData.int most_0)] (is_row thing_0 least_0 most_0)
  have hok : is_row_ok thing_0 least_0 most_0 := hok
  unfold is_row_ok at hok
  unfold is_row
  have hs_3 := hok
  exact jb_ret (je_and (je_isi rfl X.m_isinstance rfl X.m_tuple b_tuple (je_var 0) (kitTup hs_3.1) hs_3.1) (fun hc_2 => (je_one (je_lele (je_var 1) (je_lenT' rfl X.m_len (je_b (je_dec (je_var 0) (hs_3.2 hc_2)))) (fun hc_1 => (je_var 2)))))) (by walk_at "le")

def is_integer (thing_0 : PyData) : Bool :=
  ((isInt thing_0) && (!(isBoo thing_0)))
def is_integer_ok (thing_0 : PyData) : Prop :=
  (noDc thing_0 = true) ∧ ((isInt thing_0) = true → (noDc thing_0 = true))
abbrev N_is_integer : List Str := ["thing"]
theorem sc_is_integer : FnScope N_is_integer ["thing"] (defScope (topS 12)) := ⟨rfl, rfl, rfl, by decide +kernel, rfl, by decide +kernel, by decide +kernel⟩
theorem ok_is_integer (X : Txt K mg) : FnOk P w K mg base CX0 1 X.f_is_integer X.d_is_integer ["thing"] (SpD K (fun a : PyData => is_integer_ok a) (fun a => [eD a]) (fun a => PyData.bool (is_integer a))) := by
  refine fn_ok (A := PyData) (args := fun a => [eD a]) X.o_is_integer.F sc_is_integer PyData.bool (fun a => is_integer a) (fun _ => rfl) (by decide) ?_
  intro thing_0 hok hlen
  have nd : (tc P w K mg base N_is_integer (topS 12) 0).N.Nodup := sc_is_integer.nd
  show JB (tc P w K mg base N_is_integer (topS 12) 0) PyData.bool (fun _ => uE N_is_integer) _ [.d (eD thing_0)] (is_integer thing_0)
  have hok : is_integer_ok thing_0 := hok
  unfold is_integer_ok at hok
  unfold is_integer
  have hs_2 := hok
  exact jb_ret (je_and (je_isi rfl X.m_isinstance rfl X.m_int b_int (je_var 0) (kitInt hs_2.1) hs_2.1) (fun hc_1 => (je_one (je_not (je_isi rfl X.m_isinstance rfl X.m_bool b_bool (je_var 0) (kitBoo (hs_2.2 hc_1)) (hs_2.2 hc_1)))))) (by walk_at "le")

def is_number (thing_0 : PyData) (least_0 : Int) (most_0 : Int) : Bool :=
  ((is_integer thing_0) && ((decide (least_0 ≤ (dI thing_0))) && (false || (decide ((dI thing_0) ≤ most_0)))))
def is_number_ok (thing_0 : PyData) (least_0 : Int) (most_0 : Int) : Prop :=
  (is_integer_ok thing_0) ∧ ((is_integer thing_0) = true → (PyData.int (dI thing_0) = thing_0) ∧ ((decide (least_0 ≤ (dI thing_0))) = true → (false = false → (PyData.int (dI thing_0) = thing_0))))
abbrev N_is_number : List Str := ["thing", "least", "most"]
theorem sc_is_number : FnScope N_is_number ["thing", "least", "most"] (defScope (topS 13)) := ⟨rfl, rfl, rfl, by decide +kernel, rfl, by decide +kernel, by decide +kernel⟩
theorem ok_is_number (X : Txt K mg) : FnOk P w K mg base CX0 2 X.f_is_number X.d_is_number ["thing", "least", "most"] (SpD K (fun a : PyData × Int × Int => is_number_ok a.1 a.2.1 a.2.2) (fun a => [eD a.1, PyData.int a.2.1, PyData.int a.2.2]) (fun a => PyData.bool (is_number a.1 a.2.1 a.2.2))) := by
  refine fn_ok (A := PyData × Int × Int) (args := fun a => [eD a.1, PyData.int a.2.1, PyData.int a.2.2]) X.o_is_number.F sc_is_number PyData.bool (fun a => is_number a.1 a.2.1 a.2.2) (fun _ => rfl) (by decide) ?_
  rintro ⟨thing_0, least_0, most_0⟩ hok hlen
  have nd : (tc P w K mg base N_is_number (topS 13) 1).N.Nodup := sc_is_number.nd
  show JB (tc P w K mg base N_is_number (topS 13) 1) PyData.bool (fun _ => uE N_is_number) _ [.d (eD thing_0), .d (PyData.int least_0), .d (PyData.int most_0)] (is_number thing_0 least_0 most_0)
  have hok : is_number_ok thing_0 least_0 most_0 := hok
  unfold is_number_ok at hok
  unfold is_number
  have hs_4 := hok
  exact jb_ret (je_and (je_call' (d := PyData.bool (is_integer thing_0)) (ok_is_integer X) (thing_0) X.o_is_integer.m X.o_is_integer.F.kp X.o_is_integer.b (ja_cons (je_var 0) ja_nil) hs_4.1) (fun hc_3 => (je_and (je_c (cj_ge (j2d (je_dec (je_var 0) (hs_4.2 hc_3).1) (je_var 1)))) (fun hc_2 => (je_one (je_or (je_isN (x := PyData.int most_0) (je_b (je_var 2))) (fun hc_1 => (je_one (je_c (cj_le (j2d (je_dec (je_var 0) (((hs_4.2 hc_3).2 hc_2) hc_1)) (je_var 2)))))))))))) (by walk_at "le")

def is_ascending (entries_0 : PyData) : Bool :=
  (((((dT dA) entries_0).zip (cutL ((dT dA) entries_0) (some (1 : Int)) none)).map fun x_1 : (PyData × PyData) => (PySem.W.dataLt x_1.1 x_1.2)).all id)
def is_ascending_ok (entries_0 : PyData) : Prop :=
  ((eT eD) ((dT dA) entries_0) = entries_0) ∧ ((eT eD) ((dT dA) entries_0) = entries_0) ∧ (∀ x_1 : (PyData × PyData), x_1 ∈ (((dT dA) entries_0).zip (cutL ((dT dA) entries_0) (some (1 : Int)) none)) → (cmpOk x_1.1 x_1.2))
abbrev N_is_ascending : List Str := ["entries", "one", "other"]
theorem sc_is_ascending : FnScope N_is_ascending ["entries"] (defScope (topS 15)) := ⟨rfl, rfl, rfl, by decide +kernel, rfl, by decide +kernel, by decide +kernel⟩
theorem ok_is_ascending (X : Txt K mg) : FnOk P w K mg base CX0 1 X.f_is_ascending X.d_is_ascending ["entries"] (SpD K (fun a : PyData => is_ascending_ok a) (fun a => [eD a]) (fun a => PyData.bool (is_ascending a))) := by
  refine fn_ok (A := PyData) (args := fun a => [eD a]) X.o_is_ascending.F sc_is_ascending PyData.bool (fun a => is_ascending a) (fun _ => rfl) (by decide) ?_
  intro entries_0 hok hlen
  have nd : (tc P w K mg base N_is_ascending (topS 15) 0).N.Nodup := sc_is_ascending.nd
  show JB (tc P w K mg base N_is_ascending (topS 15) 0) PyData.bool (fun _ => uE N_is_ascending) _ [.d (eD entries_0), .u, .u] (is_ascending entries_0)
  have hok : is_ascending_ok entries_0 := hok
  unfold is_ascending_ok at hok
  unfold is_ascending
  have hs_4 := hok
  exact jb_ret (je_all rfl X.m_all (je_fb (je_lc0 (enc := (eP2 eD eD)) (dec := PyData.bool) [("one", 1), ("other", 2)] (fun x_1 : (PyData × PyData) => (PySem.W.dataLt x_1.1 x_1.2)) (ji_zipT' rfl X.m_zip (ja_cons (je_dec (je_var 0) hs_4.1) (ja_cons (je_slT' (enc := eD) (xs := ((dT dA) entries_0)) (je_dec (je_var 0) hs_4.2.1) (jo_some je_int) jo_none) ja_nil))) (by exact nd) rfl (unk_of rfl) (fun x_1 hx_2 => lcp (js := [1, 2]) (E1 := [.d (eD entries_0), .d (eD x_1.1), .d (eD x_1.2)]) (by simp) (jg_tup (jgs_cons (jg_name 1 (by exact nd)) (jgs_cons (jg_name 2 (by exact nd)) jgs_nil))) jts_nil (by walk_at "le") fun hc_3 => (je_c (cj_ltA (j2d (je_var 1) (je_var 2)) (hs_4.2.2 x_1 hx_2))))))) (by walk_at "le")

def is_plan_s_19 (bottles_0 : Int) (l_9 : Unit) (x_10 : PyData) : (Unit ⊕ Bool) :=
  if ((!((((dT dA) x_10).map fun x_11 : PyData => (is_number x_11 (0 : Int) (bottles_0 - (1 : Int)))).all id)) || (!(is_ascending x_10))) = true then
  (.inr (false))
  else
  (.inl ())
def is_plan_s_19_ok (bottles_0 : Int) (l_9 : Unit) (x_10 : PyData) : Prop :=
  (((eT eD) ((dT dA) x_10) = x_10) ∧ (∀ x_11 : PyData, x_11 ∈ ((dT dA) x_10) → (is_number_ok x_11 (0 : Int) (bottles_0 - (1 : Int)))) ∧ ((!((((dT dA) x_10).map fun x_11 : PyData => (is_number x_11 (0 : Int) (bottles_0 - (1 : Int)))).all id)) = false → (is_ascending_ok x_10))) ∧
  (((!((((dT dA) x_10).map fun x_11 : PyData => (is_number x_11 (0 : Int) (bottles_0 - (1 : Int)))).all id)) || (!(is_ascending x_10))) = true → True) ∧
  (((!((((dT dA) x_10).map fun x_11 : PyData => (is_number x_11 (0 : Int) (bottles_0 - (1 : Int)))).all id)) || (!(is_ascending x_10))) = false → True)
def is_plan (bottles_0 : Int) (thing_0 : PyData) : Bool :=
  if ((!(is_row thing_0 (0 : Int) C_MOST)) || (!((((dT dA) thing_0).map fun x_1 : PyData => (isTup x_1)).all id))) = true then
  false
  else
  orR (forR (is_plan_s_19 bottles_0) () ((dT dA) thing_0)) fun l_24 : Unit =>
  true
def is_plan_ok (bottles_0 : Int) (thing_0 : PyData) : Prop :=
  ((is_row_ok thing_0 (0 : Int) C_MOST) ∧ ((!(is_row thing_0 (0 : Int) C_MOST)) = false → ((eT eD) ((dT dA) thing_0) = thing_0) ∧ (∀ x_1 : PyData, x_1 ∈ ((dT dA) thing_0) → (noDc x_1 = true)))) ∧
  (((!(is_row thing_0 (0 : Int) C_MOST)) || (!((((dT dA) thing_0).map fun x_1 : PyData => (isTup x_1)).all id))) = true → True) ∧
  (((!(is_row thing_0 (0 : Int) C_MOST)) || (!((((dT dA) thing_0).map fun x_1 : PyData => (isTup x_1)).all id))) = false → (((eT eD) ((dT dA) thing_0) = thing_0)) ∧
  (∀ (i_22 : Nat) (x_10 : PyData) (l_9 : Unit), ((dT dA) thing_0)[i_22]? = some x_10 → forR (is_plan_s_19 bottles_0) () (((dT dA) thing_0).take i_22) = .inl l_9 → is_plan_s_19_ok bottles_0 l_9 x_10) ∧
  (∀ l_24 : Unit, forR (is_plan_s_19 bottles_0) () ((dT dA) thing_0) = .inl l_24 → True))
abbrev N_is_plan : List Str := ["bottles", "thing", "part", "bottle"]
theorem sc_is_plan : FnScope N_is_plan ["bottles", "thing"] (defScope (topS 18)) := ⟨rfl, rfl, rfl, by decide +kernel, rfl, by decide +kernel, by decide +kernel⟩
theorem ok_is_plan (X : Txt K mg) : FnOk P w K mg base CX0 3 X.f_is_plan X.d_is_plan ["bottles", "thing"] (SpD K (fun a : Int × PyData => is_plan_ok a.1 a.2) (fun a => [PyData.int a.1, eD a.2]) (fun a => PyData.bool (is_plan a.1 a.2))) := by
  refine fn_ok (A := Int × PyData) (args := fun a => [PyData.int a.1, eD a.2]) X.o_is_plan.F sc_is_plan PyData.bool (fun a => is_plan a.1 a.2) (fun _ => rfl) (by decide) ?_
  rintro ⟨bottles_0, thing_0⟩ hok hlen
  have nd : (tc P w K mg base N_is_plan (topS 18) 2).N.Nodup := sc_is_plan.nd
  show JB (tc P w K mg base N_is_plan (topS 18) 2) PyData.bool (fun _ => uE N_is_plan) _ [.d (PyData.int bottles_0), .d (eD thing_0), .u, .u] (is_plan bottles_0 thing_0)
  have hok : is_plan_ok bottles_0 thing_0 := hok
  unfold is_plan_ok at hok
  unfold is_plan
  obtain ⟨hs_5, hok⟩ := hok
  refine jb_ifr (jt_w (jw_or (jt_not (jt_v (je_call' (d := PyData.bool (is_row thing_0 (0 : Int) C_MOST)) (ok_is_row X) (thing_0, (0 : Int), C_MOST) X.o_is_row.m X.o_is_row.F.kp X.o_is_row.b (ja_cons (je_var 1) (ja_cons je_int (ja_cons (je_globd rfl X.v_MOST) ja_nil))) hs_5.1))) (fun hc_4 => (jw_or1 (jt_not (jt_v (je_all rfl X.m_all (je_fb (je_lc0 (enc := eD) (dec := PyData.bool) [("part", 2)] (fun x_1 : PyData => (isTup x_1)) (ji_tup (je_dec (je_var 1) (hs_5.2 hc_4).1)) (by exact nd) rfl (unk_of rfl) (fun x_1 hx_2 => lcp (js := [2]) (E1 := [.d (PyData.int bottles_0), .d (eD thing_0), .d (eD x_1), .u]) (by simp) (jg_name 2 (by exact nd)) jts_nil (by walk_at "le") fun hc_3 => (je_isi rfl X.m_isinstance rfl X.m_tuple b_tuple (je_var 2) (kitTup ((hs_5.2 hc_4).2 x_1 hx_2)) ((hs_5.2 hc_4).2 x_1 hx_2)))))))))))) (fun hc_6 => ?_) (fun hc_6 => ?_)
  · have hok := hok.1 hc_6
    have hs_7 := hok
    exact jb_ret je_bl (by walk_at "le")
  · have hok := hok.2 hc_6
    obtain ⟨hs_8, hok⟩ := hok
    obtain ⟨hf_23, hok⟩ := hok
    refine jb_or (js_forM (enc := eD) (fun l : Unit => [.d (PyData.int bottles_0), .d (eD thing_0), .u, .u]) (is_plan_s_19 bottles_0) () (ji_tup (je_dec (je_var 1) hs_8)) (by walk_at "le") (fun i_22 x_10 l_9 hx_20 hl_21 => ?_)) (fun l_24 el_25 => ?_)
    · have hok := hf_23 i_22 x_10 l_9 hx_20 hl_21
      unfold is_plan_s_19_ok at hok
      unfold is_plan_s_19
      refine ⟨[2], [.d (PyData.int bottles_0), .d (eD thing_0), .d (eD x_10), .u], (jg_name 2 (by exact nd)), ?_⟩
      obtain ⟨hs_15, hok⟩ := hok
      refine jm_ifr (jt_w (jw_or (jt_not (jt_v (je_all rfl X.m_all (je_fb (je_lc0 (enc := eD) (dec := PyData.bool) [("bottle", 3)] (fun x_11 : PyData => (is_number x_11 (0 : Int) (bottles_0 - (1 : Int)))) (ji_tup (je_dec (je_var 2) hs_15.1)) (by exact nd) rfl (unk_of rfl) (fun x_11 hx_12 => lcp (js := [3]) (E1 := [.d (PyData.int bottles_0), .d (eD thing_0), .d (eD x_10), .d (eD x_11)]) (by simp) (jg_name 3 (by exact nd)) jts_nil (by walk_at "le") fun hc_13 => (je_call' (d := PyData.bool (is_number x_11 (0 : Int) (bottles_0 - (1 : Int)))) (ok_is_number X) (x_11, (0 : Int), (bottles_0 - (1 : Int))) X.o_is_number.m X.o_is_number.F.kp X.o_is_number.b (ja_cons (je_var 3) (ja_cons je_int (ja_cons (je_sub (j2d (je_var 0) je_int)) ja_nil))) (hs_15.2.1 x_11 hx_12)))))))) (fun hc_14 => (jw_or1 (jt_not (jt_v (je_call' (d := PyData.bool (is_ascending x_10)) (ok_is_ascending X) (x_10) X.o_is_ascending.m X.o_is_ascending.F.kp X.o_is_ascending.b (ja_cons (je_var 2) ja_nil) (hs_15.2.2 hc_14)))))))) (fun hc_16 => ?_) (fun hc_16 => ?_)
      · have hok := hok.1 hc_16
        have hs_17 := hok
        exact jb_ret je_bl (by walk_at "le")
      · have hok := hok.2 hc_16
        exact jm_nil (by walk_at "le")
    · have hok := hok l_24 el_25
      have hs_26 := hok
      exact jb_ret je_bl (by walk_at "le")

def choose_s_13 (many_0 : Int) (l_8 : Int) (x_9 : Int) : Int :=
  Let ((Int.fdiv (l_8 * (many_0 - x_9)) (x_9 + (1 : Int))) : Int) fun found_11 =>
  found_11
def choose_s_13_ok (many_0 : Int) (l_8 : Int) (x_9 : Int) : Prop :=
  ((CMul l_8 (many_0 - x_9)) ∧ (CDivN (l_8 * (many_0 - x_9)) (x_9 + (1 : Int)))) ∧
  Let ((Int.fdiv (l_8 * (many_0 - x_9)) (x_9 + (1 : Int))) : Int) fun found_11 =>
  True
def choose (many_0 : Int) (some_0 : Int) : Int :=
  if ((decide (some_0 < (0 : Int))) || (decide (many_0 < some_0))) = true then
  (0 : Int)
  else
  Let ((1 : Int) : Int) fun found_6 =>
  Let ((rgI 0 some_0).foldl (choose_s_13 many_0) found_6 : Int) fun l_18 =>
  l_18
def choose_ok (many_0 : Int) (some_0 : Int) : Prop :=
  (((decide (some_0 < (0 : Int))) || (decide (many_0 < some_0))) = true → True) ∧
  (((decide (some_0 < (0 : Int))) || (decide (many_0 < some_0))) = false → Let ((1 : Int) : Int) fun found_6 =>
  ((rg1 some_0)) ∧
  (∀ (i_16 : Nat) (x_9 : Int) (l_8 : Int), (rgI 0 some_0)[i_16]? = some x_9 → l_8 = ((rgI 0 some_0).take i_16).foldl (choose_s_13 many_0) found_6 → choose_s_13_ok many_0 l_8 x_9) ∧
  Let ((rgI 0 some_0).foldl (choose_s_13 many_0) found_6 : Int) fun l_18 =>
  True)
abbrev N_choose : List Str := ["many", "some", "found", "number"]
theorem sc_choose : FnScope N_choose ["many", "some"] (defScope (topS 5)) := ⟨rfl, rfl, rfl, by decide +kernel, rfl, by decide +kernel, by decide +kernel⟩
theorem ok_choose (X : Txt K mg) : FnOk P w K mg base CX0 1 X.f_choose X.d_choose ["many", "some"] (SpD K (fun a : Int × Int => choose_ok a.1 a.2) (fun a => [PyData.int a.1, PyData.int a.2]) (fun a => PyData.int (choose a.1 a.2))) := by
  refine fn_ok (A := Int × Int) (args := fun a => [PyData.int a.1, PyData.int a.2]) X.o_choose.F sc_choose PyData.int (fun a => choose a.1 a.2) (fun _ => rfl) (by decide) ?_
  rintro ⟨many_0, some_0⟩ hok hlen
  have nd : (tc P w K mg base N_choose (topS 5) 0).N.Nodup := sc_choose.nd
  show JB (tc P w K mg base N_choose (topS 5) 0) PyData.int (fun _ => uE N_choose) _ [.d (PyData.int many_0), .d (PyData.int some_0), .u, .u] (choose many_0 some_0)
  have hok : choose_ok many_0 some_0 := hok
  unfold choose_ok at hok
  unfold choose
  refine jb_ifr (jt_w (jw_or (jt_c (cj_lt (j2d (je_var 1) je_int))) (fun hc_1 => (jw_or1 (jt_c (cj_gt (j2d (je_var 1) (je_var 0)))))))) (fun hc_3 => ?_) (fun hc_3 => ?_)
  · have hok := hok.1 hc_3
    have hs_4 := hok
    exact jb_ret je_int (by walk_at "le")
  · have hok := hok.2 hc_3
    refine jb_cons (js_set 2 nd je_int) ?_
    refine jb_let (F := fun found_6 : Int => [.d (PyData.int many_0), .d (PyData.int some_0), .d (PyData.int found_6), .u]) (v := ((1 : Int) : Int)) fun found_6 e_found_6 => ?_
    have hok := let_ok hok found_6 e_found_6
    obtain ⟨hs_7, hok⟩ := hok
    obtain ⟨hf_17, hok⟩ := hok
    refine jb_cons (js_forN (enc := PyData.int) (fun l : Int => [.d (PyData.int many_0), .d (PyData.int some_0), .d (PyData.int l), .u]) (choose_s_13 many_0) found_6 (ji_range1 rfl X.m_range (je_var 1) hs_7) (by walk_at "le") (fun i_16 x_9 l_8 hx_14 hl_15 => ?_)) ?_
    · have hok := hf_17 i_16 x_9 l_8 hx_14 hl_15
      unfold choose_s_13_ok at hok
      unfold choose_s_13
      refine ⟨[3], [.d (PyData.int many_0), .d (PyData.int some_0), .d (PyData.int l_8), .d (PyData.int x_9)], (jg_name 3 (by exact nd)), ?_⟩
      obtain ⟨hs_10, hok⟩ := hok
      refine jn_cons (js_set 2 nd (je_fdiv (j2d (je_mul (j2d (je_var 2) (je_sub (j2d (je_var 0) (je_var 3)))) hs_10.1) (je_add (j2d (je_var 3) je_int))) hs_10.2)) ?_
      refine jn_let (F := fun found_11 : Int => [.d (PyData.int many_0), .d (PyData.int some_0), .d (PyData.int found_11), .d (PyData.int x_9)]) (v := ((Int.fdiv (l_8 * (many_0 - x_9)) (x_9 + (1 : Int))) : Int)) fun found_11 e_found_11 => ?_
      have hok := let_ok hok found_11 e_found_11
      exact jn_nil (by walk_at "le")
    refine jb_let (F := fun l : Int => [.d (PyData.int many_0), .d (PyData.int some_0), .d (PyData.int l), .u]) fun l_18 e_l_18 => ?_
    have hok := let_ok hok l_18 e_l_18
    have hs_19 := hok
    exact jb_ret (je_var 2) (by walk_at "le")

def none_lucky_s_11 (l_5 : (Int × Int)) (x_6 : Int) : (Int × Int) :=
  Let (l_5.2 : Int) fun before_8 =>
  Let (((x_6 - (1 : Int)) * (l_5.2 + l_5.1)) : Int) fun now_9 =>
  (before_8, now_9)
def none_lucky_s_11_ok (l_5 : (Int × Int)) (x_6 : Int) : Prop :=
  ((CMul (x_6 - (1 : Int)) (l_5.2 + l_5.1))) ∧
  Let (l_5.2 : Int) fun before_8 =>
  Let (((x_6 - (1 : Int)) * (l_5.2 + l_5.1)) : Int) fun now_9 =>
  True
def none_lucky (guests_0 : Int) : Int :=
  Let ((0 : Int) : Int) fun before_2 =>
  Let ((1 : Int) : Int) fun now_3 =>
  Let ((rgI (1 : Int) (guests_0 + (1 : Int))).foldl (none_lucky_s_11) (before_2, now_3) : (Int × Int)) fun l_16 =>
  l_16.2
def none_lucky_ok (guests_0 : Int) : Prop :=
  Let ((0 : Int) : Int) fun before_2 =>
  Let ((1 : Int) : Int) fun now_3 =>
  ((rg2 (1 : Int) (guests_0 + (1 : Int)))) ∧
  (∀ (i_14 : Nat) (x_6 : Int) (l_5 : (Int × Int)), (rgI (1 : Int) (guests_0 + (1 : Int)))[i_14]? = some x_6 → l_5 = ((rgI (1 : Int) (guests_0 + (1 : Int))).take i_14).foldl (none_lucky_s_11) (before_2, now_3) → none_lucky_s_11_ok l_5 x_6) ∧
  Let ((rgI (1 : Int) (guests_0 + (1 : Int))).foldl (none_lucky_s_11) (before_2, now_3) : (Int × Int)) fun l_16 =>
  True
abbrev N_none_lucky : List Str := ["guests", "before", "now", "many"]
theorem sc_none_lucky : FnScope N_none_lucky ["guests"] (defScope (topS 4)) := ⟨rfl, rfl, rfl, by decide +kernel, rfl, by decide +kernel, by decide +kernel⟩
theorem ok_none_lucky (X : Txt K mg) : FnOk P w K mg base CX0 1 X.f_none_lucky X.d_none_lucky ["guests"] (SpD K (fun a : Int => none_lucky_ok a) (fun a => [PyData.int a]) (fun a => PyData.int (none_lucky a))) := by
  refine fn_ok (A := Int) (args := fun a => [PyData.int a]) X.o_none_lucky.F sc_none_lucky PyData.int (fun a => none_lucky a) (fun _ => rfl) (by decide) ?_
  intro guests_0 hok hlen
  have nd : (tc P w K mg base N_none_lucky (topS 4) 0).N.Nodup := sc_none_lucky.nd
  show JB (tc P w K mg base N_none_lucky (topS 4) 0) PyData.int (fun _ => uE N_none_lucky) _ [.d (PyData.int guests_0), .u, .u, .u] (none_lucky guests_0)
  have hok : none_lucky_ok guests_0 := hok
  unfold none_lucky_ok at hok
  unfold none_lucky
  refine jb_cons (js_parN [1, 2] (jns_cons 1 nd (jns_cons 2 nd jns_nil)) (jao_d je_int (jao_d je_int jao_nil)) (hw := by walk_at "hw")) ?_
  refine jb_let (F := fun before_2 : Int => [.d (PyData.int guests_0), .d (PyData.int before_2), .d (PyData.int (1 : Int)), .u]) (v := ((0 : Int) : Int)) fun before_2 e_before_2 => ?_
  have hok := let_ok hok before_2 e_before_2
  refine jb_let (F := fun now_3 : Int => [.d (PyData.int guests_0), .d (PyData.int before_2), .d (PyData.int now_3), .u]) (v := ((1 : Int) : Int)) fun now_3 e_now_3 => ?_
  have hok := let_ok hok now_3 e_now_3
  obtain ⟨hs_4, hok⟩ := hok
  obtain ⟨hf_15, hok⟩ := hok
  refine jb_cons (js_forN (enc := PyData.int) (fun l : (Int × Int) => [.d (PyData.int guests_0), .d (PyData.int l.1), .d (PyData.int l.2), .u]) (none_lucky_s_11) (before_2, now_3) (ji_range2 rfl X.m_range (ja_cons je_int (ja_cons (je_add (j2d (je_var 0) je_int)) ja_nil)) hs_4) (by walk_at "le") (fun i_14 x_6 l_5 hx_12 hl_13 => ?_)) ?_
  · have hok := hf_15 i_14 x_6 l_5 hx_12 hl_13
    unfold none_lucky_s_11_ok at hok
    unfold none_lucky_s_11
    refine ⟨[3], [.d (PyData.int guests_0), .d (PyData.int l_5.1), .d (PyData.int l_5.2), .d (PyData.int x_6)], (jg_name 3 (by exact nd)), ?_⟩
    obtain ⟨hs_7, hok⟩ := hok
    refine jn_cons (js_par2 1 2 nd rfl rfl (by decide) rfl rfl (jao_d (je_var 2) (jao_d (je_mul (j2d (je_sub (j2d (je_var 3) je_int)) (je_add (j2d (je_var 2) (je_var 1)))) hs_7) jao_nil)) (by walk_at "hw")) ?_
    refine jn_let (F := fun before_8 : Int => [.d (PyData.int guests_0), .d (PyData.int before_8), .d (PyData.int ((x_6 - (1 : Int)) * (l_5.2 + l_5.1))), .d (PyData.int x_6)]) (v := (l_5.2 : Int)) fun before_8 e_before_8 => ?_
    have hok := let_ok hok before_8 e_before_8
    refine jn_let (F := fun now_9 : Int => [.d (PyData.int guests_0), .d (PyData.int before_8), .d (PyData.int now_9), .d (PyData.int x_6)]) (v := (((x_6 - (1 : Int)) * (l_5.2 + l_5.1)) : Int)) fun now_9 e_now_9 => ?_
    have hok := let_ok hok now_9 e_now_9
    exact jn_nil (by walk_at "le")
  refine jb_let (F := fun l : (Int × Int) => [.d (PyData.int guests_0), .d (PyData.int l.1), .d (PyData.int l.2), .u]) fun l_16 e_l_16 => ?_
  have hok := let_ok hok l_16 e_l_16
  have hs_17 := hok
  exact jb_ret (je_var 2) (by walk_at "le")

def count_lucky (guests_0 : Int) (lucky_0 : Int) : Int :=
  (if (decide (lucky_0 ≤ guests_0)) = true then ((choose guests_0 lucky_0) * (none_lucky (guests_0 - lucky_0))) else (0 : Int))
def count_lucky_ok (guests_0 : Int) (lucky_0 : Int) : Prop :=
  ((decide (lucky_0 ≤ guests_0)) = true → (choose_ok guests_0 lucky_0) ∧ (none_lucky_ok (guests_0 - lucky_0)) ∧ (CMul (choose guests_0 lucky_0) (none_lucky (guests_0 - lucky_0))))
abbrev N_count_lucky : List Str := ["guests", "lucky"]
theorem sc_count_lucky : FnScope N_count_lucky ["guests", "lucky"] (defScope (topS 6)) := ⟨rfl, rfl, rfl, by decide +kernel, rfl, by decide +kernel, by decide +kernel⟩
theorem ok_count_lucky (X : Txt K mg) : FnOk P w K mg base CX0 2 X.f_count_lucky X.d_count_lucky ["guests", "lucky"] (SpD K (fun a : Int × Int => count_lucky_ok a.1 a.2) (fun a => [PyData.int a.1, PyData.int a.2]) (fun a => PyData.int (count_lucky a.1 a.2))) := by
  refine fn_ok (A := Int × Int) (args := fun a => [PyData.int a.1, PyData.int a.2]) X.o_count_lucky.F sc_count_lucky PyData.int (fun a => count_lucky a.1 a.2) (fun _ => rfl) (by decide) ?_
  rintro ⟨guests_0, lucky_0⟩ hok hlen
  have nd : (tc P w K mg base N_count_lucky (topS 6) 1).N.Nodup := sc_count_lucky.nd
  show JB (tc P w K mg base N_count_lucky (topS 6) 1) PyData.int (fun _ => uE N_count_lucky) _ [.d (PyData.int guests_0), .d (PyData.int lucky_0)] (count_lucky guests_0 lucky_0)
  have hok : count_lucky_ok guests_0 lucky_0 := hok
  unfold count_lucky_ok at hok
  unfold count_lucky
  have hs_2 := hok
  exact jb_ret (je_ifc (u := ((choose guests_0 lucky_0) * (none_lucky (guests_0 - lucky_0)))) (w := (0 : Int)) PyData.int (jt_c (cj_le (j2d (je_var 1) (je_var 0)))) (fun hc_1 => (je_mul (j2d (je_call' (d := PyData.int (choose guests_0 lucky_0)) (ok_choose X) (guests_0, lucky_0) X.o_choose.m X.o_choose.F.kp X.o_choose.b (ja_cons (je_var 0) (ja_cons (je_var 1) ja_nil)) (hs_2 hc_1).1) (je_call' (d := PyData.int (none_lucky (guests_0 - lucky_0))) (ok_none_lucky X) ((guests_0 - lucky_0)) X.o_none_lucky.m X.o_none_lucky.F.kp X.o_none_lucky.b (ja_cons (je_sub (j2d (je_var 0) (je_var 1))) ja_nil) (hs_2 hc_1).2.1)) (hs_2 hc_1).2.2)) (fun hc_1 => je_int)) (by walk_at "le")

def ratio_t_6 (number_0 : Int) (by_0 : Int) : (Int × Int) :=
  Let ((-number_0) : Int) fun number_4 =>
  Let ((-by_0) : Int) fun by_5 =>
  (number_4, by_5)
def ratio_t_6_ok (number_0 : Int) (by_0 : Int) : Prop :=
  Let ((-number_0) : Int) fun number_4 =>
  Let ((-by_0) : Int) fun by_5 =>
  True
def ratio_e_7 (number_0 : Int) (by_0 : Int) : (Int × Int) :=
  (number_0, by_0)
def ratio_e_7_ok (number_0 : Int) (by_0 : Int) : Prop :=
  True
def ratio (number_0 : Int) (by_0 : Int) : (Int × Int) :=
  Let (if (decide (by_0 < (0 : Int))) = true then ratio_t_6 number_0 by_0 else ratio_e_7 number_0 by_0 : (Int × Int)) fun l_8 =>
  Let ((gcdI l_8.1 l_8.2) : Int) fun common_12 =>
  ((Int.fdiv l_8.1 common_12), (Int.fdiv l_8.2 common_12))
def ratio_ok (number_0 : Int) (by_0 : Int) : Prop :=
  ((decide (by_0 < (0 : Int))) = true → ratio_t_6_ok number_0 by_0) ∧
  ((decide (by_0 < (0 : Int))) = false → ratio_e_7_ok number_0 by_0) ∧
  Let (if (decide (by_0 < (0 : Int))) = true then ratio_t_6 number_0 by_0 else ratio_e_7 number_0 by_0 : (Int × Int)) fun l_8 =>
  Let ((gcdI l_8.1 l_8.2) : Int) fun common_12 =>
  (CDivN l_8.1 common_12) ∧ (CDivN l_8.2 common_12)
abbrev N_ratio : List Str := ["number", "by", "common"]
theorem sc_ratio : FnScope N_ratio ["number", "by"] (defScope (topS 2)) := ⟨rfl, rfl, rfl, by decide +kernel, rfl, by decide +kernel, by decide +kernel⟩
theorem ok_ratio (X : Txt K mg) : FnOk P w K mg base CX0 1 X.f_ratio X.d_ratio ["number", "by"] (SpD K (fun a : Int × Int => ratio_ok a.1 a.2) (fun a => [PyData.int a.1, PyData.int a.2]) (fun a => (eP2 PyData.int PyData.int) (ratio a.1 a.2))) := by
  refine fn_ok (A := Int × Int) (args := fun a => [PyData.int a.1, PyData.int a.2]) X.o_ratio.F sc_ratio (eP2 PyData.int PyData.int) (fun a => ratio a.1 a.2) (fun _ => rfl) (by decide) ?_
  rintro ⟨number_0, by_0⟩ hok hlen
  have nd : (tc P w K mg base N_ratio (topS 2) 0).N.Nodup := sc_ratio.nd
  show JB (tc P w K mg base N_ratio (topS 2) 0) (eP2 PyData.int PyData.int) (fun _ => uE N_ratio) _ [.d (PyData.int number_0), .d (PyData.int by_0), .u] (ratio number_0 by_0)
  have hok : ratio_ok number_0 by_0 := hok
  unfold ratio_ok at hok
  unfold ratio
  obtain ⟨ha_9, hb_10, hok⟩ := hok
  refine jb_cons (js_ifN (l := ratio_t_6 number_0 by_0) (l' := ratio_e_7 number_0 by_0) (E := fun l : (Int × Int) => [.d (PyData.int l.1), .d (PyData.int l.2), .u]) (jt_c (cj_lt (j2d (je_var 1) je_int))) (fun hc_2 => ?_) (fun hc_2 => ?_)) ?_
  · have hok := ha_9 hc_2
    unfold ratio_t_6_ok at hok
    unfold ratio_t_6
    refine jn_cons (js_par2 0 1 nd rfl rfl (by decide) rfl rfl (jao_d (je_neg (je_var 0)) (jao_d (je_neg (je_var 1)) jao_nil)) (by walk_at "hw")) ?_
    refine jn_let (F := fun number_4 : Int => [.d (PyData.int number_4), .d (PyData.int (-by_0)), .u]) (v := ((-number_0) : Int)) fun number_4 e_number_4 => ?_
    have hok := let_ok hok number_4 e_number_4
    refine jn_let (F := fun by_5 : Int => [.d (PyData.int number_4), .d (PyData.int by_5), .u]) (v := ((-by_0) : Int)) fun by_5 e_by_5 => ?_
    have hok := let_ok hok by_5 e_by_5
    exact jn_nil (by walk_at "le")
  · have hok := hb_10 hc_2
    unfold ratio_e_7_ok at hok
    unfold ratio_e_7
    exact jn_nil (by walk_at "le")
  refine jb_let (F := fun l : (Int × Int) => [.d (PyData.int l.1), .d (PyData.int l.2), .u]) fun l_8 e_l_8 => ?_
  have hok := let_ok hok l_8 e_l_8
  refine jb_cons (js_set 2 nd (je_gcd rfl X.m_gcd (ja_cons (je_var 0) (ja_cons (je_var 1) ja_nil)))) ?_
  refine jb_let (F := fun common_12 : Int => [.d (PyData.int l_8.1), .d (PyData.int l_8.2), .d (PyData.int common_12)]) (v := ((gcdI l_8.1 l_8.2) : Int)) fun common_12 e_common_12 => ?_
  have hok := let_ok hok common_12 e_common_12
  have hs_13 := hok
  exact jb_ret (je_tup (ja_cons (je_fdiv (j2d (je_var 0) (je_var 2)) hs_13.1) (ja_cons (je_fdiv (j2d (je_var 1) (je_var 2)) hs_13.2) ja_nil))) (by walk_at "le")

def chance_of_none_s_9 (l_4 : Int) (x_5 : Int) : Int :=
  Let ((l_4 * x_5) : Int) fun whole_7 =>
  whole_7
def chance_of_none_s_9_ok (l_4 : Int) (x_5 : Int) : Prop :=
  ((CMul l_4 x_5)) ∧
  Let ((l_4 * x_5) : Int) fun whole_7 =>
  True
def chance_of_none (guests_0 : Int) : (Int × Int) :=
  Let ((1 : Int) : Int) fun whole_2 =>
  Let ((rgI (1 : Int) (guests_0 + (1 : Int))).foldl (chance_of_none_s_9) whole_2 : Int) fun l_14 =>
  (ratio (none_lucky guests_0) l_14)
def chance_of_none_ok (guests_0 : Int) : Prop :=
  Let ((1 : Int) : Int) fun whole_2 =>
  ((rg2 (1 : Int) (guests_0 + (1 : Int)))) ∧
  (∀ (i_12 : Nat) (x_5 : Int) (l_4 : Int), (rgI (1 : Int) (guests_0 + (1 : Int)))[i_12]? = some x_5 → l_4 = ((rgI (1 : Int) (guests_0 + (1 : Int))).take i_12).foldl (chance_of_none_s_9) whole_2 → chance_of_none_s_9_ok l_4 x_5) ∧
  Let ((rgI (1 : Int) (guests_0 + (1 : Int))).foldl (chance_of_none_s_9) whole_2 : Int) fun l_14 =>
  (none_lucky_ok guests_0) ∧ (ratio_ok (none_lucky guests_0) l_14)
abbrev N_chance_of_none : List Str := ["guests", "whole", "many"]
theorem sc_chance_of_none : FnScope N_chance_of_none ["guests"] (defScope (topS 7)) := ⟨rfl, rfl, rfl, by decide +kernel, rfl, by decide +kernel, by decide +kernel⟩
theorem ok_chance_of_none (X : Txt K mg) : FnOk P w K mg base CX0 2 X.f_chance_of_none X.d_chance_of_none ["guests"] (SpD K (fun a : Int => chance_of_none_ok a) (fun a => [PyData.int a]) (fun a => (eP2 PyData.int PyData.int) (chance_of_none a))) := by
  refine fn_ok (A := Int) (args := fun a => [PyData.int a]) X.o_chance_of_none.F sc_chance_of_none (eP2 PyData.int PyData.int) (fun a => chance_of_none a) (fun _ => rfl) (by decide) ?_
  intro guests_0 hok hlen
  have nd : (tc P w K mg base N_chance_of_none (topS 7) 1).N.Nodup := sc_chance_of_none.nd
  show JB (tc P w K mg base N_chance_of_none (topS 7) 1) (eP2 PyData.int PyData.int) (fun _ => uE N_chance_of_none) _ [.d (PyData.int guests_0), .u, .u] (chance_of_none guests_0)
  have hok : chance_of_none_ok guests_0 := hok
  unfold chance_of_none_ok at hok
  unfold chance_of_none
  refine jb_cons (js_set 1 nd je_int) ?_
  refine jb_let (F := fun whole_2 : Int => [.d (PyData.int guests_0), .d (PyData.int whole_2), .u]) (v := ((1 : Int) : Int)) fun whole_2 e_whole_2 => ?_
  have hok := let_ok hok whole_2 e_whole_2
  obtain ⟨hs_3, hok⟩ := hok
  obtain ⟨hf_13, hok⟩ := hok
  refine jb_cons (js_forN (enc := PyData.int) (fun l : Int => [.d (PyData.int guests_0), .d (PyData.int l), .u]) (chance_of_none_s_9) whole_2 (ji_range2 rfl X.m_range (ja_cons je_int (ja_cons (je_add (j2d (je_var 0) je_int)) ja_nil)) hs_3) (by walk_at "le") (fun i_12 x_5 l_4 hx_10 hl_11 => ?_)) ?_
  · have hok := hf_13 i_12 x_5 l_4 hx_10 hl_11
    unfold chance_of_none_s_9_ok at hok
    unfold chance_of_none_s_9
    refine ⟨[2], [.d (PyData.int guests_0), .d (PyData.int l_4), .d (PyData.int x_5)], (jg_name 2 (by exact nd)), ?_⟩
    obtain ⟨hs_6, hok⟩ := hok
    refine jn_cons (js_set 1 nd (je_mul (j2d (je_var 1) (je_var 2)) hs_6)) ?_
    refine jn_let (F := fun whole_7 : Int => [.d (PyData.int guests_0), .d (PyData.int whole_7), .d (PyData.int x_5)]) (v := ((l_4 * x_5) : Int)) fun whole_7 e_whole_7 => ?_
    have hok := let_ok hok whole_7 e_whole_7
    exact jn_nil (by walk_at "le")
  refine jb_let (F := fun l : Int => [.d (PyData.int guests_0), .d (PyData.int l), .u]) fun l_14 e_l_14 => ?_
  have hok := let_ok hok l_14 e_l_14
  have hs_15 := hok
  exact jb_ret (je_call' (d := (eP2 PyData.int PyData.int) (ratio (none_lucky guests_0) l_14)) (ok_ratio X) ((none_lucky guests_0), l_14) X.o_ratio.m X.o_ratio.F.kp X.o_ratio.b (ja_cons (je_call' (d := PyData.int (none_lucky guests_0)) (ok_none_lucky X) (guests_0) X.o_none_lucky.m X.o_none_lucky.F.kp X.o_none_lucky.b (ja_cons (je_var 0) ja_nil) hs_15.1) (ja_cons (je_var 1) ja_nil)) hs_15.2) (by walk_at "le")

def law_low_t_6 (number_0 : Int) (by_0 : Int) : (Int × Int) :=
  Let (((0 : Int) - number_0) : Int) fun number_4 =>
  Let (((0 : Int) - by_0) : Int) fun by_5 =>
  (number_4, by_5)
def law_low_t_6_ok (number_0 : Int) (by_0 : Int) : Prop :=
  Let (((0 : Int) - number_0) : Int) fun number_4 =>
  Let (((0 : Int) - by_0) : Int) fun by_5 =>
  True
def law_low_e_7 (number_0 : Int) (by_0 : Int) : (Int × Int) :=
  (number_0, by_0)
def law_low_e_7_ok (number_0 : Int) (by_0 : Int) : Prop :=
  True
def law_low_c_15 (l_14 : (Int × Int)) : Bool :=
  (decide ((0 : Int) < l_14.2))
def law_low_c_15_ok (l_14 : (Int × Int)) : Prop :=
  True
def law_low_s_19 (l_14 : (Int × Int)) : (Int × Int) :=
  Let (l_14.2 : Int) fun one_17 =>
  Let ((Int.fmod l_14.1 l_14.2) : Int) fun two_18 =>
  (one_17, two_18)
def law_low_s_19_ok (l_14 : (Int × Int)) : Prop :=
  ((l_14.2 ≠ 0)) ∧
  Let (l_14.2 : Int) fun one_17 =>
  Let ((Int.fmod l_14.1 l_14.2) : Int) fun two_18 =>
  True
def law_low (number_0 : Int) (by_0 : Int) : (Int × Int) :=
  Let (if (decide (by_0 < (0 : Int))) = true then law_low_t_6 number_0 by_0 else law_low_e_7 number_0 by_0 : (Int × Int)) fun l_8 =>
  Let ((iabs l_8.1) : Int) fun one_12 =>
  Let (l_8.2 : Int) fun two_13 =>
  Let (whileL (law_low_c_15) (law_low_s_19) J.fuel (one_12, two_13) : (Int × Int)) fun l_26 =>
  ((Int.fdiv l_8.1 l_26.1), (Int.fdiv l_8.2 l_26.1))
def law_low_ok (number_0 : Int) (by_0 : Int) : Prop :=
  ((decide (by_0 < (0 : Int))) = true → law_low_t_6_ok number_0 by_0) ∧
  ((decide (by_0 < (0 : Int))) = false → law_low_e_7_ok number_0 by_0) ∧
  Let (if (decide (by_0 < (0 : Int))) = true then law_low_t_6 number_0 by_0 else law_low_e_7 number_0 by_0 : (Int × Int)) fun l_8 =>
  Let ((iabs l_8.1) : Int) fun one_12 =>
  Let (l_8.2 : Int) fun two_13 =>
  whileEnds (ρ := PyData) (law_low_c_15) (fun l => .inl (law_low_s_19 l)) J.fuel (one_12, two_13) ∧
  (∀ l_14 : (Int × Int), Reach (ρ := PyData) (law_low_c_15) (fun l => .inl (law_low_s_19 l)) (one_12, two_13) l_14 → law_low_c_15_ok l_14) ∧
  (∀ l_14 : (Int × Int), Reach (ρ := PyData) (law_low_c_15) (fun l => .inl (law_low_s_19 l)) (one_12, two_13) l_14 → law_low_c_15 l_14 = true → law_low_s_19_ok l_14) ∧
  Let (whileL (law_low_c_15) (law_low_s_19) J.fuel (one_12, two_13) : (Int × Int)) fun l_26 =>
  (CDivN l_8.1 l_26.1) ∧ (CDivN l_8.2 l_26.1)
abbrev N_law_low : List Str := ["number", "by", "one", "two"]
theorem sc_law_low : FnScope N_law_low ["number", "by"] (defScope (topS 29)) := ⟨rfl, rfl, rfl, by decide +kernel, rfl, by decide +kernel, by decide +kernel⟩
theorem ok_law_low (X : Txt K mg) : FnOk P w K mg base CX0 1 X.f_law_low X.d_law_low ["number", "by"] (SpD K (fun a : Int × Int => law_low_ok a.1 a.2) (fun a => [PyData.int a.1, PyData.int a.2]) (fun a => (eP2 PyData.int PyData.int) (law_low a.1 a.2))) := by
  refine fn_ok (A := Int × Int) (args := fun a => [PyData.int a.1, PyData.int a.2]) X.o_law_low.F sc_law_low (eP2 PyData.int PyData.int) (fun a => law_low a.1 a.2) (fun _ => rfl) (by decide) ?_
  rintro ⟨number_0, by_0⟩ hok hlen
  have nd : (tc P w K mg base N_law_low (topS 29) 0).N.Nodup := sc_law_low.nd
  show JB (tc P w K mg base N_law_low (topS 29) 0) (eP2 PyData.int PyData.int) (fun _ => uE N_law_low) _ [.d (PyData.int number_0), .d (PyData.int by_0), .u, .u] (law_low number_0 by_0)
  have hok : law_low_ok number_0 by_0 := hok
  unfold law_low_ok at hok
  unfold law_low
  obtain ⟨ha_9, hb_10, hok⟩ := hok
  refine jb_cons (js_ifN (l := law_low_t_6 number_0 by_0) (l' := law_low_e_7 number_0 by_0) (E := fun l : (Int × Int) => [.d (PyData.int l.1), .d (PyData.int l.2), .u, .u]) (jt_c (cj_lt (j2d (je_var 1) je_int))) (fun hc_2 => ?_) (fun hc_2 => ?_)) ?_
  · have hok := ha_9 hc_2
    unfold law_low_t_6_ok at hok
    unfold law_low_t_6
    refine jn_cons (js_par2 0 1 nd rfl rfl (by decide) rfl rfl (jao_d (je_sub (j2d je_int (je_var 0))) (jao_d (je_sub (j2d je_int (je_var 1))) jao_nil)) (by walk_at "hw")) ?_
    refine jn_let (F := fun number_4 : Int => [.d (PyData.int number_4), .d (PyData.int ((0 : Int) - by_0)), .u, .u]) (v := (((0 : Int) - number_0) : Int)) fun number_4 e_number_4 => ?_
    have hok := let_ok hok number_4 e_number_4
    refine jn_let (F := fun by_5 : Int => [.d (PyData.int number_4), .d (PyData.int by_5), .u, .u]) (v := (((0 : Int) - by_0) : Int)) fun by_5 e_by_5 => ?_
    have hok := let_ok hok by_5 e_by_5
    exact jn_nil (by walk_at "le")
  · have hok := hb_10 hc_2
    unfold law_low_e_7_ok at hok
    unfold law_low_e_7
    exact jn_nil (by walk_at "le")
  refine jb_let (F := fun l : (Int × Int) => [.d (PyData.int l.1), .d (PyData.int l.2), .u, .u]) fun l_8 e_l_8 => ?_
  have hok := let_ok hok l_8 e_l_8
  refine jb_cons (js_par2 2 3 nd rfl rfl (by decide) rfl rfl (jao_d (je_abs rfl X.m_abs (je_var 0)) (jao_d (je_var 1) jao_nil)) (by walk_at "hw")) ?_
  refine jb_let (F := fun one_12 : Int => [.d (PyData.int l_8.1), .d (PyData.int l_8.2), .d (PyData.int one_12), .d (PyData.int l_8.2)]) (v := ((iabs l_8.1) : Int)) fun one_12 e_one_12 => ?_
  have hok := let_ok hok one_12 e_one_12
  refine jb_let (F := fun two_13 : Int => [.d (PyData.int l_8.1), .d (PyData.int l_8.2), .d (PyData.int one_12), .d (PyData.int two_13)]) (v := (l_8.2 : Int)) fun two_13 e_two_13 => ?_
  have hok := let_ok hok two_13 e_two_13
  obtain ⟨he_20, ht_21, hb_22, hok⟩ := hok
  refine jb_cons (js_whileN (fun l : (Int × Int) => [.d (PyData.int l_8.1), .d (PyData.int l_8.2), .d (PyData.int l.1), .d (PyData.int l.2)]) (law_low_c_15) (law_low_s_19) J.fuel (one_12, two_13) (by walk_at "le") he_20 (fun l_14 hr_23 => ?_) (fun l_14 hr_23 hc_24 => ?_)) ?_
  · have hs_25 := ht_21 l_14 hr_23
    unfold law_low_c_15_ok at hs_25
    unfold law_low_c_15
    exact (jt_c (cj_gt (j2d (je_var 3) je_int)))
  · have hok := hb_22 l_14 hr_23 hc_24
    unfold law_low_s_19_ok at hok
    unfold law_low_s_19
    obtain ⟨hs_16, hok⟩ := hok
    refine jn_cons (js_par2 2 3 nd rfl rfl (by decide) rfl rfl (jao_d (je_var 3) (jao_d (je_mod (j2d (je_var 2) (je_var 3)) hs_16) jao_nil)) (by walk_at "hw")) ?_
    refine jn_let (F := fun one_17 : Int => [.d (PyData.int l_8.1), .d (PyData.int l_8.2), .d (PyData.int one_17), .d (PyData.int (Int.fmod l_14.1 l_14.2))]) (v := (l_14.2 : Int)) fun one_17 e_one_17 => ?_
    have hok := let_ok hok one_17 e_one_17
    refine jn_let (F := fun two_18 : Int => [.d (PyData.int l_8.1), .d (PyData.int l_8.2), .d (PyData.int one_17), .d (PyData.int two_18)]) (v := ((Int.fmod l_14.1 l_14.2) : Int)) fun two_18 e_two_18 => ?_
    have hok := let_ok hok two_18 e_two_18
    exact jn_nil (by walk_at "le")
  refine jb_let (F := fun l : (Int × Int) => [.d (PyData.int l_8.1), .d (PyData.int l_8.2), .d (PyData.int l.1), .d (PyData.int l.2)]) fun l_26 e_l_26 => ?_
  have hok := let_ok hok l_26 e_l_26
  have hs_27 := hok
  exact jb_ret (je_tup (ja_cons (je_fdiv (j2d (je_var 0) (je_var 2)) hs_27.1) (ja_cons (je_fdiv (j2d (je_var 1) (je_var 2)) hs_27.2) ja_nil))) (by walk_at "le")

def applied_s_12 (row_0 : (List Int)) (l_4 : (List Int)) (x_5 : Int) : (List Int) :=
  Let ((l_4.map fun x_6 : Int => (gI row_0 x_6)) : (List Int)) fun now_10 =>
  now_10
def applied_s_12_ok (row_0 : (List Int)) (l_4 : (List Int)) (x_5 : Int) : Prop :=
  ((∀ x_6 : Int, x_6 ∈ l_4 → (inR row_0.length x_6))) ∧
  Let ((l_4.map fun x_6 : Int => (gI row_0 x_6)) : (List Int)) fun now_10 =>
  True
def applied (row_0 : (List Int)) (times_0 : Int) : (List Int) :=
  Let ((rgI 0 (row_0.length : Int)) : (List Int)) fun now_2 =>
  Let ((rgI 0 times_0).foldl (applied_s_12 row_0) now_2 : (List Int)) fun l_17 =>
  l_17
def applied_ok (row_0 : (List Int)) (times_0 : Int) : Prop :=
  ((rg1 (row_0.length : Int))) ∧
  Let ((rgI 0 (row_0.length : Int)) : (List Int)) fun now_2 =>
  ((rg1 times_0)) ∧
  (∀ (i_15 : Nat) (x_5 : Int) (l_4 : (List Int)), (rgI 0 times_0)[i_15]? = some x_5 → l_4 = ((rgI 0 times_0).take i_15).foldl (applied_s_12 row_0) now_2 → applied_s_12_ok row_0 l_4 x_5) ∧
  Let ((rgI 0 times_0).foldl (applied_s_12 row_0) now_2 : (List Int)) fun l_17 =>
  True
abbrev N_applied : List Str := ["row", "times", "now", "_", "hat"]
theorem sc_applied : FnScope N_applied ["row", "times"] (defScope (topS 9)) := ⟨rfl, rfl, rfl, by decide +kernel, rfl, by decide +kernel, by decide +kernel⟩
theorem ok_applied (X : Txt K mg) : FnOk P w K mg base CX0 1 X.f_applied X.d_applied ["row", "times"] (SpD K (fun a : (List Int) × Int => applied_ok a.1 a.2) (fun a => [(eT PyData.int) a.1, PyData.int a.2]) (fun a => (eT PyData.int) (applied a.1 a.2))) := by
  refine fn_ok (A := (List Int) × Int) (args := fun a => [(eT PyData.int) a.1, PyData.int a.2]) X.o_applied.F sc_applied (eT PyData.int) (fun a => applied a.1 a.2) (fun _ => rfl) (by decide) ?_
  rintro ⟨row_0, times_0⟩ hok hlen
  have nd : (tc P w K mg base N_applied (topS 9) 0).N.Nodup := sc_applied.nd
  show JB (tc P w K mg base N_applied (topS 9) 0) (eT PyData.int) (fun _ => uE N_applied) _ [.d ((eT PyData.int) row_0), .d (PyData.int times_0), .u, .u, .u] (applied row_0 times_0)
  have hok : applied_ok row_0 times_0 := hok
  unfold applied_ok at hok
  unfold applied
  obtain ⟨hs_1, hok⟩ := hok
  refine jb_cons (js_set 2 nd (je_tupRg1 rfl X.m_tuple rfl X.m_range (je_lenT' rfl X.m_len (je_b (je_var 0))) hs_1)) ?_
  refine jb_let (F := fun now_2 : (List Int) => [.d ((eT PyData.int) row_0), .d (PyData.int times_0), .d ((eT PyData.int) now_2), .u, .u]) (v := ((rgI 0 (row_0.length : Int)) : (List Int))) fun now_2 e_now_2 => ?_
  have hok := let_ok hok now_2 e_now_2
  obtain ⟨hs_3, hok⟩ := hok
  obtain ⟨hf_16, hok⟩ := hok
  refine jb_cons (js_forN (enc := PyData.int) (fun l : (List Int) => [.d ((eT PyData.int) row_0), .d (PyData.int times_0), .d ((eT PyData.int) l), .u, .u]) (applied_s_12 row_0) now_2 (ji_range1 rfl X.m_range (je_var 1) hs_3) (by walk_at "le") (fun i_15 x_5 l_4 hx_13 hl_14 => ?_)) ?_
  · have hok := hf_16 i_15 x_5 l_4 hx_13 hl_14
    unfold applied_s_12_ok at hok
    unfold applied_s_12
    refine ⟨[3], [.d ((eT PyData.int) row_0), .d (PyData.int times_0), .d ((eT PyData.int) l_4), .d (PyData.int x_5), .u], (jg_name 3 (by exact nd)), ?_⟩
    obtain ⟨hs_9, hok⟩ := hok
    refine jn_cons (js_set 2 nd (je_tupL (xs := (l_4.map fun x_6 : Int => (gI row_0 x_6)).map PyData.int) rfl X.m_tuple (je_fb (je_lc0 (enc := PyData.int) (dec := PyData.int) [("hat", 4)] (fun x_6 : Int => (gI row_0 x_6)) (ji_tup (je_var 2)) (by exact nd) rfl (unk_of rfl) (fun x_6 hx_7 => lcp (js := [4]) (E1 := [.d ((eT PyData.int) row_0), .d (PyData.int times_0), .d ((eT PyData.int) l_4), .d (PyData.int x_5), .d (PyData.int x_6)]) (by simp) (jg_name 4 (by exact nd)) jts_nil (by walk_at "le") fun hc_8 => (je_ixT' (enc := PyData.int) (j2d (je_var 0) (je_var 4)) (hs_9 x_6 hx_7))))))) ?_
    refine jn_let (F := fun now_10 : (List Int) => [.d ((eT PyData.int) row_0), .d (PyData.int times_0), .d ((eT PyData.int) now_10), .d (PyData.int x_5), .u]) (v := ((l_4.map fun x_6 : Int => (gI row_0 x_6)) : (List Int))) fun now_10 e_now_10 => ?_
    have hok := let_ok hok now_10 e_now_10
    exact jn_nil (by walk_at "le")
  refine jb_let (F := fun l : (List Int) => [.d ((eT PyData.int) row_0), .d (PyData.int times_0), .d ((eT PyData.int) l), .u, .u]) fun l_17 e_l_17 => ?_
  have hok := let_ok hok l_17 e_l_17
  have hs_18 := hok
  exact jb_ret (je_var 2) (by walk_at "le")

def least_times_c_4 (row_0 : (List Int)) (l_3 : Int) : Bool :=
  (!decide (((applied row_0 l_3) : (List Int)) = (rgI 0 (row_0.length : Int))))
def least_times_c_4_ok (row_0 : (List Int)) (l_3 : Int) : Prop :=
  (applied_ok row_0 l_3) ∧ (rg1 (row_0.length : Int))
def least_times_s_7 (l_3 : Int) : Int :=
  Let ((l_3 + (1 : Int)) : Int) fun times_6 =>
  times_6
def least_times_s_7_ok (l_3 : Int) : Prop :=
  Let ((l_3 + (1 : Int)) : Int) fun times_6 =>
  True
def least_times (row_0 : (List Int)) : Int :=
  Let ((1 : Int) : Int) fun times_2 =>
  Let (whileL (least_times_c_4 row_0) (least_times_s_7) J.fuel times_2 : Int) fun l_14 =>
  l_14
def least_times_ok (row_0 : (List Int)) : Prop :=
  Let ((1 : Int) : Int) fun times_2 =>
  whileEnds (ρ := PyData) (least_times_c_4 row_0) (fun l => .inl (least_times_s_7 l)) J.fuel times_2 ∧
  (∀ l_3 : Int, Reach (ρ := PyData) (least_times_c_4 row_0) (fun l => .inl (least_times_s_7 l)) times_2 l_3 → least_times_c_4_ok row_0 l_3) ∧
  (∀ l_3 : Int, Reach (ρ := PyData) (least_times_c_4 row_0) (fun l => .inl (least_times_s_7 l)) times_2 l_3 → least_times_c_4 row_0 l_3 = true → least_times_s_7_ok l_3) ∧
  Let (whileL (least_times_c_4 row_0) (least_times_s_7) J.fuel times_2 : Int) fun l_14 =>
  True
abbrev N_least_times : List Str := ["row", "times"]
theorem sc_least_times : FnScope N_least_times ["row"] (defScope (topS 10)) := ⟨rfl, rfl, rfl, by decide +kernel, rfl, by decide +kernel, by decide +kernel⟩
theorem ok_least_times (X : Txt K mg) : FnOk P w K mg base CX0 2 X.f_least_times X.d_least_times ["row"] (SpD K (fun a : (List Int) => least_times_ok a) (fun a => [(eT PyData.int) a]) (fun a => PyData.int (least_times a))) := by
  refine fn_ok (A := (List Int)) (args := fun a => [(eT PyData.int) a]) X.o_least_times.F sc_least_times PyData.int (fun a => least_times a) (fun _ => rfl) (by decide) ?_
  intro row_0 hok hlen
  have nd : (tc P w K mg base N_least_times (topS 10) 1).N.Nodup := sc_least_times.nd
  show JB (tc P w K mg base N_least_times (topS 10) 1) PyData.int (fun _ => uE N_least_times) _ [.d ((eT PyData.int) row_0), .u] (least_times row_0)
  have hok : least_times_ok row_0 := hok
  unfold least_times_ok at hok
  unfold least_times
  refine jb_cons (js_set 1 nd je_int) ?_
  refine jb_let (F := fun times_2 : Int => [.d ((eT PyData.int) row_0), .d (PyData.int times_2)]) (v := ((1 : Int) : Int)) fun times_2 e_times_2 => ?_
  have hok := let_ok hok times_2 e_times_2
  obtain ⟨he_8, ht_9, hb_10, hok⟩ := hok
  refine jb_cons (js_whileN (fun l : Int => [.d ((eT PyData.int) row_0), .d (PyData.int l)]) (least_times_c_4 row_0) (least_times_s_7) J.fuel times_2 (by walk_at "le") he_8 (fun l_3 hr_11 => ?_) (fun l_3 hr_11 hc_12 => ?_)) ?_
  · have hs_13 := ht_9 l_3 hr_11
    unfold least_times_c_4_ok at hs_13
    unfold least_times_c_4
    exact (jt_c (cj_neE (enc := (eT PyData.int)) (x := (applied row_0 l_3)) (y := (rgI 0 (row_0.length : Int))) (j2d (je_call' (d := (eT PyData.int) (applied row_0 l_3)) (ok_applied X) (row_0, l_3) X.o_applied.m X.o_applied.F.kp X.o_applied.b (ja_cons (je_var 0) (ja_cons (je_var 1) ja_nil)) hs_13.1) (je_tupRg1 rfl X.m_tuple rfl X.m_range (je_lenT' rfl X.m_len (je_b (je_var 0))) hs_13.2)) (sh_t sh_int) (eqe_t eqe_int)))
  · have hok := hb_10 l_3 hr_11 hc_12
    unfold least_times_s_7_ok at hok
    unfold least_times_s_7
    refine jn_cons (js_set 1 nd (je_add (j2d (je_var 1) je_int))) ?_
    refine jn_let (F := fun times_6 : Int => [.d ((eT PyData.int) row_0), .d (PyData.int times_6)]) (v := ((l_3 + (1 : Int)) : Int)) fun times_6 e_times_6 => ?_
    have hok := let_ok hok times_6 e_times_6
    exact jn_nil (by walk_at "le")
  refine jb_let (F := fun l : Int => [.d ((eT PyData.int) row_0), .d (PyData.int l)]) fun l_14 e_l_14 => ?_
  have hok := let_ok hok l_14 e_l_14
  have hs_15 := hok
  exact jb_ret (je_var 1) (by walk_at "le")

def rings_c_11 (l_10 : ((List Int) × (List Int) × Int)) : Bool :=
  (!inB l_10.2.2 l_10.1)
def rings_c_11_ok (l_10 : ((List Int) × (List Int) × Int)) : Prop :=
  True
def rings_s_18 (row_0 : (List Int)) (l_10 : ((List Int) × (List Int) × Int)) : ((List Int) × (List Int) × Int) :=
  Let ((l_10.1 ++ [l_10.2.2]) : (List Int)) fun done_13 =>
  Let ((l_10.2.1 ++ ([l_10.2.2] : (List Int))) : (List Int)) fun ring_15 =>
  Let ((gI row_0 l_10.2.2) : Int) fun guest_17 =>
  (done_13, ring_15, guest_17)
def rings_s_18_ok (row_0 : (List Int)) (l_10 : ((List Int) × (List Int) × Int)) : Prop :=
  ((l_10.1.length < LN)) ∧
  Let ((l_10.1 ++ [l_10.2.2]) : (List Int)) fun done_13 =>
  ((l_10.2.1.length + ([l_10.2.2] : (List Int)).length ≤ LN)) ∧
  Let ((l_10.2.1 ++ ([l_10.2.2] : (List Int))) : (List Int)) fun ring_15 =>
  ((inR row_0.length l_10.2.2)) ∧
  Let ((gI row_0 l_10.2.2) : Int) fun guest_17 =>
  True
def rings_t_30 (l_6 : ((List Int) × (List (List Int)))) (l_25 : ((List Int) × (List Int) × Int)) : (List (List Int)) :=
  Let ((l_6.2 ++ [l_25.2.1]) : (List (List Int))) fun found_29 =>
  found_29
def rings_t_30_ok (l_6 : ((List Int) × (List (List Int)))) (l_25 : ((List Int) × (List Int) × Int)) : Prop :=
  ((l_6.2.length < LN)) ∧
  Let ((l_6.2 ++ [l_25.2.1]) : (List (List Int))) fun found_29 =>
  True
def rings_e_31 (l_6 : ((List Int) × (List (List Int)))) : (List (List Int)) :=
  l_6.2
def rings_e_31_ok (l_6 : ((List Int) × (List (List Int)))) : Prop :=
  True
def rings_s_36 (row_0 : (List Int)) (l_6 : ((List Int) × (List (List Int)))) (x_7 : Int) : ((List Int) × (List (List Int))) :=
  Let (([] : (List Int)) : (List Int)) fun ring_9 =>
  Let (whileL (rings_c_11) (rings_s_18 row_0) J.fuel (l_6.1, ring_9, x_7) : ((List Int) × (List Int) × Int)) fun l_25 =>
  Let (if (!l_25.2.1.isEmpty) = true then rings_t_30 l_6 l_25 else rings_e_31 l_6 : (List (List Int))) fun l_32 =>
  (l_25.1, l_32)
def rings_s_36_ok (row_0 : (List Int)) (l_6 : ((List Int) × (List (List Int)))) (x_7 : Int) : Prop :=
  Let (([] : (List Int)) : (List Int)) fun ring_9 =>
  whileEnds (ρ := PyData) (rings_c_11) (fun l => .inl (rings_s_18 row_0 l)) J.fuel (l_6.1, ring_9, x_7) ∧
  (∀ l_10 : ((List Int) × (List Int) × Int), Reach (ρ := PyData) (rings_c_11) (fun l => .inl (rings_s_18 row_0 l)) (l_6.1, ring_9, x_7) l_10 → rings_c_11_ok l_10) ∧
  (∀ l_10 : ((List Int) × (List Int) × Int), Reach (ρ := PyData) (rings_c_11) (fun l => .inl (rings_s_18 row_0 l)) (l_6.1, ring_9, x_7) l_10 → rings_c_11 l_10 = true → rings_s_18_ok row_0 l_10) ∧
  Let (whileL (rings_c_11) (rings_s_18 row_0) J.fuel (l_6.1, ring_9, x_7) : ((List Int) × (List Int) × Int)) fun l_25 =>
  ((!l_25.2.1.isEmpty) = true → rings_t_30_ok l_6 l_25) ∧
  ((!l_25.2.1.isEmpty) = false → rings_e_31_ok l_6) ∧
  Let (if (!l_25.2.1.isEmpty) = true then rings_t_30 l_6 l_25 else rings_e_31 l_6 : (List (List Int))) fun l_32 =>
  True
def rings (row_0 : (List Int)) : (List (List Int)) :=
  Let (([] : (List (List Int))) : (List (List Int))) fun found_2 =>
  Let (([] : (List Int)) : (List Int)) fun done_4 =>
  Let ((rgI 0 (row_0.length : Int)).foldl (rings_s_36 row_0) (done_4, found_2) : ((List Int) × (List (List Int)))) fun l_41 =>
  l_41.2
def rings_ok (row_0 : (List Int)) : Prop :=
  Let (([] : (List (List Int))) : (List (List Int))) fun found_2 =>
  Let (([] : (List Int)) : (List Int)) fun done_4 =>
  ((rg1 (row_0.length : Int))) ∧
  (∀ (i_39 : Nat) (x_7 : Int) (l_6 : ((List Int) × (List (List Int)))), (rgI 0 (row_0.length : Int))[i_39]? = some x_7 → l_6 = ((rgI 0 (row_0.length : Int)).take i_39).foldl (rings_s_36 row_0) (done_4, found_2) → rings_s_36_ok row_0 l_6 x_7) ∧
  Let ((rgI 0 (row_0.length : Int)).foldl (rings_s_36 row_0) (done_4, found_2) : ((List Int) × (List (List Int)))) fun l_41 =>
  True
abbrev N_rings : List Str := ["row", "found", "done", "guest", "ring"]
theorem sc_rings : FnScope N_rings ["row"] (defScope (topS 8)) := ⟨rfl, rfl, rfl, by decide +kernel, rfl, by decide +kernel, by decide +kernel⟩
theorem ok_rings (X : Txt K mg) : FnOk P w K mg base CX0 1 X.f_rings X.d_rings ["row"] (SpD K (fun a : (List Int) => rings_ok a) (fun a => [(eT PyData.int) a]) (fun a => (eT (eT PyData.int)) (rings a))) := by
  refine fn_ok (A := (List Int)) (args := fun a => [(eT PyData.int) a]) X.o_rings.F sc_rings (eT (eT PyData.int)) (fun a => rings a) (fun _ => rfl) (by decide) ?_
  intro row_0 hok hlen
  have nd : (tc P w K mg base N_rings (topS 8) 0).N.Nodup := sc_rings.nd
  show JB (tc P w K mg base N_rings (topS 8) 0) (eT (eT PyData.int)) (fun _ => uE N_rings) _ [.d ((eT PyData.int) row_0), .u, .u, .u, .u] (rings row_0)
  have hok : rings_ok row_0 := hok
  unfold rings_ok at hok
  unfold rings
  refine jb_cons (js_setO 1 nd (je_lst ja_nil)) ?_
  refine jb_let (F := fun found_2 : (List (List Int)) => [.d ((eT PyData.int) row_0), .o none ((eL (eT PyData.int)) found_2), .u, .u, .u]) (v := (([] : (List (List Int))) : (List (List Int)))) fun found_2 e_found_2 => ?_
  have hok := let_ok hok found_2 e_found_2
  refine jb_cons (js_setO 2 nd (je_lst ja_nil)) ?_
  refine jb_let (F := fun done_4 : (List Int) => [.d ((eT PyData.int) row_0), .o none ((eL (eT PyData.int)) found_2), .o none ((eL PyData.int) done_4), .u, .u]) (v := (([] : (List Int)) : (List Int))) fun done_4 e_done_4 => ?_
  have hok := let_ok hok done_4 e_done_4
  obtain ⟨hs_5, hok⟩ := hok
  obtain ⟨hf_40, hok⟩ := hok
  refine jb_cons (js_forN (enc := PyData.int) (fun l : ((List Int) × (List (List Int))) => [.d ((eT PyData.int) row_0), .o none ((eL (eT PyData.int)) l.2), .o none ((eL PyData.int) l.1), .u, .u]) (rings_s_36 row_0) (done_4, found_2) (ji_range1 rfl X.m_range (je_lenT' rfl X.m_len (je_b (je_var 0))) hs_5) (by walk_at "le") (fun i_39 x_7 l_6 hx_37 hl_38 => ?_)) ?_
  · have hok := hf_40 i_39 x_7 l_6 hx_37 hl_38
    unfold rings_s_36_ok at hok
    unfold rings_s_36
    refine ⟨[3], [.d ((eT PyData.int) row_0), .o none ((eL (eT PyData.int)) l_6.2), .o none ((eL PyData.int) l_6.1), .d (PyData.int x_7), .u], (jg_name 3 (by exact nd)), ?_⟩
    refine jn_cons (js_set 4 nd (je_tup ja_nil)) ?_
    refine jn_let (F := fun ring_9 : (List Int) => [.d ((eT PyData.int) row_0), .o none ((eL (eT PyData.int)) l_6.2), .o none ((eL PyData.int) l_6.1), .d (PyData.int x_7), .d ((eT PyData.int) ring_9)]) (v := (([] : (List Int)) : (List Int))) fun ring_9 e_ring_9 => ?_
    have hok := let_ok hok ring_9 e_ring_9
    obtain ⟨he_19, ht_20, hb_21, hok⟩ := hok
    refine jn_cons (js_whileN (fun l : ((List Int) × (List Int) × Int) => [.d ((eT PyData.int) row_0), .o none ((eL (eT PyData.int)) l_6.2), .o none ((eL PyData.int) l.1), .d (PyData.int l.2.2), .d ((eT PyData.int) l.2.1)]) (rings_c_11) (rings_s_18 row_0) J.fuel (l_6.1, ring_9, x_7) (by walk_at "le") he_19 (fun l_10 hr_22 => ?_) (fun l_10 hr_22 hc_23 => ?_)) ?_
    · have hs_24 := ht_20 l_10 hr_22
      unfold rings_c_11_ok at hs_24
      unfold rings_c_11
      exact (jt_c (cj_notInLB (enc := PyData.int) (x := l_10.2.2) (ys := l_10.1) (j2 (je_var 3) (je_varB 2)) sh_int sh_int eqe_int))
    · have hok := hb_21 l_10 hr_22 hc_23
      unfold rings_s_18_ok at hok
      unfold rings_s_18
      obtain ⟨hs_12, hok⟩ := hok
      refine jn_cons (js_expr (je_append' (enc := PyData.int) (xs := l_10.1) (x := l_10.2.2) 2 (je_var 3) hs_12)) ?_
      refine jn_let (F := fun done_13 : (List Int) => [.d ((eT PyData.int) row_0), .o none ((eL (eT PyData.int)) l_6.2), .o none ((eL PyData.int) done_13), .d (PyData.int l_10.2.2), .d ((eT PyData.int) l_10.2.1)]) (v := ((l_10.1 ++ [l_10.2.2]) : (List Int))) fun done_13 e_done_13 => ?_
      have hok := let_ok hok done_13 e_done_13
      obtain ⟨hs_14, hok⟩ := hok
      refine jn_cons (js_set 4 nd (je_catT' (enc := PyData.int) (j2d (je_var 4) (je_tup (ja_cons (je_var 3) ja_nil))) hs_14)) ?_
      refine jn_let (F := fun ring_15 : (List Int) => [.d ((eT PyData.int) row_0), .o none ((eL (eT PyData.int)) l_6.2), .o none ((eL PyData.int) done_13), .d (PyData.int l_10.2.2), .d ((eT PyData.int) ring_15)]) (v := ((l_10.2.1 ++ ([l_10.2.2] : (List Int))) : (List Int))) fun ring_15 e_ring_15 => ?_
      have hok := let_ok hok ring_15 e_ring_15
      obtain ⟨hs_16, hok⟩ := hok
      refine jn_cons (js_set 3 nd (je_ixT' (enc := PyData.int) (j2d (je_var 0) (je_var 3)) hs_16)) ?_
      refine jn_let (F := fun guest_17 : Int => [.d ((eT PyData.int) row_0), .o none ((eL (eT PyData.int)) l_6.2), .o none ((eL PyData.int) done_13), .d (PyData.int guest_17), .d ((eT PyData.int) ring_15)]) (v := ((gI row_0 l_10.2.2) : Int)) fun guest_17 e_guest_17 => ?_
      have hok := let_ok hok guest_17 e_guest_17
      exact jn_nil (by walk_at "le")
    refine jn_let (F := fun l : ((List Int) × (List Int) × Int) => [.d ((eT PyData.int) row_0), .o none ((eL (eT PyData.int)) l_6.2), .o none ((eL PyData.int) l.1), .d (PyData.int l.2.2), .d ((eT PyData.int) l.2.1)]) fun l_25 e_l_25 => ?_
    have hok := let_ok hok l_25 e_l_25
    obtain ⟨ha_33, hb_34, hok⟩ := hok
    refine jn_cons (js_ifN (l := rings_t_30 l_6 l_25) (l' := rings_e_31 l_6) (E := fun l : (List (List Int)) => [.d ((eT PyData.int) row_0), .o none ((eL (eT PyData.int)) l), .o none ((eL PyData.int) l_25.1), .d (PyData.int l_25.2.2), .d ((eT PyData.int) l_25.2.1)]) (jt_tT (je_b (je_var 4))) (fun hc_27 => ?_) (fun hc_27 => ?_)) ?_
    · have hok := ha_33 hc_27
      unfold rings_t_30_ok at hok
      unfold rings_t_30
      obtain ⟨hs_28, hok⟩ := hok
      refine jn_cons (js_expr (je_append' (enc := (eT PyData.int)) (xs := l_6.2) (x := l_25.2.1) 1 (je_var 4) hs_28)) ?_
      refine jn_let (F := fun found_29 : (List (List Int)) => [.d ((eT PyData.int) row_0), .o none ((eL (eT PyData.int)) found_29), .o none ((eL PyData.int) l_25.1), .d (PyData.int l_25.2.2), .d ((eT PyData.int) l_25.2.1)]) (v := ((l_6.2 ++ [l_25.2.1]) : (List (List Int)))) fun found_29 e_found_29 => ?_
      have hok := let_ok hok found_29 e_found_29
      exact jn_nil (by walk_at "le")
    · have hok := hb_34 hc_27
      unfold rings_e_31_ok at hok
      unfold rings_e_31
      exact jn_nil (by walk_at "le")
    refine jn_let (F := fun l : (List (List Int)) => [.d ((eT PyData.int) row_0), .o none ((eL (eT PyData.int)) l), .o none ((eL PyData.int) l_25.1), .d (PyData.int l_25.2.2), .d ((eT PyData.int) l_25.2.1)]) fun l_32 e_l_32 => ?_
    have hok := let_ok hok l_32 e_l_32
    exact jn_nil (by walk_at "le")
  refine jb_let (F := fun l : ((List Int) × (List (List Int))) => [.d ((eT PyData.int) row_0), .o none ((eL (eT PyData.int)) l.2), .o none ((eL PyData.int) l.1), .u, .u]) fun l_41 e_l_41 => ?_
  have hok := let_ok hok l_41 e_l_41
  have hs_42 := hok
  exact jb_ret (je_tupL (xs := l_41.2.map (eT PyData.int)) rfl X.m_tuple (je_varB 1)) (by walk_at "le")

def law_hats_s_19 (guests_3 : Int) (l_11 : (List (List Int))) (x_12 : (List Int)) : (List (List Int)) :=
  Let ((l_11 ++ (((rgI 0 guests_3).filter fun x_13 : Int => (!inB x_13 x_12)).map fun x_13 : Int => (x_12 ++ ([x_13] : (List Int))))) : (List (List Int))) fun longer_17 =>
  longer_17
def law_hats_s_19_ok (guests_3 : Int) (l_11 : (List (List Int))) (x_12 : (List Int)) : Prop :=
  ((rg1 guests_3) ∧ (∀ x_13 : Int, x_13 ∈ (rgI 0 guests_3) → ((!inB x_13 x_12) = true → (x_12.length + ([x_13] : (List Int)).length ≤ LN))) ∧ (l_11.length + (((rgI 0 guests_3).filter fun x_13 : Int => (!inB x_13 x_12)).map fun x_13 : Int => (x_12 ++ ([x_13] : (List Int)))).length ≤ LN)) ∧
  Let ((l_11 ++ (((rgI 0 guests_3).filter fun x_13 : Int => (!inB x_13 x_12)).map fun x_13 : Int => (x_12 ++ ([x_13] : (List Int))))) : (List (List Int))) fun longer_17 =>
  True
def law_hats_s_28 (guests_3 : Int) (l_6 : (List (List Int))) (x_7 : Int) : (List (List Int)) :=
  Let (([] : (List (List Int))) : (List (List Int))) fun longer_9 =>
  Let (l_6.foldl (law_hats_s_19 guests_3) longer_9 : (List (List Int))) fun l_24 =>
  Let (l_24 : (List (List Int))) fun rows_26 =>
  rows_26
def law_hats_s_28_ok (guests_3 : Int) (l_6 : (List (List Int))) (x_7 : Int) : Prop :=
  Let (([] : (List (List Int))) : (List (List Int))) fun longer_9 =>
  (∀ (i_22 : Nat) (x_12 : (List Int)) (l_11 : (List (List Int))), l_6[i_22]? = some x_12 → l_11 = (l_6.take i_22).foldl (law_hats_s_19 guests_3) longer_9 → law_hats_s_19_ok guests_3 l_11 x_12) ∧
  Let (l_6.foldl (law_hats_s_19 guests_3) longer_9 : (List (List Int))) fun l_24 =>
  Let (l_24 : (List (List Int))) fun rows_26 =>
  True
def law_hats_s_68 (row_52 : (List Int)) (l_58 : ((List (List Int)) × (List Int))) (x_59 : Int) : ((List (List Int)) × (List Int)) :=
  Let ((l_58.1 ++ [l_58.2]) : (List (List Int))) fun told_61 =>
  Let ((l_58.2.map fun x_62 : Int => (gI row_52 x_62)) : (List Int)) fun now_66 =>
  (told_61, now_66)
def law_hats_s_68_ok (row_52 : (List Int)) (l_58 : ((List (List Int)) × (List Int))) (x_59 : Int) : Prop :=
  ((l_58.1.length < LN)) ∧
  Let ((l_58.1 ++ [l_58.2]) : (List (List Int))) fun told_61 =>
  ((∀ x_62 : Int, x_62 ∈ l_58.2 → (inR row_52.length x_62))) ∧
  Let ((l_58.2.map fun x_62 : Int => (gI row_52 x_62)) : (List Int)) fun now_66 =>
  True
def law_hats_s_97 (l_73 : ((List (List Int)) × (List Int))) (x_87 : Int) (l_91 : (List Int)) (x_92 : Int) : (List Int) :=
  Let ((l_91 ++ (if (!inB (gI (gI l_73.1 x_92) x_87) l_91) = true then ([(gI (gI l_73.1 x_92) x_87)] : (List Int)) else ([] : (List Int)))) : (List Int)) fun ring_95 =>
  ring_95
def law_hats_s_97_ok (l_73 : ((List (List Int)) × (List Int))) (x_87 : Int) (l_91 : (List Int)) (x_92 : Int) : Prop :=
  ((inR l_73.1.length x_92) ∧ (inR (gI l_73.1 x_92).length x_87) ∧ ((!inB (gI (gI l_73.1 x_92) x_87) l_91) = true → (inR l_73.1.length x_92) ∧ (inR (gI l_73.1 x_92).length x_87)) ∧ (l_91.length + (if (!inB (gI (gI l_73.1 x_92) x_87) l_91) = true then ([(gI (gI l_73.1 x_92) x_87)] : (List Int)) else ([] : (List Int))).length ≤ LN)) ∧
  Let ((l_91 ++ (if (!inB (gI (gI l_73.1 x_92) x_87) l_91) = true then ([(gI (gI l_73.1 x_92) x_87)] : (List Int)) else ([] : (List Int)))) : (List Int)) fun ring_95 =>
  True
def law_hats_s_107 (guests_3 : Int) (l_73 : ((List (List Int)) × (List Int))) (l_86 : (List (List Int))) (x_87 : Int) : (List (List Int)) :=
  Let (([] : (List Int)) : (List Int)) fun ring_89 =>
  Let ((rgI 0 guests_3).foldl (law_hats_s_97 l_73 x_87) ring_89 : (List Int)) fun l_102 =>
  Let ((l_86 ++ (if (decide ((pyMin PyData.int l_102) = x_87)) = true then ([l_102] : (List (List Int))) else ([] : (List (List Int))))) : (List (List Int))) fun found_105 =>
  found_105
def law_hats_s_107_ok (guests_3 : Int) (l_73 : ((List (List Int)) × (List Int))) (l_86 : (List (List Int))) (x_87 : Int) : Prop :=
  Let (([] : (List Int)) : (List Int)) fun ring_89 =>
  ((rg1 guests_3)) ∧
  (∀ (i_100 : Nat) (x_92 : Int) (l_91 : (List Int)), (rgI 0 guests_3)[i_100]? = some x_92 → l_91 = ((rgI 0 guests_3).take i_100).foldl (law_hats_s_97 l_73 x_87) ring_89 → law_hats_s_97_ok l_73 x_87 l_91 x_92) ∧
  Let ((rgI 0 guests_3).foldl (law_hats_s_97 l_73 x_87) ring_89 : (List Int)) fun l_102 =>
  ((l_102 ≠ []) ∧ (l_86.length + (if (decide ((pyMin PyData.int l_102) = x_87)) = true then ([l_102] : (List (List Int))) else ([] : (List (List Int)))).length ≤ LN)) ∧
  Let ((l_86 ++ (if (decide ((pyMin PyData.int l_102) = x_87)) = true then ([l_102] : (List (List Int))) else ([] : (List (List Int))))) : (List (List Int))) fun found_105 =>
  True
def law_hats (draw : Dr) : (Bool × Dr) :=
  Let (nxt draw (5 : Int)) fun q_1 : (Int × Dr) =>
  Let (q_1.1 : Int) fun guests_3 =>
  Let (([([] : (List Int))] : (List (List Int))) : (List (List Int))) fun rows_4 =>
  Let ((rgI 0 guests_3).foldl (law_hats_s_28 guests_3) rows_4 : (List (List Int))) fun l_33 =>
  Let ((l_33.map fun x_34 : (List Int) => ((((rgI 0 guests_3).filter fun x_35 : Int => (decide ((gI x_34 x_35) = x_35))).map fun x_35 : Int => x_35).length : Int)) : (List Int)) fun luck_41 =>
  Let (nxt q_1.2 (6 : Int)) fun q_42 : (Int × Dr) =>
  Let (q_42.1 : Int) fun lucky_44 =>
  if ((!(decide (((count_lucky guests_3 lucky_44) : Int) = (cntL luck_41 lucky_44)))) || (!(decide (((chance_of_none guests_3) : (Int × Int)) = (law_low (cntL luck_41 (0 : Int)) (l_33.length : Int)))))) = true then
  (false, q_42.2)
  else
  Let (nxt q_42.2 (l_33.length : Int)) fun q_49 : (Int × Dr) =>
  Let (nxt q_49.2 (5 : Int)) fun q_50 : (Int × Dr) =>
  Let ((gI l_33 q_49.1) : (List Int)) fun row_52 =>
  Let (q_50.1 : Int) fun times_53 =>
  Let ((rgI 0 guests_3) : (List Int)) fun now_55 =>
  Let (([] : (List (List Int))) : (List (List Int))) fun told_56 =>
  Let ((rgI 0 (13 : Int)).foldl (law_hats_s_68 row_52) (told_56, now_55) : ((List (List Int)) × (List Int))) fun l_73 =>
  if (!(decide (((applied row_52 times_53) : (List Int)) = (gI l_73.1 times_53)))) = true then
  (false, q_50.2)
  else
  if (!(decide (((least_times row_52) : Int) = (gI (((rgI (1 : Int) (13 : Int)).filter fun x_77 : Int => (decide (((gI l_73.1 x_77) : (List Int)) = (gI l_73.1 (0 : Int))))).map fun x_77 : Int => x_77) (0 : Int))))) = true then
  (false, q_50.2)
  else
  Let (([] : (List (List Int))) : (List (List Int))) fun found_84 =>
  Let ((rgI 0 guests_3).foldl (law_hats_s_107 guests_3 l_73) found_84 : (List (List Int))) fun l_112 =>
  ((decide (((rings row_52) : (List (List Int))) = l_112)), q_50.2)
def law_hats_ok (draw : Dr) : Prop :=
  Let (nxt draw (5 : Int)) fun q_1 : (Int × Dr) =>
  Let (q_1.1 : Int) fun guests_3 =>
  Let (([([] : (List Int))] : (List (List Int))) : (List (List Int))) fun rows_4 =>
  ((rg1 guests_3)) ∧
  (∀ (i_31 : Nat) (x_7 : Int) (l_6 : (List (List Int))), (rgI 0 guests_3)[i_31]? = some x_7 → l_6 = ((rgI 0 guests_3).take i_31).foldl (law_hats_s_28 guests_3) rows_4 → law_hats_s_28_ok guests_3 l_6 x_7) ∧
  Let ((rgI 0 guests_3).foldl (law_hats_s_28 guests_3) rows_4 : (List (List Int))) fun l_33 =>
  ((∀ x_34 : (List Int), x_34 ∈ l_33 → (rg1 guests_3) ∧ (∀ x_35 : Int, x_35 ∈ (rgI 0 guests_3) → (inR x_34.length x_35)))) ∧
  Let ((l_33.map fun x_34 : (List Int) => ((((rgI 0 guests_3).filter fun x_35 : Int => (decide ((gI x_34 x_35) = x_35))).map fun x_35 : Int => x_35).length : Int)) : (List Int)) fun luck_41 =>
  Let (nxt q_1.2 (6 : Int)) fun q_42 : (Int × Dr) =>
  Let (q_42.1 : Int) fun lucky_44 =>
  ((count_lucky_ok guests_3 lucky_44) ∧ ((!(decide (((count_lucky guests_3 lucky_44) : Int) = (cntL luck_41 lucky_44)))) = false → (chance_of_none_ok guests_3) ∧ (law_low_ok (cntL luck_41 (0 : Int)) (l_33.length : Int)))) ∧
  (((!(decide (((count_lucky guests_3 lucky_44) : Int) = (cntL luck_41 lucky_44)))) || (!(decide (((chance_of_none guests_3) : (Int × Int)) = (law_low (cntL luck_41 (0 : Int)) (l_33.length : Int)))))) = true → True) ∧
  (((!(decide (((count_lucky guests_3 lucky_44) : Int) = (cntL luck_41 lucky_44)))) || (!(decide (((chance_of_none guests_3) : (Int × Int)) = (law_low (cntL luck_41 (0 : Int)) (l_33.length : Int)))))) = false → Let (nxt q_42.2 (l_33.length : Int)) fun q_49 : (Int × Dr) =>
  Let (nxt q_49.2 (5 : Int)) fun q_50 : (Int × Dr) =>
  ((drN (l_33.length : Int)) ∧ (inR l_33.length q_49.1)) ∧
  Let ((gI l_33 q_49.1) : (List Int)) fun row_52 =>
  Let (q_50.1 : Int) fun times_53 =>
  ((rg1 guests_3)) ∧
  Let ((rgI 0 guests_3) : (List Int)) fun now_55 =>
  Let (([] : (List (List Int))) : (List (List Int))) fun told_56 =>
  (∀ (i_71 : Nat) (x_59 : Int) (l_58 : ((List (List Int)) × (List Int))), (rgI 0 (13 : Int))[i_71]? = some x_59 → l_58 = ((rgI 0 (13 : Int)).take i_71).foldl (law_hats_s_68 row_52) (told_56, now_55) → law_hats_s_68_ok row_52 l_58 x_59) ∧
  Let ((rgI 0 (13 : Int)).foldl (law_hats_s_68 row_52) (told_56, now_55) : ((List (List Int)) × (List Int))) fun l_73 =>
  ((applied_ok row_52 times_53) ∧ (inR l_73.1.length times_53)) ∧
  ((!(decide (((applied row_52 times_53) : (List Int)) = (gI l_73.1 times_53)))) = true → True) ∧
  ((!(decide (((applied row_52 times_53) : (List Int)) = (gI l_73.1 times_53)))) = false → ((least_times_ok row_52) ∧ (rg2 (1 : Int) (13 : Int)) ∧ (∀ x_77 : Int, x_77 ∈ (rgI (1 : Int) (13 : Int)) → (inR l_73.1.length x_77) ∧ (inR l_73.1.length (0 : Int))) ∧ (inR (((rgI (1 : Int) (13 : Int)).filter fun x_77 : Int => (decide (((gI l_73.1 x_77) : (List Int)) = (gI l_73.1 (0 : Int))))).map fun x_77 : Int => x_77).length (0 : Int))) ∧
  ((!(decide (((least_times row_52) : Int) = (gI (((rgI (1 : Int) (13 : Int)).filter fun x_77 : Int => (decide (((gI l_73.1 x_77) : (List Int)) = (gI l_73.1 (0 : Int))))).map fun x_77 : Int => x_77) (0 : Int))))) = true → True) ∧
  ((!(decide (((least_times row_52) : Int) = (gI (((rgI (1 : Int) (13 : Int)).filter fun x_77 : Int => (decide (((gI l_73.1 x_77) : (List Int)) = (gI l_73.1 (0 : Int))))).map fun x_77 : Int => x_77) (0 : Int))))) = false → Let (([] : (List (List Int))) : (List (List Int))) fun found_84 =>
  ((rg1 guests_3)) ∧
  (∀ (i_110 : Nat) (x_87 : Int) (l_86 : (List (List Int))), (rgI 0 guests_3)[i_110]? = some x_87 → l_86 = ((rgI 0 guests_3).take i_110).foldl (law_hats_s_107 guests_3 l_73) found_84 → law_hats_s_107_ok guests_3 l_73 l_86 x_87) ∧
  Let ((rgI 0 guests_3).foldl (law_hats_s_107 guests_3 l_73) found_84 : (List (List Int))) fun l_112 =>
  (rings_ok row_52))))
abbrev N_law_hats : List Str := ["draw", "guests", "rows", "turn", "longer", "row", "luck", "lucky", "times", "now", "told", "found", "guest", "ring", "hat", "k"]
theorem sc_law_hats : FnScope N_law_hats ["draw"] (defScope (topS 30)) := ⟨rfl, rfl, rfl, by decide +kernel, rfl, by decide +kernel, by decide +kernel⟩
theorem ok_law_hats (X : Txt K mg) : FnOk P w K mg base CX0 10 X.f_law_hats X.d_law_hats ["draw"] (SpO K (fun a : Dr => law_hats_ok a) (fun a => drD a) (fun a => drD (law_hats a).2) (fun a => []) (fun a => PyData.bool (law_hats a).1)) := by
  refine fn_okO (A := Dr) (ρ := (Bool × Dr)) (args := fun a => []) X.o_law_hats.F sc_law_hats (fun r => PyData.bool r.1) (fun r => drD r.2) (fun a => law_hats a) (fun _ => rfl) (by decide) ?_
  intro draw p hok hlen
  have nd : (tc P w K mg base N_law_hats (topS 30) 9).N.Nodup := sc_law_hats.nd
  show JB (tc P w K mg base N_law_hats (topS 30) 9) (fun r => PyData.bool r.1) (fun r : (Bool × Dr) => endO N_law_hats p (drD r.2)) _ [.o (some p) (drD draw), .u, .u, .u, .u, .u, .u, .u, .u, .u, .u, .u, .u, .u, .u, .u] (law_hats draw)
  have hok : law_hats_ok draw := hok
  unfold law_hats_ok at hok
  unfold law_hats
  refine jb_pre fun q_1 e_q_1 => ?_
  have hok := let_ok hok q_1 e_q_1
  refine jb_cons (js_parN [1, 2] (jns_cons 1 nd (jns_cons 2 nd jns_nil)) (jao_d (je_callO' 0 (d := .int q_1.1) (e2 := [.o (some p) (drD q_1.2), .u, .u, .u, .u, .u, .u, .u, .u, .u, .u, .u, .u, .u, .u, .u]) (ok_next X) (draw, (5 : Int)) X.o_next.m X.o_next.F.kp X.o_next.b (ja_cons je_int ja_nil) (show drN (5 : Int) from ⟨by decide, by decide⟩) (hq := by subst e_q_1; rfl) (he := by subst e_q_1; rfl)) (jao_d (je_fz (je_lst (ja_cons (je_tup ja_nil) ja_nil))) jao_nil)) (hw := by walk_at "hw")) ?_
  refine jb_let (F := fun guests_3 : Int => [.o (some p) (drD q_1.2), .d (PyData.int guests_3), .d ((eL (eT PyData.int)) ([([] : (List Int))] : (List (List Int)))), .u, .u, .u, .u, .u, .u, .u, .u, .u, .u, .u, .u, .u]) (v := (q_1.1 : Int)) fun guests_3 e_guests_3 => ?_
  have hok := let_ok hok guests_3 e_guests_3
  refine jb_let (F := fun rows_4 : (List (List Int)) => [.o (some p) (drD q_1.2), .d (PyData.int guests_3), .d ((eL (eT PyData.int)) rows_4), .u, .u, .u, .u, .u, .u, .u, .u, .u, .u, .u, .u, .u]) (v := (([([] : (List Int))] : (List (List Int))) : (List (List Int)))) fun rows_4 e_rows_4 => ?_
  have hok := let_ok hok rows_4 e_rows_4
  obtain ⟨hs_5, hok⟩ := hok
  obtain ⟨hf_32, hok⟩ := hok
  refine jb_cons (js_forN (enc := PyData.int) (fun l : (List (List Int)) => [.o (some p) (drD q_1.2), .d (PyData.int guests_3), .d ((eL (eT PyData.int)) l), .u, .u, .u, .u, .u, .u, .u, .u, .u, .u, .u, .u, .u]) (law_hats_s_28 guests_3) rows_4 (ji_range1 rfl X.m_range (je_var 1) hs_5) (by walk_at "le") (fun i_31 x_7 l_6 hx_29 hl_30 => ?_)) ?_
  · have hok := hf_32 i_31 x_7 l_6 hx_29 hl_30
    unfold law_hats_s_28_ok at hok
    unfold law_hats_s_28
    refine ⟨[3], [.o (some p) (drD q_1.2), .d (PyData.int guests_3), .d ((eL (eT PyData.int)) l_6), .d (PyData.int x_7), .u, .u, .u, .u, .u, .u, .u, .u, .u, .u, .u, .u], (jg_name 3 (by exact nd)), ?_⟩
    refine jn_cons (js_set 4 nd (je_fz (je_lst ja_nil))) ?_
    refine jn_let (F := fun longer_9 : (List (List Int)) => [.o (some p) (drD q_1.2), .d (PyData.int guests_3), .d ((eL (eT PyData.int)) l_6), .d (PyData.int x_7), .d ((eL (eT PyData.int)) longer_9), .u, .u, .u, .u, .u, .u, .u, .u, .u, .u, .u]) (v := (([] : (List (List Int))) : (List (List Int)))) fun longer_9 e_longer_9 => ?_
    have hok := let_ok hok longer_9 e_longer_9
    obtain ⟨hf_23, hok⟩ := hok
    refine jn_cons (js_forN (enc := (eT PyData.int)) (fun l : (List (List Int)) => [.o (some p) (drD q_1.2), .d (PyData.int guests_3), .d ((eL (eT PyData.int)) l_6), .d (PyData.int x_7), .d ((eL (eT PyData.int)) l), .u, .u, .u, .u, .u, .u, .u, .u, .u, .u, .u]) (law_hats_s_19 guests_3) longer_9 (ji_list (je_var 2)) (by walk_at "le") (fun i_22 x_12 l_11 hx_20 hl_21 => ?_)) ?_
    · have hok := hf_23 i_22 x_12 l_11 hx_20 hl_21
      unfold law_hats_s_19_ok at hok
      unfold law_hats_s_19
      refine ⟨[5], [.o (some p) (drD q_1.2), .d (PyData.int guests_3), .d ((eL (eT PyData.int)) l_6), .d (PyData.int x_7), .d ((eL (eT PyData.int)) l_11), .d ((eT PyData.int) x_12), .u, .u, .u, .u, .u, .u, .u, .u, .u, .u], (jg_name 5 (by exact nd)), ?_⟩
      obtain ⟨hs_16, hok⟩ := hok
      refine jn_cons (js_set 4 nd (je_fz (je_catL' (enc := (eT PyData.int)) (j2d (je_var 4) (je_fz (je_lc1 (enc := PyData.int) (dec := (eT PyData.int)) [("hat", 14)] (fun x_13 : Int => (!inB x_13 x_12)) (fun x_13 : Int => (x_12 ++ ([x_13] : (List Int)))) (ji_range1 rfl X.m_range (je_var 1) hs_16.1) (by exact nd) rfl (unk_of rfl) (fun x_13 hx_14 => lcp (js := [14]) (E1 := [.o (some p) (drD q_1.2), .d (PyData.int guests_3), .d ((eL (eT PyData.int)) l_6), .d (PyData.int x_7), .d ((eL (eT PyData.int)) l_11), .d ((eT PyData.int) x_12), .u, .u, .u, .u, .u, .u, .u, .u, .d (PyData.int x_13), .u]) (by simp) (jg_name 14 (by exact nd)) (jts_one (jt_c (cj_notInTB (enc := PyData.int) (x := x_13) (ys := x_12) (j2d (je_var 14) (je_var 5)) fl_int eqe_int))) (by walk_at "le") fun hc_15 => (je_catT' (enc := PyData.int) (j2d (je_var 5) (je_tup (ja_cons (je_var 14) ja_nil))) ((hs_16.2.1 x_13 hx_14) hc_15)))))) hs_16.2.2))) ?_
      refine jn_let (F := fun longer_17 : (List (List Int)) => [.o (some p) (drD q_1.2), .d (PyData.int guests_3), .d ((eL (eT PyData.int)) l_6), .d (PyData.int x_7), .d ((eL (eT PyData.int)) longer_17), .d ((eT PyData.int) x_12), .u, .u, .u, .u, .u, .u, .u, .u, .u, .u]) (v := ((l_11 ++ (((rgI 0 guests_3).filter fun x_13 : Int => (!inB x_13 x_12)).map fun x_13 : Int => (x_12 ++ ([x_13] : (List Int))))) : (List (List Int)))) fun longer_17 e_longer_17 => ?_
      have hok := let_ok hok longer_17 e_longer_17
      exact jn_nil (by walk_at "le")
    refine jn_let (F := fun l : (List (List Int)) => [.o (some p) (drD q_1.2), .d (PyData.int guests_3), .d ((eL (eT PyData.int)) l_6), .d (PyData.int x_7), .d ((eL (eT PyData.int)) l), .u, .u, .u, .u, .u, .u, .u, .u, .u, .u, .u]) fun l_24 e_l_24 => ?_
    have hok := let_ok hok l_24 e_l_24
    refine jn_cons (js_set 2 nd (je_var 4)) ?_
    refine jn_let (F := fun rows_26 : (List (List Int)) => [.o (some p) (drD q_1.2), .d (PyData.int guests_3), .d ((eL (eT PyData.int)) rows_26), .d (PyData.int x_7), .d ((eL (eT PyData.int)) l_24), .u, .u, .u, .u, .u, .u, .u, .u, .u, .u, .u]) (v := (l_24 : (List (List Int)))) fun rows_26 e_rows_26 => ?_
    have hok := let_ok hok rows_26 e_rows_26
    exact jn_nil (by walk_at "le")
  refine jb_let (F := fun l : (List (List Int)) => [.o (some p) (drD q_1.2), .d (PyData.int guests_3), .d ((eL (eT PyData.int)) l), .u, .u, .u, .u, .u, .u, .u, .u, .u, .u, .u, .u, .u]) fun l_33 e_l_33 => ?_
  have hok := let_ok hok l_33 e_l_33
  obtain ⟨hs_40, hok⟩ := hok
  refine jb_cons (js_frz (i := 6) (k0 := none) (js_lc0 6 (enc := (eT PyData.int)) (dec := PyData.int) [("row", 5)] (fun x_34 : (List Int) => ((((rgI 0 guests_3).filter fun x_35 : Int => (decide ((gI x_34 x_35) = x_35))).map fun x_35 : Int => x_35).length : Int)) (ji_list (je_var 2)) (by exact nd) rfl (unk_of rfl) (fun x_34 hx_38 => lcp (js := [5]) (E1 := [.o (some p) (drD q_1.2), .d (PyData.int guests_3), .d ((eL (eT PyData.int)) l_33), .u, .u, .d ((eT PyData.int) x_34), .u, .u, .u, .u, .u, .u, .u, .u, .u, .u]) (by simp) (jg_name 5 (by exact nd)) jts_nil (by walk_at "le") fun hc_39 => (je_lenL' rfl X.m_len (je_fb (je_lc1 (enc := PyData.int) (dec := PyData.int) [("k", 15)] (fun x_35 : Int => (decide ((gI x_34 x_35) = x_35))) (fun x_35 : Int => x_35) (ji_range1 rfl X.m_range (je_var 1) (hs_40 x_34 hx_38).1) (by exact nd) rfl (unk_of rfl) (fun x_35 hx_36 => lcp (js := [15]) (E1 := [.o (some p) (drD q_1.2), .d (PyData.int guests_3), .d ((eL (eT PyData.int)) l_33), .u, .u, .d ((eT PyData.int) x_34), .u, .u, .u, .u, .u, .u, .u, .u, .u, .d (PyData.int x_35)]) (by simp) (jg_name 15 (by exact nd)) (jts_one (jt_c (cj_eqI (j2d (je_ixT' (enc := PyData.int) (j2d (je_var 5) (je_var 15)) ((hs_40 x_34 hx_38).2 x_35 hx_36)) (je_var 15))))) (by walk_at "le") fun hc_37 => (je_var 15))))))) rfl) ?_
  refine jb_let (F := fun luck_41 : (List Int) => [.o (some p) (drD q_1.2), .d (PyData.int guests_3), .d ((eL (eT PyData.int)) l_33), .u, .u, .u, .d ((eL PyData.int) luck_41), .u, .u, .u, .u, .u, .u, .u, .u, .u]) (v := ((l_33.map fun x_34 : (List Int) => ((((rgI 0 guests_3).filter fun x_35 : Int => (decide ((gI x_34 x_35) = x_35))).map fun x_35 : Int => x_35).length : Int)) : (List Int))) fun luck_41 e_luck_41 => ?_
  have hok := let_ok hok luck_41 e_luck_41
  refine jb_pre fun q_42 e_q_42 => ?_
  have hok := let_ok hok q_42 e_q_42
  refine jb_cons (js_set 7 nd (je_callO' 0 (d := .int q_42.1) (e2 := [.o (some p) (drD q_42.2), .d (PyData.int guests_3), .d ((eL (eT PyData.int)) l_33), .u, .u, .u, .d ((eL PyData.int) luck_41), .u, .u, .u, .u, .u, .u, .u, .u, .u]) (ok_next X) (q_1.2, (6 : Int)) X.o_next.m X.o_next.F.kp X.o_next.b (ja_cons je_int ja_nil) (show drN (6 : Int) from ⟨by decide, by decide⟩) (hq := by subst e_q_42; rfl) (he := by subst e_q_42; rfl))) ?_
  refine jb_let (F := fun lucky_44 : Int => [.o (some p) (drD q_42.2), .d (PyData.int guests_3), .d ((eL (eT PyData.int)) l_33), .u, .u, .u, .d ((eL PyData.int) luck_41), .d (PyData.int lucky_44), .u, .u, .u, .u, .u, .u, .u, .u]) (v := (q_42.1 : Int)) fun lucky_44 e_lucky_44 => ?_
  have hok := let_ok hok lucky_44 e_lucky_44
  obtain ⟨hs_46, hok⟩ := hok
  refine jb_ifr (jt_w (jw_or (jt_not (jt_v (je_call' (ok_same X 0) (PyData.int (count_lucky guests_3 lucky_44), PyData.int (cntL luck_41 lucky_44)) X.o_same.m X.o_same.F.kp X.o_same.b (ja_cons (je_call' (d := PyData.int (count_lucky guests_3 lucky_44)) (ok_count_lucky X) (guests_3, lucky_44) X.o_count_lucky.m X.o_count_lucky.F.kp X.o_count_lucky.b (ja_cons (je_var 1) (ja_cons (je_var 7) ja_nil)) hs_46.1) (ja_cons (je_countL (enc := PyData.int) (je_var 6) (je_var 7) sh_int sh_int eqe_int) ja_nil)) (sp_int (count_lucky guests_3 lucky_44) (cntL luck_41 lucky_44)) (hq := same_q sm_int (count_lucky guests_3 lucky_44) (cntL luck_41 lucky_44))))) (fun hc_45 => (jw_or1 (jt_not (jt_v (je_call' (ok_same X 1) ((eP2 PyData.int PyData.int) (chance_of_none guests_3), (eP2 PyData.int PyData.int) (law_low (cntL luck_41 (0 : Int)) (l_33.length : Int))) X.o_same.m X.o_same.F.kp X.o_same.b (ja_cons (je_call' (d := (eP2 PyData.int PyData.int) (chance_of_none guests_3)) (ok_chance_of_none X) (guests_3) X.o_chance_of_none.m X.o_chance_of_none.F.kp X.o_chance_of_none.b (ja_cons (je_var 1) ja_nil) (hs_46.2 hc_45).1) (ja_cons (je_call' (d := (eP2 PyData.int PyData.int) (law_low (cntL luck_41 (0 : Int)) (l_33.length : Int))) (ok_law_low X) ((cntL luck_41 (0 : Int)), (l_33.length : Int)) X.o_law_low.m X.o_law_low.F.kp X.o_law_low.b (ja_cons (je_countL (enc := PyData.int) (je_var 6) je_int sh_int sh_int eqe_int) (ja_cons (je_lenL' rfl X.m_len (je_b (je_var 2))) ja_nil)) (hs_46.2 hc_45).2) ja_nil)) ((sp_p2 sp_int sp_int) (chance_of_none guests_3) (law_low (cntL luck_41 (0 : Int)) (l_33.length : Int))) (hq := same_q (sm_p2 sm_int sm_int) (chance_of_none guests_3) (law_low (cntL luck_41 (0 : Int)) (l_33.length : Int)))))))))) (fun hc_47 => ?_) (fun hc_47 => ?_)
  · have hok := hok.1 hc_47
    have hs_48 := hok
    exact jb_ret je_bl (by walk_at "le")
  · have hok := hok.2 hc_47
    refine jb_pre fun q_49 e_q_49 => ?_
    have hok := let_ok hok q_49 e_q_49
    refine jb_pre fun q_50 e_q_50 => ?_
    have hok := let_ok hok q_50 e_q_50
    obtain ⟨hs_51, hok⟩ := hok
    refine jb_cons (js_parN [5, 8] (jns_cons 5 nd (jns_cons 8 nd jns_nil)) (jao_d (je_ixL' (enc := (eT PyData.int)) (j2d (je_var 2) (je_callO' 0 (d := .int q_49.1) (e2 := [.o (some p) (drD q_49.2), .d (PyData.int guests_3), .d ((eL (eT PyData.int)) l_33), .u, .u, .u, .d ((eL PyData.int) luck_41), .d (PyData.int lucky_44), .u, .u, .u, .u, .u, .u, .u, .u]) (ok_next X) (q_42.2, (l_33.length : Int)) X.o_next.m X.o_next.F.kp X.o_next.b (ja_cons (je_lenL' rfl X.m_len (je_b (je_var 2))) ja_nil) hs_51.1 (hq := by subst e_q_49; rfl) (he := by subst e_q_49; rfl))) hs_51.2) (jao_d (je_callO' 0 (d := .int q_50.1) (e2 := [.o (some p) (drD q_50.2), .d (PyData.int guests_3), .d ((eL (eT PyData.int)) l_33), .u, .u, .u, .d ((eL PyData.int) luck_41), .d (PyData.int lucky_44), .u, .u, .u, .u, .u, .u, .u, .u]) (ok_next X) (q_49.2, (5 : Int)) X.o_next.m X.o_next.F.kp X.o_next.b (ja_cons je_int ja_nil) (show drN (5 : Int) from ⟨by decide, by decide⟩) (hq := by subst e_q_50; rfl) (he := by subst e_q_50; rfl)) jao_nil)) (hw := by walk_at "hw")) ?_
    refine jb_let (F := fun row_52 : (List Int) => [.o (some p) (drD q_50.2), .d (PyData.int guests_3), .d ((eL (eT PyData.int)) l_33), .u, .u, .d ((eT PyData.int) row_52), .d ((eL PyData.int) luck_41), .d (PyData.int lucky_44), .d (PyData.int q_50.1), .u, .u, .u, .u, .u, .u, .u]) (v := ((gI l_33 q_49.1) : (List Int))) fun row_52 e_row_52 => ?_
    have hok := let_ok hok row_52 e_row_52
    refine jb_let (F := fun times_53 : Int => [.o (some p) (drD q_50.2), .d (PyData.int guests_3), .d ((eL (eT PyData.int)) l_33), .u, .u, .d ((eT PyData.int) row_52), .d ((eL PyData.int) luck_41), .d (PyData.int lucky_44), .d (PyData.int times_53), .u, .u, .u, .u, .u, .u, .u]) (v := (q_50.1 : Int)) fun times_53 e_times_53 => ?_
    have hok := let_ok hok times_53 e_times_53
    obtain ⟨hs_54, hok⟩ := hok
    refine jb_cons (js_parN [9, 10] (jns_cons 9 nd (jns_cons 10 nd jns_nil)) (jao_d (je_fz (je_listRg1 rfl X.m_list rfl X.m_range (je_var 1) hs_54)) (jao_o (je_lst ja_nil) jao_nil)) (hw := by walk_at "hw")) ?_
    refine jb_let (F := fun now_55 : (List Int) => [.o (some p) (drD q_50.2), .d (PyData.int guests_3), .d ((eL (eT PyData.int)) l_33), .u, .u, .d ((eT PyData.int) row_52), .d ((eL PyData.int) luck_41), .d (PyData.int lucky_44), .d (PyData.int times_53), .d ((eL PyData.int) now_55), .o none ((eL (eT PyData.int)) ([] : (List (List Int)))), .u, .u, .u, .u, .u]) (v := ((rgI 0 guests_3) : (List Int))) fun now_55 e_now_55 => ?_
    have hok := let_ok hok now_55 e_now_55
    refine jb_let (F := fun told_56 : (List (List Int)) => [.o (some p) (drD q_50.2), .d (PyData.int guests_3), .d ((eL (eT PyData.int)) l_33), .u, .u, .d ((eT PyData.int) row_52), .d ((eL PyData.int) luck_41), .d (PyData.int lucky_44), .d (PyData.int times_53), .d ((eL PyData.int) now_55), .o none ((eL (eT PyData.int)) told_56), .u, .u, .u, .u, .u]) (v := (([] : (List (List Int))) : (List (List Int)))) fun told_56 e_told_56 => ?_
    have hok := let_ok hok told_56 e_told_56
    obtain ⟨hf_72, hok⟩ := hok
    refine jb_cons (js_forN (enc := PyData.int) (fun l : ((List (List Int)) × (List Int)) => [.o (some p) (drD q_50.2), .d (PyData.int guests_3), .d ((eL (eT PyData.int)) l_33), .u, .u, .d ((eT PyData.int) row_52), .d ((eL PyData.int) luck_41), .d (PyData.int lucky_44), .d (PyData.int times_53), .d ((eL PyData.int) l.2), .o none ((eL (eT PyData.int)) l.1), .u, .u, .u, .u, .u]) (law_hats_s_68 row_52) (told_56, now_55) (ji_range1 rfl X.m_range je_int ⟨by decide, by decide⟩) (by walk_at "le") (fun i_71 x_59 l_58 hx_69 hl_70 => ?_)) ?_
    · have hok := hf_72 i_71 x_59 l_58 hx_69 hl_70
      unfold law_hats_s_68_ok at hok
      unfold law_hats_s_68
      refine ⟨[3], [.o (some p) (drD q_50.2), .d (PyData.int guests_3), .d ((eL (eT PyData.int)) l_33), .d (PyData.int x_59), .u, .d ((eT PyData.int) row_52), .d ((eL PyData.int) luck_41), .d (PyData.int lucky_44), .d (PyData.int times_53), .d ((eL PyData.int) l_58.2), .o none ((eL (eT PyData.int)) l_58.1), .u, .u, .u, .u, .u], (jg_name 3 (by exact nd)), ?_⟩
      obtain ⟨hs_60, hok⟩ := hok
      refine jn_cons (js_expr (je_append' (enc := (eT PyData.int)) (xs := l_58.1) (x := l_58.2) 10 (je_tupL (xs := l_58.2.map PyData.int) rfl X.m_tuple (je_b (je_var 9))) hs_60)) ?_
      refine jn_let (F := fun told_61 : (List (List Int)) => [.o (some p) (drD q_50.2), .d (PyData.int guests_3), .d ((eL (eT PyData.int)) l_33), .d (PyData.int x_59), .u, .d ((eT PyData.int) row_52), .d ((eL PyData.int) luck_41), .d (PyData.int lucky_44), .d (PyData.int times_53), .d ((eL PyData.int) l_58.2), .o none ((eL (eT PyData.int)) told_61), .u, .u, .u, .u, .u]) (v := ((l_58.1 ++ [l_58.2]) : (List (List Int)))) fun told_61 e_told_61 => ?_
      have hok := let_ok hok told_61 e_told_61
      obtain ⟨hs_65, hok⟩ := hok
      refine jn_cons (js_frz (i := 9) (k0 := none) (js_lc0 9 (enc := PyData.int) (dec := PyData.int) [("hat", 14)] (fun x_62 : Int => (gI row_52 x_62)) (ji_list (je_var 9)) (by exact nd) rfl (unk_of rfl) (fun x_62 hx_63 => lcp (js := [14]) (E1 := [.o (some p) (drD q_50.2), .d (PyData.int guests_3), .d ((eL (eT PyData.int)) l_33), .d (PyData.int x_59), .u, .d ((eT PyData.int) row_52), .d ((eL PyData.int) luck_41), .d (PyData.int lucky_44), .d (PyData.int times_53), .d ((eL PyData.int) l_58.2), .o none ((eL (eT PyData.int)) told_61), .u, .u, .u, .d (PyData.int x_62), .u]) (by simp) (jg_name 14 (by exact nd)) jts_nil (by walk_at "le") fun hc_64 => (je_ixT' (enc := PyData.int) (j2d (je_var 5) (je_var 14)) (hs_65 x_62 hx_63)))) rfl) ?_
      refine jn_let (F := fun now_66 : (List Int) => [.o (some p) (drD q_50.2), .d (PyData.int guests_3), .d ((eL (eT PyData.int)) l_33), .d (PyData.int x_59), .u, .d ((eT PyData.int) row_52), .d ((eL PyData.int) luck_41), .d (PyData.int lucky_44), .d (PyData.int times_53), .d ((eL PyData.int) now_66), .o none ((eL (eT PyData.int)) told_61), .u, .u, .u, .u, .u]) (v := ((l_58.2.map fun x_62 : Int => (gI row_52 x_62)) : (List Int))) fun now_66 e_now_66 => ?_
      have hok := let_ok hok now_66 e_now_66
      exact jn_nil (by walk_at "le")
    refine jb_let (F := fun l : ((List (List Int)) × (List Int)) => [.o (some p) (drD q_50.2), .d (PyData.int guests_3), .d ((eL (eT PyData.int)) l_33), .u, .u, .d ((eT PyData.int) row_52), .d ((eL PyData.int) luck_41), .d (PyData.int lucky_44), .d (PyData.int times_53), .d ((eL PyData.int) l.2), .o none ((eL (eT PyData.int)) l.1), .u, .u, .u, .u, .u]) fun l_73 e_l_73 => ?_
    have hok := let_ok hok l_73 e_l_73
    obtain ⟨hs_74, hok⟩ := hok
    refine jb_ifr (jt_not (jt_v (je_call' (ok_same X 1) ((eT PyData.int) (applied row_52 times_53), (eT PyData.int) (gI l_73.1 times_53)) X.o_same.m X.o_same.F.kp X.o_same.b (ja_cons (je_call' (d := (eT PyData.int) (applied row_52 times_53)) (ok_applied X) (row_52, times_53) X.o_applied.m X.o_applied.F.kp X.o_applied.b (ja_cons (je_var 5) (ja_cons (je_var 8) ja_nil)) hs_74.1) (ja_cons (je_ixL' (enc := (eT PyData.int)) (j2bd (je_varB 10) (je_var 8)) hs_74.2) ja_nil)) ((sp_t sp_int) (applied row_52 times_53) (gI l_73.1 times_53)) (hq := same_q (sm_t sm_int) (applied row_52 times_53) (gI l_73.1 times_53))))) (fun hc_75 => ?_) (fun hc_75 => ?_)
    · have hok := hok.1 hc_75
      have hs_76 := hok
      exact jb_ret je_bl (by walk_at "le")
    · have hok := hok.2 hc_75
      obtain ⟨hs_80, hok⟩ := hok
      refine jb_ifr (jt_not (jt_v (je_call' (ok_same X 0) (PyData.int (least_times row_52), PyData.int (gI (((rgI (1 : Int) (13 : Int)).filter fun x_77 : Int => (decide (((gI l_73.1 x_77) : (List Int)) = (gI l_73.1 (0 : Int))))).map fun x_77 : Int => x_77) (0 : Int))) X.o_same.m X.o_same.F.kp X.o_same.b (ja_cons (je_call' (d := PyData.int (least_times row_52)) (ok_least_times X) (row_52) X.o_least_times.m X.o_least_times.F.kp X.o_least_times.b (ja_cons (je_var 5) ja_nil) hs_80.1) (ja_cons (je_ixL' (enc := PyData.int) (j2d (je_fz (je_lc1 (enc := PyData.int) (dec := PyData.int) [("turn", 3)] (fun x_77 : Int => (decide (((gI l_73.1 x_77) : (List Int)) = (gI l_73.1 (0 : Int))))) (fun x_77 : Int => x_77) (ji_range2 rfl X.m_range (ja_cons je_int (ja_cons je_int ja_nil)) hs_80.2.1) (by exact nd) rfl (unk_of rfl) (fun x_77 hx_78 => lcp (js := [3]) (E1 := [.o (some p) (drD q_50.2), .d (PyData.int guests_3), .d ((eL (eT PyData.int)) l_33), .d (PyData.int x_77), .u, .d ((eT PyData.int) row_52), .d ((eL PyData.int) luck_41), .d (PyData.int lucky_44), .d (PyData.int times_53), .d ((eL PyData.int) l_73.2), .o none ((eL (eT PyData.int)) l_73.1), .u, .u, .u, .u, .u]) (by simp) (jg_name 3 (by exact nd)) (jts_one (jt_c (cj_eqE (enc := (eT PyData.int)) (x := (gI l_73.1 x_77)) (y := (gI l_73.1 (0 : Int))) (j2d (je_ixL' (enc := (eT PyData.int)) (j2bd (je_varB 10) (je_var 3)) (hs_80.2.2.1 x_77 hx_78).1) (je_ixL' (enc := (eT PyData.int)) (j2bd (je_varB 10) je_int) (hs_80.2.2.1 x_77 hx_78).2)) (sh_t sh_int) (eqe_t eqe_int)))) (by walk_at "le") fun hc_79 => (je_var 3)))) je_int) hs_80.2.2.2) ja_nil)) (sp_int (least_times row_52) (gI (((rgI (1 : Int) (13 : Int)).filter fun x_77 : Int => (decide (((gI l_73.1 x_77) : (List Int)) = (gI l_73.1 (0 : Int))))).map fun x_77 : Int => x_77) (0 : Int))) (hq := same_q sm_int (least_times row_52) (gI (((rgI (1 : Int) (13 : Int)).filter fun x_77 : Int => (decide (((gI l_73.1 x_77) : (List Int)) = (gI l_73.1 (0 : Int))))).map fun x_77 : Int => x_77) (0 : Int)))))) (fun hc_81 => ?_) (fun hc_81 => ?_)
      · have hok := hok.1 hc_81
        have hs_82 := hok
        exact jb_ret je_bl (by walk_at "le")
      · have hok := hok.2 hc_81
        refine jb_cons (js_set 11 nd (je_fz (je_lst ja_nil))) ?_
        refine jb_let (F := fun found_84 : (List (List Int)) => [.o (some p) (drD q_50.2), .d (PyData.int guests_3), .d ((eL (eT PyData.int)) l_33), .u, .u, .d ((eT PyData.int) row_52), .d ((eL PyData.int) luck_41), .d (PyData.int lucky_44), .d (PyData.int times_53), .d ((eL PyData.int) l_73.2), .o none ((eL (eT PyData.int)) l_73.1), .d ((eL (eT PyData.int)) found_84), .u, .u, .u, .u]) (v := (([] : (List (List Int))) : (List (List Int)))) fun found_84 e_found_84 => ?_
        have hok := let_ok hok found_84 e_found_84
        obtain ⟨hs_85, hok⟩ := hok
        obtain ⟨hf_111, hok⟩ := hok
        refine jb_cons (js_forN (enc := PyData.int) (fun l : (List (List Int)) => [.o (some p) (drD q_50.2), .d (PyData.int guests_3), .d ((eL (eT PyData.int)) l_33), .u, .u, .d ((eT PyData.int) row_52), .d ((eL PyData.int) luck_41), .d (PyData.int lucky_44), .d (PyData.int times_53), .d ((eL PyData.int) l_73.2), .o none ((eL (eT PyData.int)) l_73.1), .d ((eL (eT PyData.int)) l), .u, .u, .u, .u]) (law_hats_s_107 guests_3 l_73) found_84 (ji_range1 rfl X.m_range (je_var 1) hs_85) (by walk_at "le") (fun i_110 x_87 l_86 hx_108 hl_109 => ?_)) ?_
        · have hok := hf_111 i_110 x_87 l_86 hx_108 hl_109
          unfold law_hats_s_107_ok at hok
          unfold law_hats_s_107
          refine ⟨[12], [.o (some p) (drD q_50.2), .d (PyData.int guests_3), .d ((eL (eT PyData.int)) l_33), .u, .u, .d ((eT PyData.int) row_52), .d ((eL PyData.int) luck_41), .d (PyData.int lucky_44), .d (PyData.int times_53), .d ((eL PyData.int) l_73.2), .o none ((eL (eT PyData.int)) l_73.1), .d ((eL (eT PyData.int)) l_86), .d (PyData.int x_87), .u, .u, .u], (jg_name 12 (by exact nd)), ?_⟩
          refine jn_cons (js_set 13 nd (je_fz (je_lst ja_nil))) ?_
          refine jn_let (F := fun ring_89 : (List Int) => [.o (some p) (drD q_50.2), .d (PyData.int guests_3), .d ((eL (eT PyData.int)) l_33), .u, .u, .d ((eT PyData.int) row_52), .d ((eL PyData.int) luck_41), .d (PyData.int lucky_44), .d (PyData.int times_53), .d ((eL PyData.int) l_73.2), .o none ((eL (eT PyData.int)) l_73.1), .d ((eL (eT PyData.int)) l_86), .d (PyData.int x_87), .d ((eL PyData.int) ring_89), .u, .u]) (v := (([] : (List Int)) : (List Int))) fun ring_89 e_ring_89 => ?_
          have hok := let_ok hok ring_89 e_ring_89
          obtain ⟨hs_90, hok⟩ := hok
          obtain ⟨hf_101, hok⟩ := hok
          refine jn_cons (js_forN (enc := PyData.int) (fun l : (List Int) => [.o (some p) (drD q_50.2), .d (PyData.int guests_3), .d ((eL (eT PyData.int)) l_33), .u, .u, .d ((eT PyData.int) row_52), .d ((eL PyData.int) luck_41), .d (PyData.int lucky_44), .d (PyData.int times_53), .d ((eL PyData.int) l_73.2), .o none ((eL (eT PyData.int)) l_73.1), .d ((eL (eT PyData.int)) l_86), .d (PyData.int x_87), .d ((eL PyData.int) l), .u, .u]) (law_hats_s_97 l_73 x_87) ring_89 (ji_range1 rfl X.m_range (je_var 1) hs_90) (by walk_at "le") (fun i_100 x_92 l_91 hx_98 hl_99 => ?_)) ?_
          · have hok := hf_101 i_100 x_92 l_91 hx_98 hl_99
            unfold law_hats_s_97_ok at hok
            unfold law_hats_s_97
            refine ⟨[3], [.o (some p) (drD q_50.2), .d (PyData.int guests_3), .d ((eL (eT PyData.int)) l_33), .d (PyData.int x_92), .u, .d ((eT PyData.int) row_52), .d ((eL PyData.int) luck_41), .d (PyData.int lucky_44), .d (PyData.int times_53), .d ((eL PyData.int) l_73.2), .o none ((eL (eT PyData.int)) l_73.1), .d ((eL (eT PyData.int)) l_86), .d (PyData.int x_87), .d ((eL PyData.int) l_91), .u, .u], (jg_name 3 (by exact nd)), ?_⟩
            obtain ⟨hs_94, hok⟩ := hok
            refine jn_cons (js_set 13 nd (je_fz (je_catL' (enc := PyData.int) (j2d (je_var 13) (je_ifc (u := ([(gI (gI l_73.1 x_92) x_87)] : (List Int))) (w := ([] : (List Int))) (eL PyData.int) (jt_c (cj_notInLB (enc := PyData.int) (x := (gI (gI l_73.1 x_92) x_87)) (ys := l_91) (j2d (je_ixT' (enc := PyData.int) (j2d (je_ixL' (enc := (eT PyData.int)) (j2bd (je_varB 10) (je_var 3)) hs_94.1) (je_var 12)) hs_94.2.1) (je_var 13)) sh_int sh_int eqe_int)) (fun hc_93 => (je_fz (je_lst (ja_cons (je_ixT' (enc := PyData.int) (j2d (je_ixL' (enc := (eT PyData.int)) (j2bd (je_varB 10) (je_var 3)) (hs_94.2.2.1 hc_93).1) (je_var 12)) (hs_94.2.2.1 hc_93).2) ja_nil)))) (fun hc_93 => (je_fz (je_lst ja_nil))))) hs_94.2.2.2))) ?_
            refine jn_let (F := fun ring_95 : (List Int) => [.o (some p) (drD q_50.2), .d (PyData.int guests_3), .d ((eL (eT PyData.int)) l_33), .d (PyData.int x_92), .u, .d ((eT PyData.int) row_52), .d ((eL PyData.int) luck_41), .d (PyData.int lucky_44), .d (PyData.int times_53), .d ((eL PyData.int) l_73.2), .o none ((eL (eT PyData.int)) l_73.1), .d ((eL (eT PyData.int)) l_86), .d (PyData.int x_87), .d ((eL PyData.int) ring_95), .u, .u]) (v := ((l_91 ++ (if (!inB (gI (gI l_73.1 x_92) x_87) l_91) = true then ([(gI (gI l_73.1 x_92) x_87)] : (List Int)) else ([] : (List Int)))) : (List Int))) fun ring_95 e_ring_95 => ?_
            have hok := let_ok hok ring_95 e_ring_95
            exact jn_nil (by walk_at "le")
          refine jn_let (F := fun l : (List Int) => [.o (some p) (drD q_50.2), .d (PyData.int guests_3), .d ((eL (eT PyData.int)) l_33), .u, .u, .d ((eT PyData.int) row_52), .d ((eL PyData.int) luck_41), .d (PyData.int lucky_44), .d (PyData.int times_53), .d ((eL PyData.int) l_73.2), .o none ((eL (eT PyData.int)) l_73.1), .d ((eL (eT PyData.int)) l_86), .d (PyData.int x_87), .d ((eL PyData.int) l), .u, .u]) fun l_102 e_l_102 => ?_
          have hok := let_ok hok l_102 e_l_102
          obtain ⟨hs_104, hok⟩ := hok
          refine jn_cons (js_set 11 nd (je_fz (je_catL' (enc := (eT PyData.int)) (j2d (je_var 11) (je_ifc (u := ([l_102] : (List (List Int)))) (w := ([] : (List (List Int)))) (eL (eT PyData.int)) (jt_c (cj_eqI (j2d (je_minL (enc := PyData.int) rfl X.m_min (je_b (je_var 13)) alk_int hs_104.1) (je_var 12)))) (fun hc_103 => (je_fz (je_lst (ja_cons (je_tupL (xs := l_102.map PyData.int) rfl X.m_tuple (je_b (je_var 13))) ja_nil)))) (fun hc_103 => (je_fz (je_lst ja_nil))))) hs_104.2))) ?_
          refine jn_let (F := fun found_105 : (List (List Int)) => [.o (some p) (drD q_50.2), .d (PyData.int guests_3), .d ((eL (eT PyData.int)) l_33), .u, .u, .d ((eT PyData.int) row_52), .d ((eL PyData.int) luck_41), .d (PyData.int lucky_44), .d (PyData.int times_53), .d ((eL PyData.int) l_73.2), .o none ((eL (eT PyData.int)) l_73.1), .d ((eL (eT PyData.int)) found_105), .d (PyData.int x_87), .d ((eL PyData.int) l_102), .u, .u]) (v := ((l_86 ++ (if (decide ((pyMin PyData.int l_102) = x_87)) = true then ([l_102] : (List (List Int))) else ([] : (List (List Int))))) : (List (List Int)))) fun found_105 e_found_105 => ?_
          have hok := let_ok hok found_105 e_found_105
          exact jn_nil (by walk_at "le")
        refine jb_let (F := fun l : (List (List Int)) => [.o (some p) (drD q_50.2), .d (PyData.int guests_3), .d ((eL (eT PyData.int)) l_33), .u, .u, .d ((eT PyData.int) row_52), .d ((eL PyData.int) luck_41), .d (PyData.int lucky_44), .d (PyData.int times_53), .d ((eL PyData.int) l_73.2), .o none ((eL (eT PyData.int)) l_73.1), .d ((eL (eT PyData.int)) l), .u, .u, .u, .u]) fun l_112 e_l_112 => ?_
        have hok := let_ok hok l_112 e_l_112
        have hs_113 := hok
        exact jb_ret (je_call' (ok_same X 2) ((eT (eT PyData.int)) (rings row_52), (eT (eT PyData.int)) l_112) X.o_same.m X.o_same.F.kp X.o_same.b (ja_cons (je_call' (d := (eT (eT PyData.int)) (rings row_52)) (ok_rings X) (row_52) X.o_rings.m X.o_rings.F.kp X.o_rings.b (ja_cons (je_var 5) ja_nil) hs_113) (ja_cons (je_tupL (xs := l_112.map (eT PyData.int)) rfl X.m_tuple (je_b (je_var 11))) ja_nil)) ((sp_t (sp_t sp_int)) (rings row_52) l_112) (hq := same_q (sm_t (sm_t sm_int)) (rings row_52) l_112)) (by walk_at "le")

def law (script : (List Int)) : Bool :=
  Let ((⟨script, 0, 0, 17⟩ : Dr) : Dr) fun draw_2 =>
  Let (nxt draw_2 (8 : Int)) fun q_3 : (Int × Dr) =>
  Let (nxt q_3.2 (4 : Int)) fun q_4 : (Int × Dr) =>
  Let (((1 : Int) + q_3.1) : Int) fun bottles_6 =>
  Let (q_4.1 : Int) fun tasters_7 =>
  Let (mapS (fun (s_9 : Dr) (x_8 : Int) => (Let (filS (fun (s_11 : Dr) (x_10 : Int) => (Let (nxt s_11 (2 : Int)) fun q_12 : (Int × Dr) => ((decide (q_12.1 = (0 : Int))), q_12.2))) (fun x_10 : Int => x_10) s_9 (rgI 0 bottles_6)) fun m_15 : (List Int × Dr) => (m_15.1, m_15.2))) q_4.2 (rgI 0 tasters_7)) fun m_17 : (List (List Int) × Dr) =>
  Let (m_17.1 : (List (List Int))) fun plan_19 =>
  Let (((rgI 0 bottles_6).map fun x_20 : Int => (((rgI 0 tasters_7).filter fun x_21 : Int => (inB x_20 (gI plan_19 x_21))).map fun x_21 : Int => x_21)) : (List (List Int))) fun sets_27 =>
  if (!(decide (((is_sure bottles_6 plan_19) : Bool) = (decide ((lenSetL sets_27) = bottles_6))))) = true then
  false
  else
  Let (filS (fun (s_32 : Dr) (x_31 : Int) => (Let (nxt s_32 (2 : Int)) fun q_33 : (Int × Dr) => ((decide (q_33.1 = (0 : Int))), q_33.2))) (fun x_31 : Int => x_31) m_17.2 (rgI 0 tasters_7)) fun m_36 : (List Int × Dr) =>
  Let (m_36.1 : (List Int)) fun ill_38 =>
  if (!(decide (((found_by bottles_6 plan_19 ill_38) : (Option Int)) = (if (decide ((cntL sets_27 ill_38) = (1 : Int))) = true then (some (idxL sets_27 ill_38)) else (none : (Option Int)))))) = true then
  false
  else
  Let ((gI (((rgI 0 (5 : Int)).filter fun x_43 : Int => (decide (bottles_6 ≤ (gI ([(1 : Int), (2 : Int), (4 : Int), (8 : Int), (16 : Int)] : (List Int)) x_43)))).map fun x_43 : Int => x_43) (0 : Int)) : Int) fun fewest_47 =>
  if (!(decide (((fewest_tasters bottles_6) : Int) = fewest_47))) = true then
  false
  else
  Let (((rgI 0 fewest_47).map fun x_51 : Int => (((rgI 0 bottles_6).filter fun x_52 : Int => (decide ((Int.fmod (Int.fdiv x_52 (gI ([(1 : Int), (2 : Int), (4 : Int), (8 : Int)] : (List Int)) x_51)) (2 : Int)) = (1 : Int)))).map fun x_52 : Int => x_52)) : (List (List Int))) fun due_58 =>
  if ((!(decide (((first_plan bottles_6) : (List (List Int))) = due_58))) || (!decide ((is_sure bottles_6 due_58) = true))) = true then
  false
  else
  Let (nxt m_36.2 (6 : Int)) fun q_63 : (Int × Dr) =>
  Let (q_63.1 : Int) fun two_65 =>
  if (!(decide (((by_two_rounds two_65) : Int) = (gI ([(1 : Int), (3 : Int), (9 : Int), (27 : Int), (81 : Int), (243 : Int)] : (List Int)) two_65)))) = true then
  false
  else
  Let (([((eL (eT PyData.int)) plan_19), PyData.none, ((eT eD) ((plan_19.map (eT PyData.int)) ++ ([((eL PyData.int) ([(0 : Int)] : (List Int)))] : (List PyData)))), ((eT eD) ((plan_19.map (eT PyData.int)) ++ ([((eP1 PyData.int) (bottles_6))] : (List PyData)))), ((eT eD) ((plan_19.map (eT PyData.int)) ++ ([((eP1 PyData.int) ((-(1 : Int))))] : (List PyData)))), ((eT eD) ((plan_19.map (eT PyData.int)) ++ ([((eP2 PyData.int PyData.int) ((0 : Int), (0 : Int)))] : (List PyData)))), ((eT eD) ((plan_19.map (eT PyData.int)) ++ ([((eP1 PyData.bool) (true))] : (List PyData)))), ((eT eD) ((plan_19.map (eT PyData.int)) ++ ([((eP1 PyData.str) (("0" : Str)))] : (List PyData)))), ((eT (eT PyData.int)) (repX ([([] : (List Int))] : (List (List Int))) (9 : Int))), ((eT eD) ((plan_19.map (eT PyData.int)) ++ ([PyData.none] : (List PyData))))] : (List PyData)) : (List PyData)) fun wrong_70 =>
  Let (nxt q_63.2 (10 : Int)) fun q_71 : (Int × Dr) =>
  Let (law_hats q_71.2) fun q_72 : (Bool × Dr) =>
  ((decide ((is_plan bottles_6 ((eT (eT PyData.int)) plan_19)) = true)) && ((decide ((is_plan bottles_6 ((eT (eT PyData.int)) (repX ([([] : (List Int))] : (List (List Int))) (8 : Int)))) = true)) && ((decide ((is_plan bottles_6 (gI wrong_70 q_71.1)) = false)) && q_72.1)))
def law_ok (script : (List Int)) : Prop :=
  Let ((⟨script, 0, 0, 17⟩ : Dr) : Dr) fun draw_2 =>
  Let (nxt draw_2 (8 : Int)) fun q_3 : (Int × Dr) =>
  Let (nxt q_3.2 (4 : Int)) fun q_4 : (Int × Dr) =>
  Let (((1 : Int) + q_3.1) : Int) fun bottles_6 =>
  Let (q_4.1 : Int) fun tasters_7 =>
  Let (mapS (fun (s_9 : Dr) (x_8 : Int) => (Let (filS (fun (s_11 : Dr) (x_10 : Int) => (Let (nxt s_11 (2 : Int)) fun q_12 : (Int × Dr) => ((decide (q_12.1 = (0 : Int))), q_12.2))) (fun x_10 : Int => x_10) s_9 (rgI 0 bottles_6)) fun m_15 : (List Int × Dr) => (m_15.1, m_15.2))) q_4.2 (rgI 0 tasters_7)) fun m_17 : (List (List Int) × Dr) =>
  ((rg1 tasters_7) ∧ (∀ (s_9 : Dr) (x_8 : Int), x_8 ∈ (rgI 0 tasters_7) → ∀ m_15 : (List Int × Dr), m_15 = (filS (fun (s_11 : Dr) (x_10 : Int) => (Let (nxt s_11 (2 : Int)) fun q_12 : (Int × Dr) => ((decide (q_12.1 = (0 : Int))), q_12.2))) (fun x_10 : Int => x_10) s_9 (rgI 0 bottles_6)) → (rg1 bottles_6))) ∧
  Let (m_17.1 : (List (List Int))) fun plan_19 =>
  ((rg1 bottles_6) ∧ (∀ x_20 : Int, x_20 ∈ (rgI 0 bottles_6) → (rg1 tasters_7) ∧ (∀ x_21 : Int, x_21 ∈ (rgI 0 tasters_7) → (inR plan_19.length x_21)))) ∧
  Let (((rgI 0 bottles_6).map fun x_20 : Int => (((rgI 0 tasters_7).filter fun x_21 : Int => (inB x_20 (gI plan_19 x_21))).map fun x_21 : Int => x_21)) : (List (List Int))) fun sets_27 =>
  ((is_sure_ok bottles_6 plan_19) ∧ (sets_27.length < 64)) ∧
  ((!(decide (((is_sure bottles_6 plan_19) : Bool) = (decide ((lenSetL sets_27) = bottles_6))))) = true → True) ∧
  ((!(decide (((is_sure bottles_6 plan_19) : Bool) = (decide ((lenSetL sets_27) = bottles_6))))) = false → Let (filS (fun (s_32 : Dr) (x_31 : Int) => (Let (nxt s_32 (2 : Int)) fun q_33 : (Int × Dr) => ((decide (q_33.1 = (0 : Int))), q_33.2))) (fun x_31 : Int => x_31) m_17.2 (rgI 0 tasters_7)) fun m_36 : (List Int × Dr) =>
  ((rg1 tasters_7)) ∧
  Let (m_36.1 : (List Int)) fun ill_38 =>
  ((found_by_ok bottles_6 plan_19 ill_38) ∧ ((decide ((cntL sets_27 ill_38) = (1 : Int))) = true → (ill_38 ∈ sets_27))) ∧
  ((!(decide (((found_by bottles_6 plan_19 ill_38) : (Option Int)) = (if (decide ((cntL sets_27 ill_38) = (1 : Int))) = true then (some (idxL sets_27 ill_38)) else (none : (Option Int)))))) = true → True) ∧
  ((!(decide (((found_by bottles_6 plan_19 ill_38) : (Option Int)) = (if (decide ((cntL sets_27 ill_38) = (1 : Int))) = true then (some (idxL sets_27 ill_38)) else (none : (Option Int)))))) = false → ((∀ x_43 : Int, x_43 ∈ (rgI 0 (5 : Int)) → (inR ([(1 : Int), (2 : Int), (4 : Int), (8 : Int), (16 : Int)] : (List Int)).length x_43)) ∧ (inR (((rgI 0 (5 : Int)).filter fun x_43 : Int => (decide (bottles_6 ≤ (gI ([(1 : Int), (2 : Int), (4 : Int), (8 : Int), (16 : Int)] : (List Int)) x_43)))).map fun x_43 : Int => x_43).length (0 : Int))) ∧
  Let ((gI (((rgI 0 (5 : Int)).filter fun x_43 : Int => (decide (bottles_6 ≤ (gI ([(1 : Int), (2 : Int), (4 : Int), (8 : Int), (16 : Int)] : (List Int)) x_43)))).map fun x_43 : Int => x_43) (0 : Int)) : Int) fun fewest_47 =>
  ((fewest_tasters_ok bottles_6)) ∧
  ((!(decide (((fewest_tasters bottles_6) : Int) = fewest_47))) = true → True) ∧
  ((!(decide (((fewest_tasters bottles_6) : Int) = fewest_47))) = false → ((rg1 fewest_47) ∧ (∀ x_51 : Int, x_51 ∈ (rgI 0 fewest_47) → (rg1 bottles_6) ∧ (∀ x_52 : Int, x_52 ∈ (rgI 0 bottles_6) → (inR ([(1 : Int), (2 : Int), (4 : Int), (8 : Int)] : (List Int)).length x_51) ∧ (CDivN x_52 (gI ([(1 : Int), (2 : Int), (4 : Int), (8 : Int)] : (List Int)) x_51))))) ∧
  Let (((rgI 0 fewest_47).map fun x_51 : Int => (((rgI 0 bottles_6).filter fun x_52 : Int => (decide ((Int.fmod (Int.fdiv x_52 (gI ([(1 : Int), (2 : Int), (4 : Int), (8 : Int)] : (List Int)) x_51)) (2 : Int)) = (1 : Int)))).map fun x_52 : Int => x_52)) : (List (List Int))) fun due_58 =>
  ((first_plan_ok bottles_6) ∧ ((!(decide (((first_plan bottles_6) : (List (List Int))) = due_58))) = false → (is_sure_ok bottles_6 due_58))) ∧
  (((!(decide (((first_plan bottles_6) : (List (List Int))) = due_58))) || (!decide ((is_sure bottles_6 due_58) = true))) = true → True) ∧
  (((!(decide (((first_plan bottles_6) : (List (List Int))) = due_58))) || (!decide ((is_sure bottles_6 due_58) = true))) = false → Let (nxt m_36.2 (6 : Int)) fun q_63 : (Int × Dr) =>
  Let (q_63.1 : Int) fun two_65 =>
  ((by_two_rounds_ok two_65) ∧ (inR ([(1 : Int), (3 : Int), (9 : Int), (27 : Int), (81 : Int), (243 : Int)] : (List Int)).length two_65)) ∧
  ((!(decide (((by_two_rounds two_65) : Int) = (gI ([(1 : Int), (3 : Int), (9 : Int), (27 : Int), (81 : Int), (243 : Int)] : (List Int)) two_65)))) = true → True) ∧
  ((!(decide (((by_two_rounds two_65) : Int) = (gI ([(1 : Int), (3 : Int), (9 : Int), (27 : Int), (81 : Int), (243 : Int)] : (List Int)) two_65)))) = false → (((plan_19.map (eT PyData.int)).length + ([((eL PyData.int) ([(0 : Int)] : (List Int)))] : (List PyData)).length ≤ LN) ∧ ((plan_19.map (eT PyData.int)).length + ([((eP1 PyData.int) (bottles_6))] : (List PyData)).length ≤ LN) ∧ ((plan_19.map (eT PyData.int)).length + ([((eP1 PyData.int) ((-(1 : Int))))] : (List PyData)).length ≤ LN) ∧ ((plan_19.map (eT PyData.int)).length + ([((eP2 PyData.int PyData.int) ((0 : Int), (0 : Int)))] : (List PyData)).length ≤ LN) ∧ ((plan_19.map (eT PyData.int)).length + ([((eP1 PyData.bool) (true))] : (List PyData)).length ≤ LN) ∧ ((plan_19.map (eT PyData.int)).length + ([((eP1 PyData.str) (("0" : Str)))] : (List PyData)).length ≤ LN) ∧ (repOkU ([([] : (List Int))] : (List (List Int))).length (9 : Int)) ∧ ((plan_19.map (eT PyData.int)).length + ([PyData.none] : (List PyData)).length ≤ LN)) ∧
  Let (([((eL (eT PyData.int)) plan_19), PyData.none, ((eT eD) ((plan_19.map (eT PyData.int)) ++ ([((eL PyData.int) ([(0 : Int)] : (List Int)))] : (List PyData)))), ((eT eD) ((plan_19.map (eT PyData.int)) ++ ([((eP1 PyData.int) (bottles_6))] : (List PyData)))), ((eT eD) ((plan_19.map (eT PyData.int)) ++ ([((eP1 PyData.int) ((-(1 : Int))))] : (List PyData)))), ((eT eD) ((plan_19.map (eT PyData.int)) ++ ([((eP2 PyData.int PyData.int) ((0 : Int), (0 : Int)))] : (List PyData)))), ((eT eD) ((plan_19.map (eT PyData.int)) ++ ([((eP1 PyData.bool) (true))] : (List PyData)))), ((eT eD) ((plan_19.map (eT PyData.int)) ++ ([((eP1 PyData.str) (("0" : Str)))] : (List PyData)))), ((eT (eT PyData.int)) (repX ([([] : (List Int))] : (List (List Int))) (9 : Int))), ((eT eD) ((plan_19.map (eT PyData.int)) ++ ([PyData.none] : (List PyData))))] : (List PyData)) : (List PyData)) fun wrong_70 =>
  Let (nxt q_63.2 (10 : Int)) fun q_71 : (Int × Dr) =>
  Let (law_hats q_71.2) fun q_72 : (Bool × Dr) =>
  (is_plan_ok bottles_6 ((eT (eT PyData.int)) plan_19)) ∧ ((decide ((is_plan bottles_6 ((eT (eT PyData.int)) plan_19)) = true)) = true → (repOkU ([([] : (List Int))] : (List (List Int))).length (8 : Int)) ∧ (is_plan_ok bottles_6 ((eT (eT PyData.int)) (repX ([([] : (List Int))] : (List (List Int))) (8 : Int)))) ∧ ((decide ((is_plan bottles_6 ((eT (eT PyData.int)) (repX ([([] : (List Int))] : (List (List Int))) (8 : Int)))) = true)) = true → (inR wrong_70.length q_71.1) ∧ (is_plan_ok bottles_6 (gI wrong_70 q_71.1)) ∧ ((decide ((is_plan bottles_6 (gI wrong_70 q_71.1)) = false)) = true → (law_hats_ok q_71.2)))))))))
abbrev N_law : List Str := ["script", "draw", "bottles", "tasters", "plan", "sets", "ill", "fewest", "due", "two", "wrong", "bottle", "taster", "many"]
theorem sc_law : FnScope N_law ["script"] (defScope (topS 31)) := ⟨rfl, rfl, rfl, by decide +kernel, rfl, by decide +kernel, by decide +kernel⟩
theorem ok_law (X : Txt K mg) : FnOk P w K mg base CX0 11 X.f_law X.d_law ["script"] (SpD K (fun a : (List Int) => law_ok a) (fun a => [.dict [(.none, .list (a.map .int))]]) (fun a => PyData.bool (law a))) := by
  refine fn_ok (A := (List Int)) (args := fun a => [.dict [(.none, .list (a.map .int))]]) X.o_law.F sc_law PyData.bool (fun a => law a) (fun _ => rfl) (by decide) ?_
  intro script hok hlen
  have nd : (tc P w K mg base N_law (topS 31) 10).N.Nodup := sc_law.nd
  show JB (tc P w K mg base N_law (topS 31) 10) PyData.bool (fun _ => uE N_law) _ [.d (.dict [(.none, .list (script.map .int))]), .u, .u, .u, .u, .u, .u, .u, .u, .u, .u, .u, .u, .u] (law script)
  have hok : law_ok script := hok
  unfold law_ok at hok
  unfold law
  refine jb_cons (js_setO 1 nd (je_callF' (d := drD ⟨script, 0, 0, 17⟩) (ok_draw X) script X.o_draw.m X.o_draw.F.kp X.o_draw.b (ja_cons (je_var 0) ja_nil) True.intro)) ?_
  refine jb_let (F := fun draw_2 : Dr => [.d (.dict [(.none, .list (script.map .int))]), .o none (drD draw_2), .u, .u, .u, .u, .u, .u, .u, .u, .u, .u, .u, .u]) (v := ((⟨script, 0, 0, 17⟩ : Dr) : Dr)) fun draw_2 e_draw_2 => ?_
  have hok := let_ok hok draw_2 e_draw_2
  refine jb_pre fun q_3 e_q_3 => ?_
  have hok := let_ok hok q_3 e_q_3
  refine jb_pre fun q_4 e_q_4 => ?_
  have hok := let_ok hok q_4 e_q_4
  refine jb_cons (js_parN [2, 3] (jns_cons 2 nd (jns_cons 3 nd jns_nil)) (jao_d (je_add (j2d je_int (je_callO' 1 (d := .int q_3.1) (e2 := [.d (.dict [(.none, .list (script.map .int))]), .o none (drD q_3.2), .u, .u, .u, .u, .u, .u, .u, .u, .u, .u, .u, .u]) (ok_next X) (draw_2, (8 : Int)) X.o_next.m X.o_next.F.kp X.o_next.b (ja_cons je_int ja_nil) (show drN (8 : Int) from ⟨by decide, by decide⟩) (hq := by subst e_q_3; rfl) (he := by subst e_q_3; rfl)))) (jao_d (je_callO' 1 (d := .int q_4.1) (e2 := [.d (.dict [(.none, .list (script.map .int))]), .o none (drD q_4.2), .u, .u, .u, .u, .u, .u, .u, .u, .u, .u, .u, .u]) (ok_next X) (q_3.2, (4 : Int)) X.o_next.m X.o_next.F.kp X.o_next.b (ja_cons je_int ja_nil) (show drN (4 : Int) from ⟨by decide, by decide⟩) (hq := by subst e_q_4; rfl) (he := by subst e_q_4; rfl)) jao_nil)) (hw := by walk_at "hw")) ?_
  refine jb_let (F := fun bottles_6 : Int => [.d (.dict [(.none, .list (script.map .int))]), .o none (drD q_4.2), .d (PyData.int bottles_6), .d (PyData.int q_4.1), .u, .u, .u, .u, .u, .u, .u, .u, .u, .u]) (v := (((1 : Int) + q_3.1) : Int)) fun bottles_6 e_bottles_6 => ?_
  have hok := let_ok hok bottles_6 e_bottles_6
  refine jb_let (F := fun tasters_7 : Int => [.d (.dict [(.none, .list (script.map .int))]), .o none (drD q_4.2), .d (PyData.int bottles_6), .d (PyData.int tasters_7), .u, .u, .u, .u, .u, .u, .u, .u, .u, .u]) (v := (q_4.1 : Int)) fun tasters_7 e_tasters_7 => ?_
  have hok := let_ok hok tasters_7 e_tasters_7
  refine jb_pre fun m_17 e_m_17 => ?_
  have hok := let_ok hok m_17 e_m_17
  obtain ⟨hs_18, hok⟩ := hok
  refine jb_cons (js_set 4 nd (je_tupL (xs := m_17.1.map (eT PyData.int)) rfl X.m_tuple (je_fb (je_lcDq (enc := PyData.int) m_17 [("taster", 12)] (fun s_9 : Dr => [.d (.dict [(.none, .list (script.map .int))]), .o none (drD s_9), .d (PyData.int bottles_6), .d (PyData.int tasters_7), .u, .u, .u, .u, .u, .u, .u, .u, .u, .u]) (eT PyData.int) (fun (s_9 : Dr) (x_8 : Int) => (Let (filS (fun (s_11 : Dr) (x_10 : Int) => (Let (nxt s_11 (2 : Int)) fun q_12 : (Int × Dr) => ((decide (q_12.1 = (0 : Int))), q_12.2))) (fun x_10 : Int => x_10) s_9 (rgI 0 bottles_6)) fun m_15 : (List Int × Dr) => (m_15.1, m_15.2))) q_4.2 e_m_17 (ji_range1 rfl X.m_range (je_var 3) hs_18.1) (by exact nd) rfl (fun _ => unk_of rfl) (fun s_9 x_8 hx_16 => lcd_let (w := (filS (fun (s_11 : Dr) (x_10 : Int) => (Let (nxt s_11 (2 : Int)) fun q_12 : (Int × Dr) => ((decide (q_12.1 = (0 : Int))), q_12.2))) (fun x_10 : Int => x_10) s_9 (rgI 0 bottles_6))) fun m_15 e_m_15 => lcd (js := [12]) (E1 := [.d (.dict [(.none, .list (script.map .int))]), .o none (drD s_9), .d (PyData.int bottles_6), .d (PyData.int tasters_7), .u, .u, .u, .u, .u, .u, .u, .u, .d (PyData.int x_8), .u]) (E2 := [.d (.dict [(.none, .list (script.map .int))]), .o none (drD m_15.2), .d (PyData.int bottles_6), .d (PyData.int tasters_7), .u, .u, .u, .u, .u, .u, .u, .u, .d (PyData.int x_8), .u]) (by simp) (jg_name 12 (by exact nd)) (je_tupL (xs := m_15.1.map PyData.int) rfl X.m_tuple (je_fb (je_lcFq (enc := PyData.int) m_15 [("bottle", 11)] (fun s_11 : Dr => [.d (.dict [(.none, .list (script.map .int))]), .o none (drD s_11), .d (PyData.int bottles_6), .d (PyData.int tasters_7), .u, .u, .u, .u, .u, .u, .u, .u, .d (PyData.int x_8), .u]) PyData.int (fun (s_11 : Dr) (x_10 : Int) => (Let (nxt s_11 (2 : Int)) fun q_12 : (Int × Dr) => ((decide (q_12.1 = (0 : Int))), q_12.2))) (fun x_10 : Int => x_10) s_9 e_m_15 (ji_range1 rfl X.m_range (je_var 2) (hs_18.2 s_9 x_8 hx_16 m_15 e_m_15)) (by exact nd) rfl (fun _ => unk_of rfl) (fun s_11 x_10 hx_13 => lcf_let (v := (nxt s_11 (2 : Int))) fun q_12 e_q_12 => lcf (js := [11]) (E1 := [.d (.dict [(.none, .list (script.map .int))]), .o none (drD s_11), .d (PyData.int bottles_6), .d (PyData.int tasters_7), .u, .u, .u, .u, .u, .u, .u, .d (PyData.int x_10), .d (PyData.int x_8), .u]) (E2 := [.d (.dict [(.none, .list (script.map .int))]), .o none (drD q_12.2), .d (PyData.int bottles_6), .d (PyData.int tasters_7), .u, .u, .u, .u, .u, .u, .u, .d (PyData.int x_10), .d (PyData.int x_8), .u]) (by simp) (jg_name 11 (by exact nd)) (jts_one (jt_c (cj_eqI (j2d (je_callO' 1 (d := .int q_12.1) (e2 := [.d (.dict [(.none, .list (script.map .int))]), .o none (drD q_12.2), .d (PyData.int bottles_6), .d (PyData.int tasters_7), .u, .u, .u, .u, .u, .u, .u, .d (PyData.int x_10), .d (PyData.int x_8), .u]) (ok_next X) (s_11, (2 : Int)) X.o_next.m X.o_next.F.kp X.o_next.b (ja_cons je_int ja_nil) (show drN (2 : Int) from ⟨by decide, by decide⟩) (hq := by subst e_q_12; rfl) (he := by subst e_q_12; rfl)) je_int)))) (fun hc_14 => (je_var 11)) (by walk_at "le"))))) (by walk_at "le")))))) ?_
  refine jb_let (F := fun plan_19 : (List (List Int)) => [.d (.dict [(.none, .list (script.map .int))]), .o none (drD m_17.2), .d (PyData.int bottles_6), .d (PyData.int tasters_7), .d ((eT (eT PyData.int)) plan_19), .u, .u, .u, .u, .u, .u, .u, .u, .u]) (v := (m_17.1 : (List (List Int)))) fun plan_19 e_plan_19 => ?_
  have hok := let_ok hok plan_19 e_plan_19
  obtain ⟨hs_26, hok⟩ := hok
  refine jb_cons (js_frz (i := 5) (k0 := none) (js_lc0 5 (enc := PyData.int) (dec := (eT PyData.int)) [("bottle", 11)] (fun x_20 : Int => (((rgI 0 tasters_7).filter fun x_21 : Int => (inB x_20 (gI plan_19 x_21))).map fun x_21 : Int => x_21)) (ji_range1 rfl X.m_range (je_var 2) hs_26.1) (by exact nd) rfl (unk_of rfl) (fun x_20 hx_24 => lcp (js := [11]) (E1 := [.d (.dict [(.none, .list (script.map .int))]), .o none (drD m_17.2), .d (PyData.int bottles_6), .d (PyData.int tasters_7), .d ((eT (eT PyData.int)) plan_19), .u, .u, .u, .u, .u, .u, .d (PyData.int x_20), .u, .u]) (by simp) (jg_name 11 (by exact nd)) jts_nil (by walk_at "le") fun hc_25 => (je_tupL (xs := (((rgI 0 tasters_7).filter fun x_21 : Int => (inB x_20 (gI plan_19 x_21))).map fun x_21 : Int => x_21).map PyData.int) rfl X.m_tuple (je_fb (je_lc1 (enc := PyData.int) (dec := PyData.int) [("taster", 12)] (fun x_21 : Int => (inB x_20 (gI plan_19 x_21))) (fun x_21 : Int => x_21) (ji_range1 rfl X.m_range (je_var 3) (hs_26.2 x_20 hx_24).1) (by exact nd) rfl (unk_of rfl) (fun x_21 hx_22 => lcp (js := [12]) (E1 := [.d (.dict [(.none, .list (script.map .int))]), .o none (drD m_17.2), .d (PyData.int bottles_6), .d (PyData.int tasters_7), .d ((eT (eT PyData.int)) plan_19), .u, .u, .u, .u, .u, .u, .d (PyData.int x_20), .d (PyData.int x_21), .u]) (by simp) (jg_name 12 (by exact nd)) (jts_one (jt_c (cj_inTB (enc := PyData.int) (x := x_20) (ys := (gI plan_19 x_21)) (j2d (je_var 11) (je_ixT' (enc := (eT PyData.int)) (j2d (je_var 4) (je_var 12)) ((hs_26.2 x_20 hx_24).2 x_21 hx_22))) fl_int eqe_int))) (by walk_at "le") fun hc_23 => (je_var 12))))))) rfl) ?_
  refine jb_let (F := fun sets_27 : (List (List Int)) => [.d (.dict [(.none, .list (script.map .int))]), .o none (drD m_17.2), .d (PyData.int bottles_6), .d (PyData.int tasters_7), .d ((eT (eT PyData.int)) plan_19), .d ((eL (eT PyData.int)) sets_27), .u, .u, .u, .u, .u, .u, .u, .u]) (v := (((rgI 0 bottles_6).map fun x_20 : Int => (((rgI 0 tasters_7).filter fun x_21 : Int => (inB x_20 (gI plan_19 x_21))).map fun x_21 : Int => x_21)) : (List (List Int)))) fun sets_27 e_sets_27 => ?_
  have hok := let_ok hok sets_27 e_sets_27
  obtain ⟨hs_28, hok⟩ := hok
  refine jb_ifr (jt_not (jt_v (je_call' (ok_same X 0) (PyData.bool (is_sure bottles_6 plan_19), PyData.bool (decide ((lenSetL sets_27) = bottles_6))) X.o_same.m X.o_same.F.kp X.o_same.b (ja_cons (je_call' (d := PyData.bool (is_sure bottles_6 plan_19)) (ok_is_sure X) (bottles_6, plan_19) X.o_is_sure.m X.o_is_sure.F.kp X.o_is_sure.b (ja_cons (je_var 2) (ja_cons (je_var 4) ja_nil)) hs_28.1) (ja_cons (je_c (cj_eqI (j2d (je_lenSetL rfl X.m_len rfl X.m_set (je_b (je_var 5)) hs_28.2) (je_var 2)))) ja_nil)) (sp_bool (is_sure bottles_6 plan_19) (decide ((lenSetL sets_27) = bottles_6))) (hq := same_q sm_bool (is_sure bottles_6 plan_19) (decide ((lenSetL sets_27) = bottles_6)))))) (fun hc_29 => ?_) (fun hc_29 => ?_)
  · have hok := hok.1 hc_29
    have hs_30 := hok
    exact jb_ret je_bl (by walk_at "le")
  · have hok := hok.2 hc_29
    refine jb_pre fun m_36 e_m_36 => ?_
    have hok := let_ok hok m_36 e_m_36
    obtain ⟨hs_37, hok⟩ := hok
    refine jb_cons (js_set 6 nd (je_tupL (xs := m_36.1.map PyData.int) rfl X.m_tuple (je_fb (je_lcFq (enc := PyData.int) m_36 [("taster", 12)] (fun s_32 : Dr => [.d (.dict [(.none, .list (script.map .int))]), .o none (drD s_32), .d (PyData.int bottles_6), .d (PyData.int tasters_7), .d ((eT (eT PyData.int)) plan_19), .d ((eL (eT PyData.int)) sets_27), .u, .u, .u, .u, .u, .u, .u, .u]) PyData.int (fun (s_32 : Dr) (x_31 : Int) => (Let (nxt s_32 (2 : Int)) fun q_33 : (Int × Dr) => ((decide (q_33.1 = (0 : Int))), q_33.2))) (fun x_31 : Int => x_31) m_17.2 e_m_36 (ji_range1 rfl X.m_range (je_var 3) hs_37) (by exact nd) rfl (fun _ => unk_of rfl) (fun s_32 x_31 hx_34 => lcf_let (v := (nxt s_32 (2 : Int))) fun q_33 e_q_33 => lcf (js := [12]) (E1 := [.d (.dict [(.none, .list (script.map .int))]), .o none (drD s_32), .d (PyData.int bottles_6), .d (PyData.int tasters_7), .d ((eT (eT PyData.int)) plan_19), .d ((eL (eT PyData.int)) sets_27), .u, .u, .u, .u, .u, .u, .d (PyData.int x_31), .u]) (E2 := [.d (.dict [(.none, .list (script.map .int))]), .o none (drD q_33.2), .d (PyData.int bottles_6), .d (PyData.int tasters_7), .d ((eT (eT PyData.int)) plan_19), .d ((eL (eT PyData.int)) sets_27), .u, .u, .u, .u, .u, .u, .d (PyData.int x_31), .u]) (by simp) (jg_name 12 (by exact nd)) (jts_one (jt_c (cj_eqI (j2d (je_callO' 1 (d := .int q_33.1) (e2 := [.d (.dict [(.none, .list (script.map .int))]), .o none (drD q_33.2), .d (PyData.int bottles_6), .d (PyData.int tasters_7), .d ((eT (eT PyData.int)) plan_19), .d ((eL (eT PyData.int)) sets_27), .u, .u, .u, .u, .u, .u, .d (PyData.int x_31), .u]) (ok_next X) (s_32, (2 : Int)) X.o_next.m X.o_next.F.kp X.o_next.b (ja_cons je_int ja_nil) (show drN (2 : Int) from ⟨by decide, by decide⟩) (hq := by subst e_q_33; rfl) (he := by subst e_q_33; rfl)) je_int)))) (fun hc_35 => (je_var 12)) (by walk_at "le")))))) ?_
    refine jb_let (F := fun ill_38 : (List Int) => [.d (.dict [(.none, .list (script.map .int))]), .o none (drD m_36.2), .d (PyData.int bottles_6), .d (PyData.int tasters_7), .d ((eT (eT PyData.int)) plan_19), .d ((eL (eT PyData.int)) sets_27), .d ((eT PyData.int) ill_38), .u, .u, .u, .u, .u, .u, .u]) (v := (m_36.1 : (List Int))) fun ill_38 e_ill_38 => ?_
    have hok := let_ok hok ill_38 e_ill_38
    obtain ⟨hs_40, hok⟩ := hok
    refine jb_ifr (jt_not (jt_v (je_call' (ok_same X 0) ((eO PyData.int) (found_by bottles_6 plan_19 ill_38), (eO PyData.int) (if (decide ((cntL sets_27 ill_38) = (1 : Int))) = true then (some (idxL sets_27 ill_38)) else (none : (Option Int)))) X.o_same.m X.o_same.F.kp X.o_same.b (ja_cons (je_call' (d := (eO PyData.int) (found_by bottles_6 plan_19 ill_38)) (ok_found_by X) (bottles_6, plan_19, ill_38) X.o_found_by.m X.o_found_by.F.kp X.o_found_by.b (ja_cons (je_var 2) (ja_cons (je_var 4) (ja_cons (je_var 6) ja_nil))) hs_40.1) (ja_cons (je_ifc (u := (some (idxL sets_27 ill_38))) (w := (none : (Option Int))) (eO PyData.int) (jt_c (cj_eqI (j2d (je_countL (enc := (eT PyData.int)) (je_var 5) (je_var 6) (sh_t sh_int) (sh_t sh_int) (eqe_t eqe_int)) je_int))) (fun hc_39 => (je_index (enc := (eT PyData.int)) (je_var 5) (je_var 6) (sh_t sh_int) (sh_t sh_int) (eqe_t eqe_int) (hs_40.2 hc_39))) (fun hc_39 => je_non)) ja_nil)) ((sp_o sp_int (fun _ => by rfl)) (found_by bottles_6 plan_19 ill_38) (if (decide ((cntL sets_27 ill_38) = (1 : Int))) = true then (some (idxL sets_27 ill_38)) else (none : (Option Int)))) (hq := same_q (sm_o sm_int (fun _ => ⟨by simp [sameD], by simp [sameD]⟩)) (found_by bottles_6 plan_19 ill_38) (if (decide ((cntL sets_27 ill_38) = (1 : Int))) = true then (some (idxL sets_27 ill_38)) else (none : (Option Int))))))) (fun hc_41 => ?_) (fun hc_41 => ?_)
    · have hok := hok.1 hc_41
      have hs_42 := hok
      exact jb_ret je_bl (by walk_at "le")
    · have hok := hok.2 hc_41
      obtain ⟨hs_46, hok⟩ := hok
      refine jb_cons (js_set 7 nd (je_ixL' (enc := PyData.int) (j2d (je_fz (je_lc1 (enc := PyData.int) (dec := PyData.int) [("many", 13)] (fun x_43 : Int => (decide (bottles_6 ≤ (gI ([(1 : Int), (2 : Int), (4 : Int), (8 : Int), (16 : Int)] : (List Int)) x_43)))) (fun x_43 : Int => x_43) (ji_range1 rfl X.m_range je_int ⟨by decide, by decide⟩) (by exact nd) rfl (unk_of rfl) (fun x_43 hx_44 => lcp (js := [13]) (E1 := [.d (.dict [(.none, .list (script.map .int))]), .o none (drD m_36.2), .d (PyData.int bottles_6), .d (PyData.int tasters_7), .d ((eT (eT PyData.int)) plan_19), .d ((eL (eT PyData.int)) sets_27), .d ((eT PyData.int) ill_38), .u, .u, .u, .u, .u, .u, .d (PyData.int x_43)]) (by simp) (jg_name 13 (by exact nd)) (jts_one (jt_c (cj_ge (j2d (je_ixL' (enc := PyData.int) (j2d (je_fz (je_lst (ja_cons je_int (ja_cons je_int (ja_cons je_int (ja_cons je_int (ja_cons je_int ja_nil))))))) (je_var 13)) (hs_46.1 x_43 hx_44)) (je_var 2))))) (by walk_at "le") fun hc_45 => (je_var 13)))) je_int) hs_46.2)) ?_
      refine jb_let (F := fun fewest_47 : Int => [.d (.dict [(.none, .list (script.map .int))]), .o none (drD m_36.2), .d (PyData.int bottles_6), .d (PyData.int tasters_7), .d ((eT (eT PyData.int)) plan_19), .d ((eL (eT PyData.int)) sets_27), .d ((eT PyData.int) ill_38), .d (PyData.int fewest_47), .u, .u, .u, .u, .u, .u]) (v := ((gI (((rgI 0 (5 : Int)).filter fun x_43 : Int => (decide (bottles_6 ≤ (gI ([(1 : Int), (2 : Int), (4 : Int), (8 : Int), (16 : Int)] : (List Int)) x_43)))).map fun x_43 : Int => x_43) (0 : Int)) : Int)) fun fewest_47 e_fewest_47 => ?_
      have hok := let_ok hok fewest_47 e_fewest_47
      obtain ⟨hs_48, hok⟩ := hok
      refine jb_ifr (jt_not (jt_v (je_call' (ok_same X 0) (PyData.int (fewest_tasters bottles_6), PyData.int fewest_47) X.o_same.m X.o_same.F.kp X.o_same.b (ja_cons (je_call' (d := PyData.int (fewest_tasters bottles_6)) (ok_fewest_tasters X) (bottles_6) X.o_fewest_tasters.m X.o_fewest_tasters.F.kp X.o_fewest_tasters.b (ja_cons (je_var 2) ja_nil) hs_48) (ja_cons (je_var 7) ja_nil)) (sp_int (fewest_tasters bottles_6) fewest_47) (hq := same_q sm_int (fewest_tasters bottles_6) fewest_47)))) (fun hc_49 => ?_) (fun hc_49 => ?_)
      · have hok := hok.1 hc_49
        have hs_50 := hok
        exact jb_ret je_bl (by walk_at "le")
      · have hok := hok.2 hc_49
        obtain ⟨hs_57, hok⟩ := hok
        refine jb_cons (js_set 8 nd (je_tupL (xs := ((rgI 0 fewest_47).map fun x_51 : Int => (((rgI 0 bottles_6).filter fun x_52 : Int => (decide ((Int.fmod (Int.fdiv x_52 (gI ([(1 : Int), (2 : Int), (4 : Int), (8 : Int)] : (List Int)) x_51)) (2 : Int)) = (1 : Int)))).map fun x_52 : Int => x_52)).map (eT PyData.int)) rfl X.m_tuple (je_fb (je_lc0 (enc := PyData.int) (dec := (eT PyData.int)) [("taster", 12)] (fun x_51 : Int => (((rgI 0 bottles_6).filter fun x_52 : Int => (decide ((Int.fmod (Int.fdiv x_52 (gI ([(1 : Int), (2 : Int), (4 : Int), (8 : Int)] : (List Int)) x_51)) (2 : Int)) = (1 : Int)))).map fun x_52 : Int => x_52)) (ji_range1 rfl X.m_range (je_var 7) hs_57.1) (by exact nd) rfl (unk_of rfl) (fun x_51 hx_55 => lcp (js := [12]) (E1 := [.d (.dict [(.none, .list (script.map .int))]), .o none (drD m_36.2), .d (PyData.int bottles_6), .d (PyData.int tasters_7), .d ((eT (eT PyData.int)) plan_19), .d ((eL (eT PyData.int)) sets_27), .d ((eT PyData.int) ill_38), .d (PyData.int fewest_47), .u, .u, .u, .u, .d (PyData.int x_51), .u]) (by simp) (jg_name 12 (by exact nd)) jts_nil (by walk_at "le") fun hc_56 => (je_tupL (xs := (((rgI 0 bottles_6).filter fun x_52 : Int => (decide ((Int.fmod (Int.fdiv x_52 (gI ([(1 : Int), (2 : Int), (4 : Int), (8 : Int)] : (List Int)) x_51)) (2 : Int)) = (1 : Int)))).map fun x_52 : Int => x_52).map PyData.int) rfl X.m_tuple (je_fb (je_lc1 (enc := PyData.int) (dec := PyData.int) [("bottle", 11)] (fun x_52 : Int => (decide ((Int.fmod (Int.fdiv x_52 (gI ([(1 : Int), (2 : Int), (4 : Int), (8 : Int)] : (List Int)) x_51)) (2 : Int)) = (1 : Int)))) (fun x_52 : Int => x_52) (ji_range1 rfl X.m_range (je_var 2) (hs_57.2 x_51 hx_55).1) (by exact nd) rfl (unk_of rfl) (fun x_52 hx_53 => lcp (js := [11]) (E1 := [.d (.dict [(.none, .list (script.map .int))]), .o none (drD m_36.2), .d (PyData.int bottles_6), .d (PyData.int tasters_7), .d ((eT (eT PyData.int)) plan_19), .d ((eL (eT PyData.int)) sets_27), .d ((eT PyData.int) ill_38), .d (PyData.int fewest_47), .u, .u, .u, .d (PyData.int x_52), .d (PyData.int x_51), .u]) (by simp) (jg_name 11 (by exact nd)) (jts_one (jt_c (cj_eqI (j2d (je_mod (j2d (je_fdiv (j2d (je_var 11) (je_ixL' (enc := PyData.int) (j2d (je_fz (je_lst (ja_cons je_int (ja_cons je_int (ja_cons je_int (ja_cons je_int ja_nil)))))) (je_var 12)) ((hs_57.2 x_51 hx_55).2 x_52 hx_53).1)) ((hs_57.2 x_51 hx_55).2 x_52 hx_53).2) je_int) (by decide)) je_int)))) (by walk_at "le") fun hc_54 => (je_var 11)))))))))) ?_
        refine jb_let (F := fun due_58 : (List (List Int)) => [.d (.dict [(.none, .list (script.map .int))]), .o none (drD m_36.2), .d (PyData.int bottles_6), .d (PyData.int tasters_7), .d ((eT (eT PyData.int)) plan_19), .d ((eL (eT PyData.int)) sets_27), .d ((eT PyData.int) ill_38), .d (PyData.int fewest_47), .d ((eT (eT PyData.int)) due_58), .u, .u, .u, .u, .u]) (v := (((rgI 0 fewest_47).map fun x_51 : Int => (((rgI 0 bottles_6).filter fun x_52 : Int => (decide ((Int.fmod (Int.fdiv x_52 (gI ([(1 : Int), (2 : Int), (4 : Int), (8 : Int)] : (List Int)) x_51)) (2 : Int)) = (1 : Int)))).map fun x_52 : Int => x_52)) : (List (List Int)))) fun due_58 e_due_58 => ?_
        have hok := let_ok hok due_58 e_due_58
        obtain ⟨hs_60, hok⟩ := hok
        refine jb_ifr (jt_w (jw_or (jt_not (jt_v (je_call' (ok_same X 2) ((eT (eT PyData.int)) (first_plan bottles_6), (eT (eT PyData.int)) due_58) X.o_same.m X.o_same.F.kp X.o_same.b (ja_cons (je_call' (d := (eT (eT PyData.int)) (first_plan bottles_6)) (ok_first_plan X) (bottles_6) X.o_first_plan.m X.o_first_plan.F.kp X.o_first_plan.b (ja_cons (je_var 2) ja_nil) hs_60.1) (ja_cons (je_var 8) ja_nil)) ((sp_t (sp_t sp_int)) (first_plan bottles_6) due_58) (hq := same_q (sm_t (sm_t sm_int)) (first_plan bottles_6) due_58)))) (fun hc_59 => (jw_or1 (jt_c (cj_isnotB (j2d (je_call' (d := PyData.bool (is_sure bottles_6 due_58)) (ok_is_sure X) (bottles_6, due_58) X.o_is_sure.m X.o_is_sure.F.kp X.o_is_sure.b (ja_cons (je_var 2) (ja_cons (je_var 8) ja_nil)) (hs_60.2 hc_59)) je_bl))))))) (fun hc_61 => ?_) (fun hc_61 => ?_)
        · have hok := hok.1 hc_61
          have hs_62 := hok
          exact jb_ret je_bl (by walk_at "le")
        · have hok := hok.2 hc_61
          refine jb_pre fun q_63 e_q_63 => ?_
          have hok := let_ok hok q_63 e_q_63
          refine jb_cons (js_set 9 nd (je_callO' 1 (d := .int q_63.1) (e2 := [.d (.dict [(.none, .list (script.map .int))]), .o none (drD q_63.2), .d (PyData.int bottles_6), .d (PyData.int tasters_7), .d ((eT (eT PyData.int)) plan_19), .d ((eL (eT PyData.int)) sets_27), .d ((eT PyData.int) ill_38), .d (PyData.int fewest_47), .d ((eT (eT PyData.int)) due_58), .u, .u, .u, .u, .u]) (ok_next X) (m_36.2, (6 : Int)) X.o_next.m X.o_next.F.kp X.o_next.b (ja_cons je_int ja_nil) (show drN (6 : Int) from ⟨by decide, by decide⟩) (hq := by subst e_q_63; rfl) (he := by subst e_q_63; rfl))) ?_
          refine jb_let (F := fun two_65 : Int => [.d (.dict [(.none, .list (script.map .int))]), .o none (drD q_63.2), .d (PyData.int bottles_6), .d (PyData.int tasters_7), .d ((eT (eT PyData.int)) plan_19), .d ((eL (eT PyData.int)) sets_27), .d ((eT PyData.int) ill_38), .d (PyData.int fewest_47), .d ((eT (eT PyData.int)) due_58), .d (PyData.int two_65), .u, .u, .u, .u]) (v := (q_63.1 : Int)) fun two_65 e_two_65 => ?_
          have hok := let_ok hok two_65 e_two_65
          obtain ⟨hs_66, hok⟩ := hok
          refine jb_ifr (jt_not (jt_v (je_call' (ok_same X 0) (PyData.int (by_two_rounds two_65), PyData.int (gI ([(1 : Int), (3 : Int), (9 : Int), (27 : Int), (81 : Int), (243 : Int)] : (List Int)) two_65)) X.o_same.m X.o_same.F.kp X.o_same.b (ja_cons (je_call' (d := PyData.int (by_two_rounds two_65)) (ok_by_two_rounds X) (two_65) X.o_by_two_rounds.m X.o_by_two_rounds.F.kp X.o_by_two_rounds.b (ja_cons (je_var 9) ja_nil) hs_66.1) (ja_cons (je_ixL' (enc := PyData.int) (j2d (je_fz (je_lst (ja_cons je_int (ja_cons je_int (ja_cons je_int (ja_cons je_int (ja_cons je_int (ja_cons je_int ja_nil)))))))) (je_var 9)) hs_66.2) ja_nil)) (sp_int (by_two_rounds two_65) (gI ([(1 : Int), (3 : Int), (9 : Int), (27 : Int), (81 : Int), (243 : Int)] : (List Int)) two_65)) (hq := same_q sm_int (by_two_rounds two_65) (gI ([(1 : Int), (3 : Int), (9 : Int), (27 : Int), (81 : Int), (243 : Int)] : (List Int)) two_65))))) (fun hc_67 => ?_) (fun hc_67 => ?_)
          · have hok := hok.1 hc_67
            have hs_68 := hok
            exact jb_ret je_bl (by walk_at "le")
          · have hok := hok.2 hc_67
            obtain ⟨hs_69, hok⟩ := hok
            refine jb_cons (js_set 10 nd (je_fz (je_lst (ja_cons (je_fz (je_listT (xs := plan_19.map (eT PyData.int)) rfl X.m_list (je_b (je_var 4)))) (ja_cons je_non (ja_cons (je_catT' (enc := eD) (j2d (je_anyTd (enc := (eT PyData.int)) (xs := plan_19) (je_var 4)) (je_tup (ja_cons (je_fz (je_lst (ja_cons je_int ja_nil))) ja_nil))) hs_69.1) (ja_cons (je_catT' (enc := eD) (j2d (je_anyTd (enc := (eT PyData.int)) (xs := plan_19) (je_var 4)) (je_tup (ja_cons (je_tup (ja_cons (je_var 2) ja_nil)) ja_nil))) hs_69.2.1) (ja_cons (je_catT' (enc := eD) (j2d (je_anyTd (enc := (eT PyData.int)) (xs := plan_19) (je_var 4)) (je_tup (ja_cons (je_tup (ja_cons (je_neg je_int) ja_nil)) ja_nil))) hs_69.2.2.1) (ja_cons (je_catT' (enc := eD) (j2d (je_anyTd (enc := (eT PyData.int)) (xs := plan_19) (je_var 4)) (je_tup (ja_cons (je_tup (ja_cons je_int (ja_cons je_int ja_nil))) ja_nil))) hs_69.2.2.2.1) (ja_cons (je_catT' (enc := eD) (j2d (je_anyTd (enc := (eT PyData.int)) (xs := plan_19) (je_var 4)) (je_tup (ja_cons (je_tup (ja_cons je_bl ja_nil)) ja_nil))) hs_69.2.2.2.2.1) (ja_cons (je_catT' (enc := eD) (j2d (je_anyTd (enc := (eT PyData.int)) (xs := plan_19) (je_var 4)) (je_tup (ja_cons (je_tup (ja_cons (je_str) ja_nil)) ja_nil))) hs_69.2.2.2.2.2.1) (ja_cons (je_repTu (enc := (eT PyData.int)) (j2d (je_tup (ja_cons (je_tup ja_nil) ja_nil)) je_int) hs_69.2.2.2.2.2.2.1) (ja_cons (je_catT' (enc := eD) (j2d (je_anyTd (enc := (eT PyData.int)) (xs := plan_19) (je_var 4)) (je_tup (ja_cons je_non ja_nil))) hs_69.2.2.2.2.2.2.2) ja_nil))))))))))))) ?_
            refine jb_let (F := fun wrong_70 : (List PyData) => [.d (.dict [(.none, .list (script.map .int))]), .o none (drD q_63.2), .d (PyData.int bottles_6), .d (PyData.int tasters_7), .d ((eT (eT PyData.int)) plan_19), .d ((eL (eT PyData.int)) sets_27), .d ((eT PyData.int) ill_38), .d (PyData.int fewest_47), .d ((eT (eT PyData.int)) due_58), .d (PyData.int two_65), .d ((eL eD) wrong_70), .u, .u, .u]) (v := (([((eL (eT PyData.int)) plan_19), PyData.none, ((eT eD) ((plan_19.map (eT PyData.int)) ++ ([((eL PyData.int) ([(0 : Int)] : (List Int)))] : (List PyData)))), ((eT eD) ((plan_19.map (eT PyData.int)) ++ ([((eP1 PyData.int) (bottles_6))] : (List PyData)))), ((eT eD) ((plan_19.map (eT PyData.int)) ++ ([((eP1 PyData.int) ((-(1 : Int))))] : (List PyData)))), ((eT eD) ((plan_19.map (eT PyData.int)) ++ ([((eP2 PyData.int PyData.int) ((0 : Int), (0 : Int)))] : (List PyData)))), ((eT eD) ((plan_19.map (eT PyData.int)) ++ ([((eP1 PyData.bool) (true))] : (List PyData)))), ((eT eD) ((plan_19.map (eT PyData.int)) ++ ([((eP1 PyData.str) (("0" : Str)))] : (List PyData)))), ((eT (eT PyData.int)) (repX ([([] : (List Int))] : (List (List Int))) (9 : Int))), ((eT eD) ((plan_19.map (eT PyData.int)) ++ ([PyData.none] : (List PyData))))] : (List PyData)) : (List PyData))) fun wrong_70 e_wrong_70 => ?_
            have hok := let_ok hok wrong_70 e_wrong_70
            refine jb_pre fun q_71 e_q_71 => ?_
            have hok := let_ok hok q_71 e_q_71
            refine jb_pre fun q_72 e_q_72 => ?_
            have hok := let_ok hok q_72 e_q_72
            have hs_76 := hok
            exact jb_ret (je_andU (e2 := [.d (.dict [(.none, .list (script.map .int))]), .u, .d (PyData.int bottles_6), .d (PyData.int tasters_7), .d ((eT (eT PyData.int)) plan_19), .d ((eL (eT PyData.int)) sets_27), .d ((eT PyData.int) ill_38), .d (PyData.int fewest_47), .d ((eT (eT PyData.int)) due_58), .d (PyData.int two_65), .d ((eL eD) wrong_70), .u, .u, .u]) (je_c (cj_isB (j2d (je_call' (d := PyData.bool (is_plan bottles_6 ((eT (eT PyData.int)) plan_19))) (ok_is_plan X) (bottles_6, ((eT (eT PyData.int)) plan_19)) X.o_is_plan.m X.o_is_plan.F.kp X.o_is_plan.b (ja_cons (je_var 2) (ja_cons (je_var 4) ja_nil)) hs_76.1) je_bl))) (fun hc_75 => (je_andU (e2 := [.d (.dict [(.none, .list (script.map .int))]), .u, .d (PyData.int bottles_6), .d (PyData.int tasters_7), .d ((eT (eT PyData.int)) plan_19), .d ((eL (eT PyData.int)) sets_27), .d ((eT PyData.int) ill_38), .d (PyData.int fewest_47), .d ((eT (eT PyData.int)) due_58), .d (PyData.int two_65), .d ((eL eD) wrong_70), .u, .u, .u]) (je_c (cj_isB (j2d (je_call' (d := PyData.bool (is_plan bottles_6 ((eT (eT PyData.int)) (repX ([([] : (List Int))] : (List (List Int))) (8 : Int))))) (ok_is_plan X) (bottles_6, ((eT (eT PyData.int)) (repX ([([] : (List Int))] : (List (List Int))) (8 : Int)))) X.o_is_plan.m X.o_is_plan.F.kp X.o_is_plan.b (ja_cons (je_var 2) (ja_cons (je_repTu (enc := (eT PyData.int)) (j2d (je_tup (ja_cons (je_tup ja_nil) ja_nil)) je_int) (hs_76.2 hc_75).1) ja_nil)) (hs_76.2 hc_75).2.1) je_bl))) (fun hc_74 => (je_andU (e2 := [.d (.dict [(.none, .list (script.map .int))]), .u, .d (PyData.int bottles_6), .d (PyData.int tasters_7), .d ((eT (eT PyData.int)) plan_19), .d ((eL (eT PyData.int)) sets_27), .d ((eT PyData.int) ill_38), .d (PyData.int fewest_47), .d ((eT (eT PyData.int)) due_58), .d (PyData.int two_65), .d ((eL eD) wrong_70), .u, .u, .u]) (je_c (cj_isB (j2d (je_call' (d := PyData.bool (is_plan bottles_6 (gI wrong_70 q_71.1))) (ok_is_plan X) (bottles_6, (gI wrong_70 q_71.1)) X.o_is_plan.m X.o_is_plan.F.kp X.o_is_plan.b (ja_cons (je_var 2) (ja_cons (je_ixL' (enc := eD) (j2d (je_var 10) (je_callO' 1 (d := .int q_71.1) (e2 := [.d (.dict [(.none, .list (script.map .int))]), .o none (drD q_71.2), .d (PyData.int bottles_6), .d (PyData.int tasters_7), .d ((eT (eT PyData.int)) plan_19), .d ((eL (eT PyData.int)) sets_27), .d ((eT PyData.int) ill_38), .d (PyData.int fewest_47), .d ((eT (eT PyData.int)) due_58), .d (PyData.int two_65), .d ((eL eD) wrong_70), .u, .u, .u]) (ok_next X) (q_63.2, (10 : Int)) X.o_next.m X.o_next.F.kp X.o_next.b (ja_cons je_int ja_nil) (show drN (10 : Int) from ⟨by decide, by decide⟩) (hq := by subst e_q_71; rfl) (he := by subst e_q_71; rfl))) ((hs_76.2 hc_75).2.2 hc_74).1) ja_nil)) ((hs_76.2 hc_75).2.2 hc_74).2.1) je_bl))) (fun hc_73 => (je_oneU (e2 := [.d (.dict [(.none, .list (script.map .int))]), .u, .d (PyData.int bottles_6), .d (PyData.int tasters_7), .d ((eT (eT PyData.int)) plan_19), .d ((eL (eT PyData.int)) sets_27), .d ((eT PyData.int) ill_38), .d (PyData.int fewest_47), .d ((eT (eT PyData.int)) due_58), .d (PyData.int two_65), .d ((eL eD) wrong_70), .u, .u, .u]) (je_callO' 1 (d := PyData.bool q_72.1) (e2 := [.d (.dict [(.none, .list (script.map .int))]), .o none (drD q_72.2), .d (PyData.int bottles_6), .d (PyData.int tasters_7), .d ((eT (eT PyData.int)) plan_19), .d ((eL (eT PyData.int)) sets_27), .d ((eT PyData.int) ill_38), .d (PyData.int fewest_47), .d ((eT (eT PyData.int)) due_58), .d (PyData.int two_65), .d ((eL eD) wrong_70), .u, .u, .u]) (ok_law_hats X) (q_71.2) X.o_law_hats.m X.o_law_hats.F.kp X.o_law_hats.b ja_nil (((hs_76.2 hc_75).2.2 hc_74).2.2 hc_73) (hq := by subst e_q_72; rfl) (he := by subst e_q_72; rfl)) (by walk_at "le"))) (by walk_at "le"))) (by walk_at "le"))) (by walk_at "le")) (by walk_at "le")
end
end K18
namespace K18
open PySem L2 PySem.Spec PyProof.Rows J
instance (n : Nat) (i : Int) : Decidable (J.inR n i) := by unfold J.inR; infer_instance
instance (i : Int) : Decidable (rg1 i) := by unfold rg1; infer_instance
instance (i j : Int) : Decidable (rg2 i j) := by unfold rg2; infer_instance
instance (i j : Int) : Decidable (CMul i j) := by unfold CMul; infer_instance
instance (i j : Int) : Decidable (CDivN i j) := by unfold CDivN; infer_instance
instance (i : Int) : Decidable (drN i) := by unfold drN; infer_instance
/-! loops, counted out -/
def fchk {L α : Type} (f : L → α → L) (p : L → α → Bool) : L → List α → Bool
  | _, [] => true
  | l, x :: xs => p l x && fchk f p (f l x) xs
theorem fchk_ok {L α : Type} {f : L → α → L} {p : L → α → Bool} : ∀ {xs : List α} {l0 : L}, fchk f p l0 xs = true → ∀ (i : Nat) (x : α) (l : L), xs[i]? = some x → l = (xs.take i).foldl f l0 → p l x = true
  | [], _, _ => fun i x l hx _ => by simp at hx
  | y :: ys, l0, h => by
    rw [fchk, Bool.and_eq_true] at h
    intro i x l hx hl
    cases i with
    | zero =>
      have : y = x := by simpa using hx
      subst this
      rw [hl]; exact h.1
    | succ i => exact fchk_ok h.2 i x l (by simpa using hx) (by rw [hl]; rfl)
def iter {L : Type} (step : L → L) : Nat → L → L
  | 0, l => l
  | n + 1, l => step (iter step n l)
theorem reach_fin {L : Type} {c : L → Bool} {step : L → L} {l0 : L} (N : Nat) (hc : c (iter step N l0) = false) : ∀ l, Reach (ρ := PyData) c (fun l => .inl (step l)) l0 l → ∃ n, n ≤ N ∧ l = iter step n l0 := fun l h => by
  induction h with
  | z => exact ⟨0, Nat.zero_le _, rfl⟩
  | @s l l' r c1 e ih =>
    cases e
    obtain ⟨n, hn, rfl⟩ := ih
    refine ⟨n + 1, ?_, rfl⟩
    by_cases q : n = N
    · subst q; rw [hc] at c1; cases c1
    · omega
theorem iter_in {L : Type} (step : L → L) : ∀ (n : Nat) (l : L), iter step n (step l) = iter step (n + 1) l
  | 0, _ => rfl
  | n + 1, l => by rw [iter, iter_in step n l]; rfl
theorem ends_fin {L : Type} {c : L → Bool} {step : L → L} : ∀ (N fuel : Nat) (l0 : L), N < fuel → c (iter step N l0) = false → whileEnds (ρ := PyData) c (fun l => .inl (step l)) fuel l0
  | 0, fuel + 1, l0, _, hc => by
    intro c1
    rw [show c l0 = false from hc] at c1; cases c1
  | N + 1, fuel + 1, l0, hf, hc => by
    intro _ l' e
    cases e
    exact ends_fin N fuel _ (by omega) (by rw [iter_in]; exact hc)
/-- a while: it stops within 20 turns and all states till then are good -/
def wchk {L : Type} (c : L → Bool) (step : L → L) (p : L → Bool) (l0 : L) : Bool := (List.range 20).any fun N => !(c (iter step N l0)) && (List.range (N + 1)).all fun n => p (iter step n l0)
theorem wchk_ok {L : Type} {c : L → Bool} {step : L → L} {p : L → Bool} {l0 : L} (h : wchk c step p l0 = true) : whileEnds (ρ := PyData) c (fun l => .inl (step l)) J.fuel l0 ∧ ∀ l, Reach (ρ := PyData) c (fun l => .inl (step l)) l0 l → p l = true := by
  obtain ⟨N, hN, h⟩ := List.any_eq_true.mp h
  rw [Bool.and_eq_true, Bool.not_eq_true'] at h
  have hN := List.mem_range.mp hN
  refine ⟨ends_fin N _ _ (by rw [fuel_eq]; omega) h.1, fun l hl => ?_⟩
  obtain ⟨n, hn, rfl⟩ := reach_fin N h.1 l hl
  exact List.all_eq_true.mp h.2 n (List.mem_range.mpr (by omega))
/-! ### hats -/
def rowsG (g : Int) : List (List Int) := (rgI 0 g).foldl (law_hats_s_28 g) [[]]
def luckG (g : Int) : List Int := (rowsG g).map fun x_34 : (List Int) => ((((rgI 0 g).filter fun x_35 : Int => (decide ((gI x_34 x_35) = x_35))).map fun x_35 : Int => x_35).length : Int)
def toldG (g : Int) (row : List Int) : List (List Int) × List Int := (rgI 0 (13 : Int)).foldl (law_hats_s_68 row) ([], rgI 0 g)
def leastL (t : List (List Int) × List Int) : List Int := ((rgI (1 : Int) (13 : Int)).filter fun x_77 : Int => (decide (((gI t.1 x_77) : (List Int)) = (gI t.1 (0 : Int))))).map fun x_77 : Int => x_77
def ringL (g : Int) (t : List (List Int) × List Int) : List (List Int) := (rgI 0 g).foldl (law_hats_s_107 g t) []
def chkH (n : Nat) : Bool :=
  let g : Int := n
  let R := rowsG g
  (rgI 0 6).all (fun k => decide (count_lucky g k = cntL (luckG g) k)) && (decide (chance_of_none g = law_low (cntL (luckG g) 0) (R.length : Int)) && (decide (0 < R.length) && (decide (R.length ≤ 24) &&
    R.all fun row =>
      let t := toldG g row
      (rgI 0 5).all (fun k => decide (applied row k = gI t.1 k)) && (decide (least_times row = gI (leastL t) 0) && (decide (rings row = ringL g t) && (decide (row.length = n) && (row.all fun x => decide (0 ≤ x) && decide (x < g))))))))
theorem chk_h : ((List.range 5).all chkH) = true := by decide +kernel
end K18
namespace K18
open PySem L2 PySem.Spec PyProof.Rows J
instance (g : Int) (l : List (List Int)) (x : List Int) : Decidable (law_hats_s_19_ok g l x) := by unfold law_hats_s_19_ok Let; infer_instance
instance (m l x : Int) : Decidable (choose_s_13_ok m l x) := by unfold choose_s_13_ok Let; infer_instance
instance (l : Int × Int) (x : Int) : Decidable (none_lucky_s_11_ok l x) := by unfold none_lucky_s_11_ok Let; infer_instance
instance (l x : Int) : Decidable (chance_of_none_s_9_ok l x) := by unfold chance_of_none_s_9_ok Let; infer_instance
instance (row l : List Int) (x : Int) : Decidable (applied_s_12_ok row l x) := by unfold applied_s_12_ok Let; infer_instance
instance (row : List Int) (l : List Int × List Int × Int) : Decidable (rings_s_18_ok row l) := by unfold rings_s_18_ok Let; infer_instance
instance (l : List Int × List (List Int)) (r : List Int × List Int × Int) : Decidable (rings_t_30_ok l r) := by unfold rings_t_30_ok Let; infer_instance
instance (row : List Int) (l : List (List Int) × List Int) (x : Int) : Decidable (law_hats_s_68_ok row l x) := by unfold law_hats_s_68_ok Let; infer_instance
instance (t : List (List Int) × List Int) (y : Int) (l : List Int) (x : Int) : Decidable (law_hats_s_97_ok t y l x) := by unfold law_hats_s_97_ok Let; infer_instance
/-! Bool mirrors of the side conditions with loops -/
def b28 (g : Int) (l : List (List Int)) (x : Int) : Bool := fchk (law_hats_s_19 g) (fun l x => decide (law_hats_s_19_ok g l x)) [] l
theorem b28_ok {g : Int} {l : List (List Int)} {x : Int} (h : b28 g l x = true) : law_hats_s_28_ok g l x := by
  unfold law_hats_s_28_ok
  exact let_p fun lo elo => ⟨fun i y m hy hm => of_decide_eq_true (fchk_ok h i y m hy (by rw [hm, elo])), trivial⟩
def bchoose (m k : Int) : Bool := decide (rg1 k) && fchk (choose_s_13 m) (fun l x => decide (choose_s_13_ok m l x)) 1 (rgI 0 k)
theorem bchoose_ok {m k : Int} (h : bchoose m k = true) : choose_ok m k := by
  unfold bchoose at h
  rw [Bool.and_eq_true, decide_eq_true_eq] at h
  unfold choose_ok
  exact ⟨fun _ => trivial, fun _ => let_p fun f ef => ⟨h.1, fun i y m hy hm => of_decide_eq_true (fchk_ok h.2 i y m hy (by rw [hm, ef])), trivial⟩⟩
def bnone (g : Int) : Bool := decide (rg2 1 (g + 1)) && fchk none_lucky_s_11 (fun l x => decide (none_lucky_s_11_ok l x)) (0, 1) (rgI 1 (g + 1))
theorem bnone_ok {g : Int} (h : bnone g = true) : none_lucky_ok g := by
  unfold bnone at h
  rw [Bool.and_eq_true, decide_eq_true_eq] at h
  unfold none_lucky_ok
  exact let_p fun a ea => let_p fun b eb => ⟨h.1, fun i y m hy hm => of_decide_eq_true (fchk_ok h.2 i y m hy (by rw [hm, ea, eb])), trivial⟩
def bcount (g k : Int) : Bool := !(decide (k ≤ g)) || (bchoose g k && (bnone (g - k) && decide (CMul (choose g k) (none_lucky (g - k)))))
theorem bcount_ok {g k : Int} (h : bcount g k = true) : count_lucky_ok g k := by
  unfold count_lucky_ok
  intro q
  unfold bcount at h
  rw [q] at h
  simp only [Bool.not_true, Bool.false_or, Bool.and_eq_true, decide_eq_true_eq] at h
  exact ⟨bchoose_ok h.1, bnone_ok h.2.1, h.2.2⟩
def bratio (a b : Int) : Bool := decide (0 ≤ b) && (decide (CDivN a (gcdI a b)) && decide (CDivN b (gcdI a b)))
theorem bratio_ok {a b : Int} (h : bratio a b = true) : ratio_ok a b := by
  unfold bratio at h
  simp only [Bool.and_eq_true, decide_eq_true_eq] at h
  unfold ratio_ok
  refine ⟨fun _ => trivial, fun _ => trivial, let_p fun l el => let_p fun c ec => ?_⟩
  have e : l = (a, b) := by rw [← el, if_neg (by simp; omega)]; rfl
  subst e
  subst ec
  exact h.2
def bchance (g : Int) : Bool := decide (rg2 1 (g + 1)) && (fchk chance_of_none_s_9 (fun l x => decide (chance_of_none_s_9_ok l x)) 1 (rgI 1 (g + 1)) && (bnone g && bratio (none_lucky g) ((rgI 1 (g + 1)).foldl chance_of_none_s_9 1)))
theorem bchance_ok {g : Int} (h : bchance g = true) : chance_of_none_ok g := by
  unfold bchance at h
  simp only [Bool.and_eq_true, decide_eq_true_eq] at h
  unfold chance_of_none_ok
  exact let_p fun a ea => ⟨h.1, fun i y m hy hm => of_decide_eq_true (fchk_ok h.2.1 i y m hy (by rw [hm, ea])), let_p fun l el => ⟨bnone_ok h.2.2.1, by subst ea el; exact bratio_ok h.2.2.2⟩⟩
def blow (a b : Int) : Bool := decide (0 ≤ b) && (wchk law_low_c_15 law_low_s_19 (fun _ => true) (iabs a, b) && (decide (CDivN a (whileL law_low_c_15 law_low_s_19 J.fuel (iabs a, b)).1) && decide (CDivN b (whileL law_low_c_15 law_low_s_19 J.fuel (iabs a, b)).1)))
theorem blow_ok {a b : Int} (h : blow a b = true) : law_low_ok a b := by
  unfold blow at h
  simp only [Bool.and_eq_true, decide_eq_true_eq] at h
  unfold law_low_ok
  refine ⟨fun _ => trivial, fun _ => trivial, let_p fun l el => let_p fun o eo => let_p fun t et => ?_⟩
  have e : l = (a, b) := by rw [← el, if_neg (by simp; omega)]; rfl
  subst e
  subst eo et
  refine ⟨(wchk_ok h.2.1).1, fun _ _ => trivial, fun l _ c => ⟨?_, trivial⟩, let_p fun z ez => ?_⟩
  · have c := of_decide_eq_true c
    omega
  · subst ez; exact h.2.2
def bapp (row : List Int) (k : Int) : Bool := decide (rg1 (row.length : Int)) && (decide (rg1 k) && fchk (applied_s_12 row) (fun l x => decide (applied_s_12_ok row l x)) (rgI 0 (row.length : Int)) (rgI 0 k))
theorem bapp_ok {row : List Int} {k : Int} (h : bapp row k = true) : applied_ok row k := by
  unfold bapp at h
  simp only [Bool.and_eq_true, decide_eq_true_eq] at h
  unfold applied_ok
  exact ⟨h.1, let_p fun n en => ⟨h.2.1, fun i y m hy hm => of_decide_eq_true (fchk_ok h.2.2 i y m hy (by rw [hm, en])), trivial⟩⟩
def bleast (row : List Int) : Bool := wchk (least_times_c_4 row) least_times_s_7 (fun l => bapp row l) 1
theorem bleast_ok {row : List Int} (h : bleast row = true) : least_times_ok row := by
  obtain ⟨a, b⟩ := wchk_ok h
  unfold least_times_ok
  refine let_p fun t et => ?_
  subst et
  refine ⟨a, fun l hl => ?_, fun _ _ _ => trivial, trivial⟩
  have q := b l hl
  refine ⟨bapp_ok q, ?_⟩
  unfold bapp at q
  simp only [Bool.and_eq_true, decide_eq_true_eq] at q
  exact q.1
def bring (row : List Int) (l : List Int × List (List Int)) (x : Int) : Bool := wchk rings_c_11 (rings_s_18 row) (fun s => decide (rings_s_18_ok row s)) (l.1, [], x) && decide (rings_t_30_ok l (whileL rings_c_11 (rings_s_18 row) J.fuel (l.1, [], x)))
theorem bring_ok {row : List Int} {l : List Int × List (List Int)} {x : Int} (h : bring row l x = true) : rings_s_36_ok row l x := by
  unfold bring at h
  simp only [Bool.and_eq_true, decide_eq_true_eq] at h
  obtain ⟨a, b⟩ := wchk_ok h.1
  unfold rings_s_36_ok
  refine let_p fun r er => ?_
  subst er
  refine ⟨a, fun _ _ => trivial, fun s hs _ => of_decide_eq_true (b s hs), let_p fun z ez => ⟨fun _ => ?_, fun _ => trivial, trivial⟩⟩
  subst ez; exact h.2
def brings (row : List Int) : Bool := decide (rg1 (row.length : Int)) && fchk (rings_s_36 row) (bring row) ([], []) (rgI 0 (row.length : Int))
theorem brings_ok {row : List Int} (h : brings row = true) : rings_ok row := by
  unfold brings at h
  simp only [Bool.and_eq_true, decide_eq_true_eq] at h
  unfold rings_ok
  exact let_p fun a ea => let_p fun b eb => ⟨h.1, fun i y m hy hm => bring_ok (fchk_ok h.2 i y m hy (by rw [hm, ea, eb])), trivial⟩
def b107 (g : Int) (t : List (List Int) × List Int) (l : List (List Int)) (x : Int) : Bool :=
  let r := (rgI 0 g).foldl (law_hats_s_97 t x) []
  decide (rg1 g) && (fchk (law_hats_s_97 t x) (fun l y => decide (law_hats_s_97_ok t x l y)) [] (rgI 0 g) && (!r.isEmpty && decide (l.length + (if (decide ((pyMin PyData.int r) = x)) = true then ([r] : (List (List Int))) else ([] : (List (List Int)))).length ≤ 16777216)))
theorem b107_ok {g : Int} {t : List (List Int) × List Int} {l : List (List Int)} {x : Int} (h : b107 g t l x = true) : law_hats_s_107_ok g t l x := by
  unfold b107 at h
  simp only [Bool.and_eq_true, decide_eq_true_eq] at h
  unfold law_hats_s_107_ok
  refine let_p fun r er => ⟨h.1, fun i y m hy hm => of_decide_eq_true (fchk_ok h.2.1 i y m hy (by rw [hm, er])), let_p fun z ez => ⟨⟨fun e => ?_, ?_⟩, trivial⟩⟩
  · have := h.2.2.1
    subst er
    rw [ez, e] at this; cases this
  · subst er ez
    show l.length + (if decide (pyMin PyData.int ((rgI 0 g).foldl (law_hats_s_97 t x) []) = x) = true then [(rgI 0 g).foldl (law_hats_s_97 t x) []] else []).length ≤ 16777216
    simp only [decide_eq_true_eq]
    exact h.2.2.2
def chkO (n : Nat) : Bool :=
  let g : Int := n
  let R := rowsG g
  fchk (law_hats_s_28 g) (b28 g) [[]] (rgI 0 g) && ((rgI 0 6).all (fun k => bcount g k) && (bchance g && (blow (cntL (luckG g) 0) (R.length : Int) &&
    R.all fun row =>
      let t := toldG g row
      fchk (law_hats_s_68 row) (fun l x => decide (law_hats_s_68_ok row l x)) ([], rgI 0 g) (rgI 0 13) && ((rgI 0 5).all (fun k => bapp row k) && (bleast row && (decide (t.1.length = 13) && (!(leastL t).isEmpty && (fchk (law_hats_s_107 g t) (b107 g t) [] (rgI 0 g) && brings row))))))))
theorem chk_o : ((List.range 5).all chkO) = true := by decide +kernel
end K18
namespace K18
open PySem L2 PySem.Spec PyProof.Rows J
theorem let_m {α β : Type} {P : β → Prop} {v : α} {f : α → β} (h : ∀ x, v = x → P (f x)) : P (Let v f) := h v rfl
theorem all_rg {lo hi : Int} {p : Int → Bool} (h : (rgI lo hi).all p = true) {k : Int} (a : lo ≤ k) (b : k < hi) : p k = true := List.all_eq_true.mp h k (rgI_mem_iff.mpr ⟨a, b⟩)
/-! ### hats -/
structure HatF (g : Int) : Prop where
  luck : ∀ k, 0 ≤ k → k < 6 → count_lucky g k = cntL (luckG g) k
  none_ : chance_of_none g = law_low (cntL (luckG g) 0) ((rowsG g).length : Int)
  pos : 0 < (rowsG g).length
  few : (rowsG g).length ≤ 24
  app : ∀ row ∈ rowsG g, ∀ k, 0 ≤ k → k < 5 → applied row k = gI (toldG g row).1 k
  least : ∀ row ∈ rowsG g, least_times row = gI (leastL (toldG g row)) 0
  ring : ∀ row ∈ rowsG g, rings row = ringL g (toldG g row)
  len : ∀ row ∈ rowsG g, (row.length : Int) = g
theorem hat {g : Int} (h : 0 ≤ g ∧ g < 5) : HatF g := by
  obtain ⟨n, rfl⟩ := Int.eq_ofNat_of_zero_le h.1
  have h1 := List.all_eq_true.mp chk_h n (List.mem_range.mpr (by omega))
  unfold chkH at h1
  simp only [Bool.and_eq_true, decide_eq_true_eq] at h1
  obtain ⟨q1, q2, q3, q4, q5⟩ := h1
  have q5 := List.all_eq_true.mp q5
  have q5' : ∀ row ∈ rowsG (n : Int), _ := fun row hr => by
    have q := q5 row hr
    simp only [Bool.and_eq_true, decide_eq_true_eq] at q
    exact q
  exact ⟨fun k a b => of_decide_eq_true (all_rg q1 a b), q2, q3, q4, fun row hr k a b => of_decide_eq_true (all_rg (q5' row hr).1 a b), fun row hr => (q5' row hr).2.1, fun row hr => (q5' row hr).2.2.1, fun row hr => by rw [(q5' row hr).2.2.2.1]⟩
theorem hats_true (d : Dr) : (law_hats d).1 = true := by
  unfold law_hats
  refine let_m (P := fun z : Bool × Dr => z.1 = true) fun q1 h1 => let_m (P := fun z : Bool × Dr => z.1 = true) fun g hg => let_m (P := fun z : Bool × Dr => z.1 = true) fun r0 hr0 => let_m (P := fun z : Bool × Dr => z.1 = true) fun R hR => let_m (P := fun z : Bool × Dr => z.1 = true) fun luck hl => let_m (P := fun z : Bool × Dr => z.1 = true) fun q42 h42 => let_m (P := fun z : Bool × Dr => z.1 = true) fun lucky hlu => ?_
  have gb : 0 ≤ g ∧ g < 5 := by subst hg h1; exact ⟨nxt_lo (by decide), nxt_hi (by decide)⟩
  have lb : 0 ≤ lucky ∧ lucky < 6 := by subst hlu h42; exact ⟨nxt_lo (by decide), nxt_hi (by decide)⟩
  have H := hat gb
  have eR : rowsG g = R := by subst hr0; exact hR
  have el : luckG g = luck := by rw [← hl, ← eR]; rfl
  rw [if_neg (by rw [H.luck lucky lb.1 lb.2, H.none_, el, eR]; simp)]
  refine let_m (P := fun z : Bool × Dr => z.1 = true) fun q49 h49 => let_m (P := fun z : Bool × Dr => z.1 = true) fun q50 h50 => let_m (P := fun z : Bool × Dr => z.1 = true) fun row hrow => let_m (P := fun z : Bool × Dr => z.1 = true) fun tm htm => let_m (P := fun z : Bool × Dr => z.1 = true) fun now hnow => let_m (P := fun z : Bool × Dr => z.1 = true) fun t0 ht0 => let_m (P := fun z : Bool × Dr => z.1 = true) fun t ht => ?_
  have tb : 0 ≤ tm ∧ tm < 5 := by subst htm h50; exact ⟨nxt_lo (by decide), nxt_hi (by decide)⟩
  have pos := H.pos
  rw [eR] at pos
  have rin : row ∈ rowsG g := by
    subst hrow h49
    rw [eR]
    exact gI_mem (pick_in _ pos)
  have et : toldG g row = t := by subst hnow ht0; exact ht
  rw [if_neg (by rw [H.app row rin tm tb.1 tb.2, et]; simp)]
  rw [if_neg (by rw [H.least row rin, et]; show ¬ ((!(decide (gI (leastL t) 0 = gI (leastL t) 0))) = true); simp)]
  refine let_m (P := fun z : Bool × Dr => z.1 = true) fun f0 hf0 => let_m (P := fun z : Bool × Dr => z.1 = true) fun fo hfo => ?_
  show decide (rings row = fo) = true
  rw [decide_eq_true_eq, H.ring row rin, et]
  subst hf0; exact hfo
structure HatO (g : Int) : Prop where
  a : fchk (law_hats_s_28 g) (b28 g) [[]] (rgI 0 g) = true
  b : ∀ k, 0 ≤ k → k < 6 → bcount g k = true
  c : bchance g = true
  d : blow (cntL (luckG g) 0) ((rowsG g).length : Int) = true
  r : ∀ row ∈ rowsG g, fchk (law_hats_s_68 row) (fun l x => decide (law_hats_s_68_ok row l x)) ([], rgI 0 g) (rgI 0 13) = true ∧ (∀ k, 0 ≤ k → k < 5 → bapp row k = true) ∧ bleast row = true ∧ (toldG g row).1.length = 13 ∧ leastL (toldG g row) ≠ [] ∧ fchk (law_hats_s_107 g (toldG g row)) (b107 g (toldG g row)) [] (rgI 0 g) = true ∧ brings row = true
theorem hatO {g : Int} (h : 0 ≤ g ∧ g < 5) : HatO g := by
  obtain ⟨n, rfl⟩ := Int.eq_ofNat_of_zero_le h.1
  have h1 := List.all_eq_true.mp chk_o n (List.mem_range.mpr (by omega))
  unfold chkO at h1
  simp only [Bool.and_eq_true] at h1
  obtain ⟨q1, q2, q3, q4, q5⟩ := h1
  have q5 := List.all_eq_true.mp q5
  refine ⟨q1, fun k a b => all_rg q2 a b, q3, q4, fun row hr => ?_⟩
  have q := q5 row hr
  simp only [Bool.and_eq_true] at q
  obtain ⟨r1, r2, r3, r4, r5, r6, r7⟩ := q
  refine ⟨r1, fun k a b => all_rg r2 a b, r3, of_decide_eq_true r4, fun e => ?_, r6, r7⟩
  rw [e] at r5; cases r5
theorem in_of {n : Nat} {i : Int} (h0 : 0 ≤ i) (h1 : i < n) : J.inR n i := ⟨by omega, h1⟩
theorem hats_k (d : Dr) : law_hats_ok d := by
  unfold law_hats_ok
  refine let_p fun q1 h1 => let_p fun g hg => let_p fun r0 hr0 => ?_
  have gb : 0 ≤ g ∧ g < 5 := by subst hg h1; exact ⟨nxt_lo (by decide), nxt_hi (by decide)⟩
  have H := hat gb
  have O := hatO gb
  subst hr0
  refine ⟨by unfold rg1; omega, fun i x l hx hl => b28_ok (fchk_ok O.a i x l hx hl), let_p fun R hR => ?_⟩
  have eR : rowsG g = R := hR
  have few := H.few
  have pos := H.pos
  rw [eR] at few pos
  refine ⟨fun row hr => ⟨by unfold rg1; omega, fun x hx => ?_⟩, let_p fun luck hl => let_p fun q42 h42 => let_p fun lucky hlu => ?_⟩
  · have hx := rgI_mem_iff.mp hx
    have := H.len row (by rw [eR]; exact hr)
    exact in_of hx.1 (by omega)
  have el : luckG g = luck := by rw [← hl, ← eR]; rfl
  have lb : 0 ≤ lucky ∧ lucky < 6 := by subst hlu h42; exact ⟨nxt_lo (by decide), nxt_hi (by decide)⟩
  have od := O.d
  rw [el, eR] at od
  refine ⟨⟨bcount_ok (O.b lucky lb.1 lb.2), fun _ => ⟨bchance_ok O.c, blow_ok od⟩⟩, fun _ => trivial, fun _ => let_p fun q49 h49 => let_p fun q50 h50 => ?_⟩
  have i49 : J.inR R.length q49.1 := by rw [← h49]; exact pick_in _ pos
  refine ⟨⟨⟨by omega, by omega⟩, i49⟩, let_p fun row hrow => let_p fun tm htm => ⟨by unfold rg1; omega, let_p fun now hnow => let_p fun t0 ht0 => ?_⟩⟩
  have tb : 0 ≤ tm ∧ tm < 5 := by subst htm h50; exact ⟨nxt_lo (by decide), nxt_hi (by decide)⟩
  have rin : row ∈ rowsG g := by subst hrow; rw [eR]; exact gI_mem i49
  obtain ⟨r1, r2, r3, r4, r5, r6, r7⟩ := O.r row rin
  subst hnow ht0
  refine ⟨fun i x l hx hl => of_decide_eq_true (fchk_ok r1 i x l hx hl), let_p fun t ht => ?_⟩
  have et : toldG g row = t := ht
  rw [et] at r4 r5 r6
  refine ⟨⟨bapp_ok (r2 tm tb.1 tb.2), in_of tb.1 (by omega)⟩, fun _ => trivial, fun _ => ⟨⟨bleast_ok r3, by decide, fun x hx => ?_, ?_⟩, fun _ => trivial, fun _ => let_p fun f0 hf0 => ⟨by unfold rg1; omega, fun i x l hx hl => ?_, let_p fun fo hfo => brings_ok r7⟩⟩⟩
  · have hx := rgI_mem_iff.mp hx
    exact ⟨in_of (by omega) (by omega), in_of (by omega) (by omega)⟩
  · exact in_of (by decide) (by have q : 0 < (leastL t).length := List.length_pos_iff.mpr r5; show (0 : Int) < ((leastL t).length : Int); omega)
  · subst hf0
    exact b107_ok (fchk_ok r6 i x l hx hl)
end K18
namespace K18
open PySem L2 PySem.Spec PyProof.Rows J PySem.W
/-! ### bottles -/
def fewL (b : Int) : Int := gI (((rgI 0 (5 : Int)).filter fun x : Int => (decide (b ≤ (gI ([(1 : Int), (2 : Int), (4 : Int), (8 : Int), (16 : Int)] : (List Int)) x)))).map fun x : Int => x) (0 : Int)
def dueL (b : Int) : List (List Int) := (rgI 0 (fewL b)).map fun x : Int => (((rgI 0 b).filter fun y : Int => (decide ((Int.fmod (Int.fdiv y (gI ([(1 : Int), (2 : Int), (4 : Int), (8 : Int)] : (List Int)) x)) (2 : Int)) = (1 : Int)))).map fun y : Int => y)
def bfew (b : Int) : Bool := wchk (fewest_tasters_c_6 b) fewest_tasters_s_11 (fun _ => true) (1, 0)
def chkB (n : Nat) : Bool :=
  let b : Int := n
  n == 0 || (decide (fewest_tasters b = fewL b) && (decide (first_plan b = dueL b) && (is_sure b (dueL b) && (bfew b && (decide (0 ≤ fewL b) && (decide (fewL b ≤ 3) && (decide ((((rgI 0 (5 : Int)).filter fun x : Int => (decide (b ≤ (gI ([(1 : Int), (2 : Int), (4 : Int), (8 : Int), (16 : Int)] : (List Int)) x)))).map fun x : Int => x) ≠ []) &&
    fchk (first_plan_s_16 b) (fun l x => decide ((∀ y ∈ rgI 0 b, CDivN y l.2) ∧ l.1.length ≤ 100)) ([], 1) (rgI 0 (fewL b)))))))))
theorem chk_b : ((List.range 9).all chkB) = true := by decide +kernel
theorem chk_two : ((rgI 0 6).all fun k => decide (by_two_rounds k = gI ([(1 : Int), (3 : Int), (9 : Int), (27 : Int), (81 : Int), (243 : Int)] : (List Int)) k)) = true := by decide +kernel
theorem chk_div : ((rgI 0 3).all fun x => (rgI 0 8).all fun y => decide (CDivN y (gI ([(1 : Int), (2 : Int), (4 : Int), (8 : Int)] : (List Int)) x))) = true := by decide +kernel
structure BotF (b : Int) : Prop where
  few : fewest_tasters b = fewL b
  plan : first_plan b = dueL b
  sure : is_sure b (dueL b) = true
  bf : bfew b = true
  lo : 0 ≤ fewL b
  hi : fewL b ≤ 3
  ne : (((rgI 0 (5 : Int)).filter fun x : Int => (decide (b ≤ (gI ([(1 : Int), (2 : Int), (4 : Int), (8 : Int), (16 : Int)] : (List Int)) x)))).map fun x : Int => x) ≠ []
  fold : fchk (first_plan_s_16 b) (fun l x => decide ((∀ y ∈ rgI 0 b, CDivN y l.2) ∧ l.1.length ≤ 100)) ([], 1) (rgI 0 (fewL b)) = true
theorem bot {b : Int} (h : 1 ≤ b ∧ b ≤ 8) : BotF b := by
  obtain ⟨n, rfl⟩ := Int.eq_ofNat_of_zero_le (show 0 ≤ b by omega)
  have h1 := List.all_eq_true.mp chk_b n (List.mem_range.mpr (by omega))
  unfold chkB at h1
  have n0 : (n == 0) = false := by cases n with | zero => omega | succ n => rfl
  simp only [n0, Bool.false_or, Bool.and_eq_true, decide_eq_true_eq] at h1
  obtain ⟨q1, q2, q3, q4, q5, q6, q7, q8⟩ := h1
  exact ⟨q1, q2, q3, q4, q5, q6, q7, q8⟩
/-! ### plans -/
def setsL (b t : Int) (plan : List (List Int)) : List (List Int) := (rgI 0 b).map fun x => (((rgI 0 t).filter fun y : Int => (inB x (gI plan y))).map fun y : Int => y)
theorem tasters_eq (plan : List (List Int)) (x : Int) : tasters_of plan x = ((rgI 0 (plan.length : Int)).filter fun y : Int => (inB x (gI plan y))).map fun y : Int => y := by
  unfold tasters_of
  rw [enumL_eq, List.filter_map, List.map_map]
  rfl
theorem sets_eq {b t : Int} {plan : List (List Int)} (h : (plan.length : Int) = t) : (rgI 0 b).map (fun x => tasters_of plan x) = setsL b t plan := by
  unfold setsL
  refine List.map_congr_left fun x _ => ?_
  rw [tasters_eq, h]
theorem sure_eq {b t : Int} {plan : List (List Int)} (h : (plan.length : Int) = t) : is_sure b plan = decide (lenSetL (setsL b t plan) = b) := by
  unfold is_sure
  rw [sets_eq h]
theorem rgI_map_at {α : Type} (S : Int → α) (n : Nat) : (rgI 0 (n : Int)).map S = (List.range n).map fun k : Nat => S (k : Int) := by
  unfold rgI
  rw [List.map_map, show ((n : Int) - 0).toNat = n by omega]
  refine List.map_congr_left fun k _ => ?_
  show S (0 + (k : Int)) = S k
  rw [Int.zero_add]
theorem one_place {α : Type} [DecidableEq α] (S : Int → α) (x : α) {b : Int} (hb : 0 ≤ b) {k : Int} (h : ((rgI 0 b).filter fun y => decide (S y = x)) = [k]) : idxL ((rgI 0 b).map S) x = k := by
  have hk : k ∈ (rgI 0 b).filter fun y => decide (S y = x) := by rw [h]; simp
  obtain ⟨hk1, hk2⟩ := List.mem_filter.mp hk
  have hk1 := rgI_mem_iff.mp hk1
  have hk2 := of_decide_eq_true hk2
  have only : ∀ y, 0 ≤ y → y < b → S y = x → y = k := fun y y0 y1 e => by
    have : y ∈ (rgI 0 b).filter fun y => decide (S y = x) := List.mem_filter.mpr ⟨rgI_mem_iff.mpr ⟨y0, y1⟩, decide_eq_true e⟩
    rw [h] at this
    simpa using this
  obtain ⟨n, rfl⟩ := Int.eq_ofNat_of_zero_le hb
  have hm : x ∈ (rgI 0 (n : Int)).map S := List.mem_map.mpr ⟨k, rgI_mem_iff.mpr hk1, hk2⟩
  have hlt : ((rgI 0 (n : Int)).map S).findIdx (fun y => decide (y = x)) < ((rgI 0 (n : Int)).map S).length := List.findIdx_lt_length_of_exists ⟨x, hm, by simp⟩
  have hat := List.findIdx_getElem (xs := (rgI 0 (n : Int)).map S) (p := fun y => decide (y = x)) (w := hlt)
  unfold idxL
  generalize ((rgI 0 (n : Int)).map S).findIdx (fun y => decide (y = x)) = j at *
  have hj : j < n := by rw [List.length_map, rgI_len] at hlt; omega
  have e : ((rgI 0 (n : Int)).map S)[j] = S (j : Int) := by
    simp only [rgI_map_at]
    rw [List.getElem_map, List.getElem_range]
  rw [e] at hat
  exact only j (by omega) (by omega) (of_decide_eq_true hat)
theorem count_len {α : Type} [DecidableEq α] (S : Int → α) (x : α) (b : Int) : cntL ((rgI 0 b).map S) x = (((rgI 0 b).filter fun y => decide (S y = x)).length : Int) := by
  unfold cntL
  rw [List.countP_map, List.countP_eq_length_filter]
  rfl
theorem found_eq {b t : Int} {plan : List (List Int)} (hb : 0 ≤ b) (h : (plan.length : Int) = t) (ill : List Int) : found_by b plan ill = (if (decide ((cntL (setsL b t plan) ill) = (1 : Int))) = true then (some (idxL (setsL b t plan) ill)) else (none : (Option Int))) := by
  have hs : setsL b t plan = (rgI 0 b).map (fun x => tasters_of plan x) := (sets_eq h).symm
  rw [hs, count_len]
  show (if (decide ((((((rgI 0 b).filter fun x => decide (tasters_of plan x = ill)).map fun x : Int => x).length : Nat) : Int) = 1)) = true then some (gI (((rgI 0 b).filter fun x => decide (tasters_of plan x = ill)).map fun x : Int => x) 0) else none) = _
  rw [List.map_id']
  by_cases q : ((((rgI 0 b).filter fun x => decide (tasters_of plan x = ill)).length : Int)) = 1
  · rw [if_pos (by simpa using q), if_pos (by simpa using q)]
    have q' : ((rgI 0 b).filter fun x => decide (tasters_of plan x = ill)).length = 1 := by omega
    obtain ⟨k, hk⟩ := List.length_eq_one_iff.mp q'
    rw [hk, one_place (fun x => tasters_of plan x) ill hb hk]
    rfl
  · rw [if_neg (by simpa using q), if_neg (by simpa using q)]
/-! ### which things are plans -/
def badP (b : Int) (x : PyData) : Bool := (!((((dT dA) x).map fun y : PyData => (is_number y (0 : Int) (b - (1 : Int)))).all id)) || (!(is_ascending x))
theorem bad_step (b : Int) (x : PyData) : is_plan_s_19 b () x = if badP b x = true then .inr false else .inl () := rfl
theorem forR_good {α : Type} {step : Unit → α → Unit ⊕ Bool} {bad : α → Bool} (h : ∀ x, step () x = if bad x = true then .inr false else .inl ()) (xs : List α) (t : Bool) : (orR (forR step () xs) fun _ => t) = ((xs.all fun x => !bad x) && t) := by
  rw [forR_find (p := bad) (g := fun _ => false) () h]
  cases q : xs.find? bad with
  | none =>
    have : (xs.all fun x => !bad x) = true := by
      rw [List.all_eq_true]
      intro x hx
      have := List.find?_eq_none.mp q x hx
      simpa using this
    rw [this]; rfl
  | some x =>
    have : (xs.all fun x => !bad x) = false := by
      rw [List.all_eq_false]
      exact ⟨x, List.mem_of_find?_eq_some q, by simp [List.find?_some q]⟩
    rw [this]; rfl
theorem plan_tup (b : Int) (xs : List PyData) : is_plan b (.tuple xs) = (decide (xs.length ≤ 8) && ((xs.all isTup) && (xs.all fun x => !badP b x))) := by
  unfold is_plan
  rw [dTA_tup, forR_good (bad_step b)]
  have e : is_row (.tuple xs) 0 C_MOST = decide (xs.length ≤ 8) := by
    unfold is_row
    rw [dTA_tup]
    show (true && (decide ((0 : Int) ≤ (xs.length : Int)) && decide ((xs.length : Int) ≤ 8))) = _
    rw [Bool.eq_iff_iff]
    simp only [Bool.true_and, Bool.and_eq_true, decide_eq_true_eq]
    omega
  have e2 : ((xs.map fun x => isTup x).all id) = xs.all isTup := by rw [List.all_map]; rfl
  rw [e, e2]
  cases decide (xs.length ≤ 8) <;> cases xs.all isTup <;> simp
theorem plan_not {b : Int} {x : PyData} (h : isTup x = false) : is_plan b x = false := by
  unfold is_plan
  have : is_row x 0 C_MOST = false := by unfold is_row; rw [h]; rfl
  rw [this]; rfl
theorem plan_bad {b : Int} {xs : List PyData} {y : PyData} (h : isTup y = false ∨ badP b y = true) : is_plan b (.tuple (xs ++ [y])) = false := by
  rw [plan_tup]
  have : ((xs ++ [y]).all isTup && (xs ++ [y]).all fun x => !badP b x) = false := by
    rw [List.all_append, List.all_append, List.all_cons, List.all_cons]
    rcases h with h | h <;> rw [h] <;> simp
  rw [this]; simp
theorem num_int (i lo hi : Int) : is_number (.int i) lo hi = (decide (lo ≤ i) && decide (i ≤ hi)) := by
  show ((true && !false) && (decide (lo ≤ i) && (false || decide (i ≤ hi)))) = _
  simp
theorem asc_ints {xs : List Int} (h : xs.Pairwise (· < ·)) : is_ascending (eT PyData.int xs) = true := by
  unfold is_ascending
  rw [dTA_enc, cut_from1, List.all_map, List.all_eq_true]
  rw [← List.map_drop, List.zip_map]
  intro q hq
  obtain ⟨z, hz, rfl⟩ := List.mem_map.mp hq
  have := zip_drop_mem h z hz
  show dataLt (.int z.1) (.int z.2) = true
  rw [dataLt_int, decide_eq_true_eq]
  exact this
theorem rgI_pw (lo hi : Int) : (rgI lo hi).Pairwise (· < ·) := by
  unfold rgI
  rw [List.pairwise_map]
  exact List.pairwise_lt_range.imp fun h => by omega
theorem good_part {b : Int} {xs : List Int} (h : xs.Sublist (rgI 0 b)) : badP b (eT PyData.int xs) = false := by
  unfold badP
  rw [asc_ints ((rgI_pw 0 b).sublist h), dTA_enc]
  have : (((xs.map PyData.int).map fun y : PyData => is_number y 0 (b - 1)).all id) = true := by
    rw [List.all_map, List.all_map, List.all_eq_true]
    intro x hx
    have := rgI_mem_iff.mp (h.subset hx)
    show is_number (.int x) 0 (b - 1) = true
    rw [num_int, decide_eq_true this.1, decide_eq_true (show x ≤ b - 1 by omega)]; rfl
  rw [this]; rfl
theorem plan_good {b : Int} {plan : List (List Int)} (hl : plan.length ≤ 8) (h : ∀ x ∈ plan, x.Sublist (rgI 0 b)) : is_plan b (eT (eT PyData.int) plan) = true := by
  show is_plan b (.tuple (plan.map (eT PyData.int))) = true
  rw [plan_tup, List.length_map, decide_eq_true hl, List.all_map, List.all_map]
  have e1 : (plan.all (isTup ∘ eT PyData.int)) = true := List.all_eq_true.mpr fun x _ => rfl
  have e2 : (plan.all ((fun x => !badP b x) ∘ eT PyData.int)) = true := List.all_eq_true.mpr fun x hx => by
    show (!badP b (eT PyData.int x)) = true
    rw [good_part (h x hx)]; rfl
  rw [e1, e2]; rfl
theorem eTD (xs : List PyData) : eT eD xs = .tuple xs := by
  show PyData.tuple (xs.map fun d => d) = _
  rw [List.map_id']
theorem asc00 : is_ascending ((eP2 PyData.int PyData.int) ((0 : Int), (0 : Int))) = false := by
  show ((dataLt (.int 0) (.int 0)) && true) = false
  rw [dataLt_int]; rfl
theorem wrong_all {b : Int} (plan : List (List Int)) : ∀ x ∈ ([((eL (eT PyData.int)) plan), PyData.none, ((eT eD) ((plan.map (eT PyData.int)) ++ ([((eL PyData.int) ([(0 : Int)] : (List Int)))] : (List PyData)))), ((eT eD) ((plan.map (eT PyData.int)) ++ ([((eP1 PyData.int) (b))] : (List PyData)))), ((eT eD) ((plan.map (eT PyData.int)) ++ ([((eP1 PyData.int) ((-(1 : Int))))] : (List PyData)))), ((eT eD) ((plan.map (eT PyData.int)) ++ ([((eP2 PyData.int PyData.int) ((0 : Int), (0 : Int)))] : (List PyData)))), ((eT eD) ((plan.map (eT PyData.int)) ++ ([((eP1 PyData.bool) (true))] : (List PyData)))), ((eT eD) ((plan.map (eT PyData.int)) ++ ([((eP1 PyData.str) (("0" : Str)))] : (List PyData)))), ((eT (eT PyData.int)) (repX ([([] : (List Int))] : (List (List Int))) (9 : Int))), ((eT eD) ((plan.map (eT PyData.int)) ++ ([PyData.none] : (List PyData))))] : (List PyData)), is_plan b x = false := by
  intro x hx
  simp only [List.mem_cons, List.not_mem_nil, or_false] at hx
  have one : ∀ y : PyData, is_number y 0 (b - 1) = false → badP b (.tuple [y]) = true := fun y h => by
    show ((!(is_number y 0 (b - 1) && true)) || _) = true
    rw [h]; rfl
  rcases hx with rfl | rfl | rfl | rfl | rfl | rfl | rfl | rfl | rfl | rfl
  · exact plan_not rfl
  · exact plan_not rfl
  · rw [eTD]; exact plan_bad (.inl rfl)
  · rw [eTD]
    refine plan_bad (.inr (one _ ?_))
    rw [num_int, decide_eq_false (show ¬ b ≤ b - 1 by omega)]; simp
  · rw [eTD]
    refine plan_bad (.inr (one _ ?_))
    rw [num_int]; rfl
  · rw [eTD]
    refine plan_bad (.inr ?_)
    unfold badP
    rw [asc00]; simp
  · rw [eTD]; exact plan_bad (.inr (one _ rfl))
  · rw [eTD]; exact plan_bad (.inr (one _ rfl))
  · show is_plan b (.tuple ((repX ([([] : (List Int))] : (List (List Int))) (9 : Int)).map (eT PyData.int))) = false
    rw [plan_tup, decide_eq_false (by decide)]; rfl
  · rw [eTD]; exact plan_bad (.inl rfl)
end K18
namespace K18
open PySem L2 PySem.Spec PyProof.Rows J PySem.W
def planD (b t : Int) (d : Dr) : List (List Int) × Dr := mapS (fun (s_9 : Dr) (x_8 : Int) => (Let (filS (fun (s_11 : Dr) (x_10 : Int) => (Let (nxt s_11 (2 : Int)) fun q_12 : (Int × Dr) => ((decide (q_12.1 = (0 : Int))), q_12.2))) (fun x_10 : Int => x_10) s_9 (rgI 0 b)) fun m_15 : (List Int × Dr) => (m_15.1, m_15.2))) d (rgI 0 t)
theorem plan_facts (b t : Int) (d : Dr) (ht : 0 ≤ t) : ((planD b t d).1.length : Int) = t ∧ ∀ x ∈ (planD b t d).1, x.Sublist (rgI 0 b) := by
  constructor
  · unfold planD
    rw [mapS_count, rgI_len]; omega
  · intro x hx
    obtain ⟨s, y, _, rfl⟩ := mapS_in _ _ _ x hx
    exact filS_sub _ _ _
theorem law_true (script : List Int) : law script = true := by
  unfold law
  refine let_b fun d2 hd2 => let_b fun q3 h3 => let_b fun q4 h4 => let_b fun b hb => let_b fun t ht => let_b fun m17 h17 => let_b fun plan hplan => let_b fun sets hsets => ?_
  have bb : 1 ≤ b ∧ b ≤ 8 := by
    subst hb h3
    have a1 := nxt_lo (d := d2) (many := 8) (by decide)
    have a2 := nxt_hi (d := d2) (many := 8) (by decide)
    omega
  have tb : 0 ≤ t ∧ t < 4 := by subst ht h4; exact ⟨nxt_lo (by decide), nxt_hi (by decide)⟩
  have pf := plan_facts b t q4.2 tb.1
  have e17 : planD b t q4.2 = m17 := h17
  rw [e17, hplan] at pf
  have es : setsL b t plan = sets := hsets
  have B := bot bb
  rw [if_neg (by rw [sure_eq pf.1, es]; simp)]
  refine let_b fun m36 h36 => let_b fun ill hill => ?_
  rw [if_neg (by rw [found_eq (by omega) pf.1, es]; simp)]
  refine let_b fun few hfew => ?_
  have ef : fewL b = few := hfew
  rw [if_neg (by rw [B.few, ef]; simp)]
  refine let_b fun due hdue => ?_
  have ed : dueL b = due := by rw [← hdue, ← ef]; rfl
  rw [if_neg (by rw [← ed, B.plan, B.sure]; simp)]
  refine let_b fun q63 h63 => let_b fun two htwo => ?_
  have t2 : 0 ≤ two ∧ two < 6 := by subst htwo h63; exact ⟨nxt_lo (by decide), nxt_hi (by decide)⟩
  rw [if_neg (by rw [of_decide_eq_true (all_rg chk_two t2.1 t2.2)]; simp)]
  refine let_b fun wrong hw => let_b fun q71 h71 => let_b fun q72 h72 => ?_
  have w0 : is_plan b (gI wrong q71.1) = false := by
    subst hw h71
    exact pick (P := fun x => is_plan b x = false) (wrong_all plan) _ 10 rfl (by decide)
  rw [plan_good (by omega) pf.2, plan_good (by decide) (fun x hx => by
    have : x = [] := by
      have h : ∀ y ∈ repX ([([] : (List Int))] : (List (List Int))) (8 : Int), y = [] := by decide
      exact h x hx
    rw [this]; exact List.nil_sublist _), w0, ← h72, hats_true]
  decide
/-! ### side conditions -/
theorem intN_ok (y : PyData) (h : noDc y = true) (lo hi : Int) : is_number_ok y lo hi := by
  unfold is_number_ok
  exact ⟨⟨h, fun _ => h⟩, fun q => ⟨J.int_back q, fun _ _ => J.int_back q⟩⟩
theorem num_of {y : PyData} {lo hi : Int} (h : is_number y lo hi = true) : ∃ i, y = .int i := by
  unfold is_number at h
  rw [Bool.and_eq_true] at h
  exact ⟨_, (J.int_back h.1).symm⟩
theorem int_cmp (a b : Int) : cmpOk (.int a) (.int b) := ⟨rfl, by simp, rfl, rfl⟩
theorem plan_k {n : Nat} {b : Int} {x : PyData} (h : Nice n x) : is_plan_ok b x := by
  unfold is_plan_ok
  refine ⟨⟨⟨h.nd, fun t => J.tup_back t⟩, fun c => ?_⟩, fun _ => trivial, fun c => ?_⟩
  · have ht : isTup x = true := by
      unfold is_row at c
      cases q : isTup x with
      | true => rfl
      | false => rw [q] at c; cases c
    obtain ⟨xs, rfl⟩ := tup_of ht
    have eb : (eT eD) ((dT dA) (.tuple xs)) = .tuple xs := J.tup_back rfl
    rw [dTA_tup] at eb ⊢
    exact ⟨eb, fun y hy => (h.of_tup0 y hy).choose_spec.nd⟩
  · have ht : isTup x = true := by
      unfold is_row at c
      cases q : isTup x with
      | true => rfl
      | false => rw [q] at c; simp at c
    obtain ⟨xs, rfl⟩ := tup_of ht
    have eb : (eT eD) ((dT dA) (.tuple xs)) = .tuple xs := J.tup_back rfl
    rw [dTA_tup] at eb c ⊢
    refine ⟨eb, fun i y l hy _ => ?_, fun _ _ => trivial⟩
    have hm := List.mem_of_getElem? hy
    obtain ⟨m, hn⟩ := h.of_tup0 y hm
    have ty : isTup y = true := by
      have c2 : (!((xs.map fun x => isTup x).all id)) = false := by
        cases q : (!(is_row (.tuple xs) 0 C_MOST)) with
        | true => rw [q] at c; cases c
        | false => rw [q] at c; simpa using c
      have c3 : (xs.map fun x => isTup x).all id = true := by
        cases q : (xs.map fun x => isTup x).all id with
        | true => rfl
        | false => rw [q] at c2; cases c2
      rw [List.all_map] at c3
      exact List.all_eq_true.mp c3 y hm
    obtain ⟨ys, rfl⟩ := tup_of ty
    have eb2 : (eT eD) ((dT dA) (.tuple ys)) = .tuple ys := J.tup_back rfl
    unfold is_plan_s_19_ok
    rw [dTA_tup] at eb2 ⊢
    refine ⟨⟨eb2, fun z hz => intN_ok z (hn.of_tup0 z hz).choose_spec.nd _ _, fun c4 => ?_⟩, fun _ => trivial, fun _ => trivial⟩
    have c5 : (ys.map fun z => is_number z 0 (b - 1)).all id = true := by
      cases q : (ys.map fun z => is_number z 0 (b - 1)).all id with
      | true => rfl
      | false => rw [q] at c4; cases c4
    rw [List.all_map] at c5
    have c6 := List.all_eq_true.mp c5
    unfold is_ascending_ok
    rw [dTA_tup]
    refine ⟨eb2, eb2, fun q hq => ?_⟩
    rw [cut_from1] at hq
    obtain ⟨h1, h2⟩ := List.of_mem_zip hq
    obtain ⟨i1, e1⟩ := num_of (c6 _ h1)
    obtain ⟨i2, e2⟩ := num_of (c6 _ (List.drop_subset _ _ h2))
    rw [e1, e2]
    exact int_cmp i1 i2
theorem nice_eT {α : Type} {n : Nat} {enc : α → PyData} (h : ∀ a, Nice n (enc a)) (xs : List α) : Nice (n + 1) (eT enc xs) := .tuple fun x hx => by
  obtain ⟨a, _, rfl⟩ := List.mem_map.mp hx
  exact h a
theorem nice_eL {α : Type} {n : Nat} {enc : α → PyData} (h : ∀ a, Nice n (enc a)) (xs : List α) : Nice (n + 1) (eL enc xs) := .list fun x hx => by
  obtain ⟨a, _, rfl⟩ := List.mem_map.mp hx
  exact h a
theorem n_row (r : List Int) : Nice 1 (eT PyData.int r) := nice_eT (fun _ => .int) r
theorem nice_add {plan : List (List Int)} {y : PyData} (h : Nice 1 y) : Nice 2 ((eT eD) ((plan.map (eT PyData.int)) ++ [y])) := by
  rw [eTD]
  refine .tuple fun x hx => ?_
  rcases List.mem_append.mp hx with hx | hx
  · obtain ⟨r, _, rfl⟩ := List.mem_map.mp hx; exact n_row r
  · rw [List.mem_singleton.mp hx]; exact h
theorem sure_k {b : Int} (h : b ≤ 8) (h0 : 0 ≤ b) (plan : List (List Int)) : is_sure_ok b plan := by
  unfold is_sure_ok
  exact ⟨by unfold rg1; omega, fun _ _ => trivial, by rw [List.length_map, rgI_len]; omega⟩
theorem few_k {b : Int} (h : bfew b = true) : fewest_tasters_ok b := by
  obtain ⟨x, y⟩ := wchk_ok h
  unfold fewest_tasters_ok
  refine let_p fun t et => let_p fun r er => ?_
  subst et er
  exact ⟨x, fun _ _ => trivial, fun _ _ _ => trivial, trivial⟩
theorem first_k {b : Int} (hb : 1 ≤ b ∧ b ≤ 8) : first_plan_ok b := by
  have B := bot hb
  have lo := B.lo
  have hi := B.hi
  unfold first_plan_ok
  refine let_p fun f ef => let_p fun s es => ?_
  subst ef es
  rw [B.few]
  refine ⟨⟨few_k B.bf, by unfold rg1; omega⟩, fun i x l hx hl => ?_, trivial⟩
  have q := of_decide_eq_true (fchk_ok B.fold i x l hx hl)
  unfold first_plan_s_16_ok
  exact ⟨⟨by unfold rg1; omega, q.1, by have := q.2; show l.1.length < 16777216; omega⟩, trivial⟩
theorem two_k {t : Int} (h : 0 ≤ t ∧ t < 6) : by_two_rounds_ok t := by
  unfold by_two_rounds_ok
  exact let_p fun f _ => ⟨by unfold rg1; omega, fun _ _ _ _ _ => trivial, trivial⟩
theorem law_k (script : List Int) : law_ok script := by
  unfold law_ok
  refine let_p fun d2 hd2 => let_p fun q3 h3 => let_p fun q4 h4 => let_p fun b hb => let_p fun t ht => let_p fun m17 h17 => ?_
  have bb : 1 ≤ b ∧ b ≤ 8 := by
    subst hb h3
    have a1 := nxt_lo (d := d2) (many := 8) (by decide)
    have a2 := nxt_hi (d := d2) (many := 8) (by decide)
    omega
  have tb : 0 ≤ t ∧ t < 4 := by subst ht h4; exact ⟨nxt_lo (by decide), nxt_hi (by decide)⟩
  have rb : rg1 b := by unfold rg1; omega
  have rt : rg1 t := by unfold rg1; omega
  refine ⟨⟨rt, fun _ _ _ _ _ => rb⟩, let_p fun plan hplan => ?_⟩
  have pf := plan_facts b t q4.2 tb.1
  have e17 : planD b t q4.2 = m17 := h17
  rw [e17, hplan] at pf
  have B := bot bb
  have lo := B.lo
  have hi := B.hi
  have pl : plan.length ≤ 3 := by have := pf.1; omega
  refine ⟨⟨rb, fun x _ => ⟨rt, fun y hy => ?_⟩⟩, let_p fun sets hsets => ⟨⟨sure_k (by omega) (by omega) plan, ?_⟩, fun _ => trivial, fun _ => let_p fun m36 h36 => ⟨rt, let_p fun ill hill => ⟨⟨?_, fun c => ?_⟩, fun _ => trivial, fun _ => ⟨⟨by decide, ?_⟩, let_p fun few hfew => ?_⟩⟩⟩⟩⟩
  · have hy := rgI_mem_iff.mp hy
    have := pf.1
    exact in_of hy.1 (by omega)
  · rw [← hsets, List.length_map, rgI_len]; omega
  · unfold found_by_ok
    refine ⟨⟨rb, fun _ _ => trivial⟩, let_p fun gd hgd => fun c => ?_⟩
    have := of_decide_eq_true c
    exact in_of (by decide) (by omega)
  · have c := of_decide_eq_true c
    unfold cntL at c
    have : 0 < sets.countP fun y => decide (y = ill) := by omega
    obtain ⟨y, hy, e⟩ := List.countP_pos_iff.mp this
    rw [← of_decide_eq_true e]; exact hy
  · exact in_of (by decide) (by have := List.length_pos_iff.mpr B.ne; omega)
  have ef : fewL b = few := hfew
  rw [ef] at lo hi
  refine ⟨few_k B.bf, fun _ => trivial, fun _ => ⟨⟨by unfold rg1; omega, fun x hx => ⟨rb, fun y hy => ?_⟩⟩, let_p fun due hdue => ⟨⟨first_k bb, fun _ => sure_k (by omega) (by omega) due⟩, fun _ => trivial, fun _ => let_p fun q63 h63 => let_p fun two htwo => ?_⟩⟩⟩
  · have hx := rgI_mem_iff.mp hx
    have hy := rgI_mem_iff.mp hy
    exact ⟨⟨by show -((4 : Nat) : Int) ≤ x; omega, by show x < ((4 : Nat) : Int); omega⟩, of_decide_eq_true (all_rg (all_rg chk_div hx.1 (by omega)) hy.1 (by omega))⟩
  have t2 : 0 ≤ two ∧ two < 6 := by subst htwo h63; exact ⟨nxt_lo (by decide), nxt_hi (by decide)⟩
  have l1 : ∀ y : PyData, (plan.map (eT PyData.int)).length + ([y] : List PyData).length ≤ LN := fun y => by
    rw [List.length_map]
    show plan.length + 1 ≤ 16777216
    omega
  refine ⟨⟨two_k t2, ⟨by show -((6 : Nat) : Int) ≤ two; omega, by show two < ((6 : Nat) : Int); omega⟩⟩, fun _ => trivial, fun _ => ⟨⟨l1 _, l1 _, l1 _, l1 _, l1 _, l1 _, ⟨by decide, by decide, by decide, by decide⟩, l1 _⟩, let_p fun wrong hw => let_p fun q71 h71 => let_p fun q72 h72 => ⟨plan_k (nice_eT n_row plan), fun _ => ⟨⟨by decide, by decide, by decide, by decide⟩, plan_k (nice_eT n_row _), fun _ => ⟨?_, ?_, fun _ => hats_k _⟩⟩⟩⟩⟩
  · subst h71 hw; exact pick_in (n := 10) _ (by decide)
  · subst h71 hw
    refine plan_k (n := 2) (pick (P := fun x => Nice 2 x) (fun x hx => ?_) _ 10 rfl (by decide))
    simp only [List.mem_cons, List.not_mem_nil, or_false] at hx
    rcases hx with rfl | rfl | rfl | rfl | rfl | rfl | rfl | rfl | rfl | rfl
    · exact nice_eL n_row plan
    · exact .none
    · exact nice_add (nice_eL (fun _ => .int) _)
    · exact nice_add (nice_of 1 _ rfl)
    · exact nice_add (nice_of 1 _ rfl)
    · exact nice_add (nice_of 1 _ rfl)
    · exact nice_add (nice_of 1 _ rfl)
    · exact nice_add (nice_of 1 _ rfl)
    · exact nice_eT n_row _
    · exact nice_add .none
theorem law_holds : ∀ ns : List Int, ns.length ≤ 63 → law_ok ns ∧ law ns = true := fun ns _ => ⟨law_k ns, law_true ns⟩
end K18
namespace K18
open PySem L2 PySem.Spec PyProof.Rows J
theorem all_mk {l : PySem.W.OpenLaw} {w : World} {K : PySem.W.Frag} {h : Heap} {mg : Str → Option Value} {fa : Addr} (hlaw : ∀ ns : List Int, ns.length ≤ 63 → law_ok ns ∧ law ns = true) (KX : K.In h) (G : h.Ns mainGlobals mg) (hfa : mg "law" = some (.ref fa))
    {f0 : Addr} {od0 an0 : Option Addr} {sl0 : Array (Option Value)} {oc0 kV0 dc0 pm0 cd0 ct0 : Value}
    (a0 : PySem.W.nsIn K mainGlobals "_law_draw" = some (some (.ref f0))) (l0 : K.lookup f0 = some ⟨oc0, od0, .func (PySem.W.fnOf "_law_draw" "_law_draw" (defArgs (topS 26)) (defBody (topS 26)) (defScope (topS 26)) .none kV0 dc0 pm0 an0 cd0 ct0), sl0⟩) (c0 : PySem.W.codeIn K cd0 "_law_draw" = true) (k0 : PySem.W.keepIn K (.ref f0) = true)
    {f1 : Addr} {od1 an1 : Option Addr} {sl1 : Array (Option Value)} {oc1 kV1 dc1 pm1 cd1 ct1 : Value}
    (a1 : PySem.W.nsIn K mainGlobals "_law_next" = some (some (.ref f1))) (l1 : K.lookup f1 = some ⟨oc1, od1, .func (PySem.W.fnOf "_law_next" "_law_next" (defArgs (topS 27)) (defBody (topS 27)) (defScope (topS 27)) .none kV1 dc1 pm1 an1 cd1 ct1), sl1⟩) (c1 : PySem.W.codeIn K cd1 "_law_next" = true) (k1 : PySem.W.keepIn K (.ref f1) = true)
    {f2 : Addr} {od2 an2 : Option Addr} {sl2 : Array (Option Value)} {oc2 kV2 dc2 pm2 cd2 ct2 : Value}
    (a2 : PySem.W.nsIn K mainGlobals "_law_same" = some (some (.ref f2))) (l2 : K.lookup f2 = some ⟨oc2, od2, .func (PySem.W.fnOf "_law_same" "_law_same" (defArgs (topS 28)) (defBody (topS 28)) (defScope (topS 28)) .none kV2 dc2 pm2 an2 cd2 ct2), sl2⟩) (c2 : PySem.W.codeIn K cd2 "_law_same" = true) (k2 : PySem.W.keepIn K (.ref f2) = true)
    {f3 : Addr} {od3 an3 : Option Addr} {sl3 : Array (Option Value)} {oc3 kV3 dc3 pm3 cd3 ct3 : Value}
    (a3 : PySem.W.nsIn K mainGlobals "tasters_of" = some (some (.ref f3))) (l3 : K.lookup f3 = some ⟨oc3, od3, .func (PySem.W.fnOf "tasters_of" "tasters_of" (defArgs (topS 19)) (defBody (topS 19)) (defScope (topS 19)) .none kV3 dc3 pm3 an3 cd3 ct3), sl3⟩) (c3 : PySem.W.codeIn K cd3 "tasters_of" = true) (k3 : PySem.W.keepIn K (.ref f3) = true)
    {f4 : Addr} {od4 an4 : Option Addr} {sl4 : Array (Option Value)} {oc4 kV4 dc4 pm4 cd4 ct4 : Value}
    (a4 : PySem.W.nsIn K mainGlobals "is_sure" = some (some (.ref f4))) (l4 : K.lookup f4 = some ⟨oc4, od4, .func (PySem.W.fnOf "is_sure" "is_sure" (defArgs (topS 20)) (defBody (topS 20)) (defScope (topS 20)) .none kV4 dc4 pm4 an4 cd4 ct4), sl4⟩) (c4 : PySem.W.codeIn K cd4 "is_sure" = true) (k4 : PySem.W.keepIn K (.ref f4) = true)
    {f5 : Addr} {od5 an5 : Option Addr} {sl5 : Array (Option Value)} {oc5 kV5 dc5 pm5 cd5 ct5 : Value}
    (a5 : PySem.W.nsIn K mainGlobals "found_by" = some (some (.ref f5))) (l5 : K.lookup f5 = some ⟨oc5, od5, .func (PySem.W.fnOf "found_by" "found_by" (defArgs (topS 23)) (defBody (topS 23)) (defScope (topS 23)) .none kV5 dc5 pm5 an5 cd5 ct5), sl5⟩) (c5 : PySem.W.codeIn K cd5 "found_by" = true) (k5 : PySem.W.keepIn K (.ref f5) = true)
    {f6 : Addr} {od6 an6 : Option Addr} {sl6 : Array (Option Value)} {oc6 kV6 dc6 pm6 cd6 ct6 : Value}
    (a6 : PySem.W.nsIn K mainGlobals "fewest_tasters" = some (some (.ref f6))) (l6 : K.lookup f6 = some ⟨oc6, od6, .func (PySem.W.fnOf "fewest_tasters" "fewest_tasters" (defArgs (topS 21)) (defBody (topS 21)) (defScope (topS 21)) .none kV6 dc6 pm6 an6 cd6 ct6), sl6⟩) (c6 : PySem.W.codeIn K cd6 "fewest_tasters" = true) (k6 : PySem.W.keepIn K (.ref f6) = true)
    {f7 : Addr} {od7 an7 : Option Addr} {sl7 : Array (Option Value)} {oc7 kV7 dc7 pm7 cd7 ct7 : Value}
    (a7 : PySem.W.nsIn K mainGlobals "first_plan" = some (some (.ref f7))) (l7 : K.lookup f7 = some ⟨oc7, od7, .func (PySem.W.fnOf "first_plan" "first_plan" (defArgs (topS 22)) (defBody (topS 22)) (defScope (topS 22)) .none kV7 dc7 pm7 an7 cd7 ct7), sl7⟩) (c7 : PySem.W.codeIn K cd7 "first_plan" = true) (k7 : PySem.W.keepIn K (.ref f7) = true)
    {f8 : Addr} {od8 an8 : Option Addr} {sl8 : Array (Option Value)} {oc8 kV8 dc8 pm8 cd8 ct8 : Value}
    (a8 : PySem.W.nsIn K mainGlobals "by_two_rounds" = some (some (.ref f8))) (l8 : K.lookup f8 = some ⟨oc8, od8, .func (PySem.W.fnOf "by_two_rounds" "by_two_rounds" (defArgs (topS 24)) (defBody (topS 24)) (defScope (topS 24)) .none kV8 dc8 pm8 an8 cd8 ct8), sl8⟩) (c8 : PySem.W.codeIn K cd8 "by_two_rounds" = true) (k8 : PySem.W.keepIn K (.ref f8) = true)
    {f9 : Addr} {od9 an9 : Option Addr} {sl9 : Array (Option Value)} {oc9 kV9 dc9 pm9 cd9 ct9 : Value}
    (a9 : PySem.W.nsIn K mainGlobals "is_row" = some (some (.ref f9))) (l9 : K.lookup f9 = some ⟨oc9, od9, .func (PySem.W.fnOf "is_row" "is_row" (defArgs (topS 14)) (defBody (topS 14)) (defScope (topS 14)) .none kV9 dc9 pm9 an9 cd9 ct9), sl9⟩) (c9 : PySem.W.codeIn K cd9 "is_row" = true) (k9 : PySem.W.keepIn K (.ref f9) = true)
    {f10 : Addr} {od10 an10 : Option Addr} {sl10 : Array (Option Value)} {oc10 kV10 dc10 pm10 cd10 ct10 : Value}
    (a10 : PySem.W.nsIn K mainGlobals "is_integer" = some (some (.ref f10))) (l10 : K.lookup f10 = some ⟨oc10, od10, .func (PySem.W.fnOf "is_integer" "is_integer" (defArgs (topS 12)) (defBody (topS 12)) (defScope (topS 12)) .none kV10 dc10 pm10 an10 cd10 ct10), sl10⟩) (c10 : PySem.W.codeIn K cd10 "is_integer" = true) (k10 : PySem.W.keepIn K (.ref f10) = true)
    {f11 : Addr} {od11 an11 : Option Addr} {sl11 : Array (Option Value)} {oc11 kV11 dc11 pm11 cd11 ct11 : Value}
    (a11 : PySem.W.nsIn K mainGlobals "is_number" = some (some (.ref f11))) (l11 : K.lookup f11 = some ⟨oc11, od11, .func (PySem.W.fnOf "is_number" "is_number" (defArgs (topS 13)) (defBody (topS 13)) (defScope (topS 13)) .none kV11 dc11 pm11 an11 cd11 ct11), sl11⟩) (c11 : PySem.W.codeIn K cd11 "is_number" = true) (k11 : PySem.W.keepIn K (.ref f11) = true)
    {f12 : Addr} {od12 an12 : Option Addr} {sl12 : Array (Option Value)} {oc12 kV12 dc12 pm12 cd12 ct12 : Value}
    (a12 : PySem.W.nsIn K mainGlobals "is_ascending" = some (some (.ref f12))) (l12 : K.lookup f12 = some ⟨oc12, od12, .func (PySem.W.fnOf "is_ascending" "is_ascending" (defArgs (topS 15)) (defBody (topS 15)) (defScope (topS 15)) .none kV12 dc12 pm12 an12 cd12 ct12), sl12⟩) (c12 : PySem.W.codeIn K cd12 "is_ascending" = true) (k12 : PySem.W.keepIn K (.ref f12) = true)
    {f13 : Addr} {od13 an13 : Option Addr} {sl13 : Array (Option Value)} {oc13 kV13 dc13 pm13 cd13 ct13 : Value}
    (a13 : PySem.W.nsIn K mainGlobals "is_plan" = some (some (.ref f13))) (l13 : K.lookup f13 = some ⟨oc13, od13, .func (PySem.W.fnOf "is_plan" "is_plan" (defArgs (topS 18)) (defBody (topS 18)) (defScope (topS 18)) .none kV13 dc13 pm13 an13 cd13 ct13), sl13⟩) (c13 : PySem.W.codeIn K cd13 "is_plan" = true) (k13 : PySem.W.keepIn K (.ref f13) = true)
    {f14 : Addr} {od14 an14 : Option Addr} {sl14 : Array (Option Value)} {oc14 kV14 dc14 pm14 cd14 ct14 : Value}
    (a14 : PySem.W.nsIn K mainGlobals "choose" = some (some (.ref f14))) (l14 : K.lookup f14 = some ⟨oc14, od14, .func (PySem.W.fnOf "choose" "choose" (defArgs (topS 5)) (defBody (topS 5)) (defScope (topS 5)) .none kV14 dc14 pm14 an14 cd14 ct14), sl14⟩) (c14 : PySem.W.codeIn K cd14 "choose" = true) (k14 : PySem.W.keepIn K (.ref f14) = true)
    {f15 : Addr} {od15 an15 : Option Addr} {sl15 : Array (Option Value)} {oc15 kV15 dc15 pm15 cd15 ct15 : Value}
    (a15 : PySem.W.nsIn K mainGlobals "none_lucky" = some (some (.ref f15))) (l15 : K.lookup f15 = some ⟨oc15, od15, .func (PySem.W.fnOf "none_lucky" "none_lucky" (defArgs (topS 4)) (defBody (topS 4)) (defScope (topS 4)) .none kV15 dc15 pm15 an15 cd15 ct15), sl15⟩) (c15 : PySem.W.codeIn K cd15 "none_lucky" = true) (k15 : PySem.W.keepIn K (.ref f15) = true)
    {f16 : Addr} {od16 an16 : Option Addr} {sl16 : Array (Option Value)} {oc16 kV16 dc16 pm16 cd16 ct16 : Value}
    (a16 : PySem.W.nsIn K mainGlobals "count_lucky" = some (some (.ref f16))) (l16 : K.lookup f16 = some ⟨oc16, od16, .func (PySem.W.fnOf "count_lucky" "count_lucky" (defArgs (topS 6)) (defBody (topS 6)) (defScope (topS 6)) .none kV16 dc16 pm16 an16 cd16 ct16), sl16⟩) (c16 : PySem.W.codeIn K cd16 "count_lucky" = true) (k16 : PySem.W.keepIn K (.ref f16) = true)
    {f17 : Addr} {od17 an17 : Option Addr} {sl17 : Array (Option Value)} {oc17 kV17 dc17 pm17 cd17 ct17 : Value}
    (a17 : PySem.W.nsIn K mainGlobals "ratio" = some (some (.ref f17))) (l17 : K.lookup f17 = some ⟨oc17, od17, .func (PySem.W.fnOf "ratio" "ratio" (defArgs (topS 2)) (defBody (topS 2)) (defScope (topS 2)) .none kV17 dc17 pm17 an17 cd17 ct17), sl17⟩) (c17 : PySem.W.codeIn K cd17 "ratio" = true) (k17 : PySem.W.keepIn K (.ref f17) = true)
    {f18 : Addr} {od18 an18 : Option Addr} {sl18 : Array (Option Value)} {oc18 kV18 dc18 pm18 cd18 ct18 : Value}
    (a18 : PySem.W.nsIn K mainGlobals "chance_of_none" = some (some (.ref f18))) (l18 : K.lookup f18 = some ⟨oc18, od18, .func (PySem.W.fnOf "chance_of_none" "chance_of_none" (defArgs (topS 7)) (defBody (topS 7)) (defScope (topS 7)) .none kV18 dc18 pm18 an18 cd18 ct18), sl18⟩) (c18 : PySem.W.codeIn K cd18 "chance_of_none" = true) (k18 : PySem.W.keepIn K (.ref f18) = true)
    {f19 : Addr} {od19 an19 : Option Addr} {sl19 : Array (Option Value)} {oc19 kV19 dc19 pm19 cd19 ct19 : Value}
    (a19 : PySem.W.nsIn K mainGlobals "_law_low" = some (some (.ref f19))) (l19 : K.lookup f19 = some ⟨oc19, od19, .func (PySem.W.fnOf "_law_low" "_law_low" (defArgs (topS 29)) (defBody (topS 29)) (defScope (topS 29)) .none kV19 dc19 pm19 an19 cd19 ct19), sl19⟩) (c19 : PySem.W.codeIn K cd19 "_law_low" = true) (k19 : PySem.W.keepIn K (.ref f19) = true)
    {f20 : Addr} {od20 an20 : Option Addr} {sl20 : Array (Option Value)} {oc20 kV20 dc20 pm20 cd20 ct20 : Value}
    (a20 : PySem.W.nsIn K mainGlobals "applied" = some (some (.ref f20))) (l20 : K.lookup f20 = some ⟨oc20, od20, .func (PySem.W.fnOf "applied" "applied" (defArgs (topS 9)) (defBody (topS 9)) (defScope (topS 9)) .none kV20 dc20 pm20 an20 cd20 ct20), sl20⟩) (c20 : PySem.W.codeIn K cd20 "applied" = true) (k20 : PySem.W.keepIn K (.ref f20) = true)
    {f21 : Addr} {od21 an21 : Option Addr} {sl21 : Array (Option Value)} {oc21 kV21 dc21 pm21 cd21 ct21 : Value}
    (a21 : PySem.W.nsIn K mainGlobals "least_times" = some (some (.ref f21))) (l21 : K.lookup f21 = some ⟨oc21, od21, .func (PySem.W.fnOf "least_times" "least_times" (defArgs (topS 10)) (defBody (topS 10)) (defScope (topS 10)) .none kV21 dc21 pm21 an21 cd21 ct21), sl21⟩) (c21 : PySem.W.codeIn K cd21 "least_times" = true) (k21 : PySem.W.keepIn K (.ref f21) = true)
    {f22 : Addr} {od22 an22 : Option Addr} {sl22 : Array (Option Value)} {oc22 kV22 dc22 pm22 cd22 ct22 : Value}
    (a22 : PySem.W.nsIn K mainGlobals "rings" = some (some (.ref f22))) (l22 : K.lookup f22 = some ⟨oc22, od22, .func (PySem.W.fnOf "rings" "rings" (defArgs (topS 8)) (defBody (topS 8)) (defScope (topS 8)) .none kV22 dc22 pm22 an22 cd22 ct22), sl22⟩) (c22 : PySem.W.codeIn K cd22 "rings" = true) (k22 : PySem.W.keepIn K (.ref f22) = true)
    {f23 : Addr} {od23 an23 : Option Addr} {sl23 : Array (Option Value)} {oc23 kV23 dc23 pm23 cd23 ct23 : Value}
    (a23 : PySem.W.nsIn K mainGlobals "_law_hats" = some (some (.ref f23))) (l23 : K.lookup f23 = some ⟨oc23, od23, .func (PySem.W.fnOf "_law_hats" "_law_hats" (defArgs (topS 30)) (defBody (topS 30)) (defScope (topS 30)) .none kV23 dc23 pm23 an23 cd23 ct23), sl23⟩) (c23 : PySem.W.codeIn K cd23 "_law_hats" = true) (k23 : PySem.W.keepIn K (.ref f23) = true)
    {f24 : Addr} {od24 an24 : Option Addr} {sl24 : Array (Option Value)} {oc24 kV24 dc24 pm24 cd24 ct24 : Value}
    (a24 : PySem.W.nsIn K mainGlobals "law" = some (some (.ref f24))) (l24 : K.lookup f24 = some ⟨oc24, od24, .func (PySem.W.fnOf "law" "law" (defArgs (topS 31)) (defBody (topS 31)) (defScope (topS 31)) .none kV24 dc24 pm24 an24 cd24 ct24), sl24⟩) (c24 : PySem.W.codeIn K cd24 "law" = true) (k24 : PySem.W.keepIn K (.ref f24) = true)
    (z_abs : PySem.W.nsIn K mainGlobals "abs" = some none)
    (z_all : PySem.W.nsIn K mainGlobals "all" = some none)
    (z_bool : PySem.W.nsIn K mainGlobals "bool" = some none)
    (z_enumerate : PySem.W.nsIn K mainGlobals "enumerate" = some none)
    (z_int : PySem.W.nsIn K mainGlobals "int" = some none)
    (z_isinstance : PySem.W.nsIn K mainGlobals "isinstance" = some none)
    (z_len : PySem.W.nsIn K mainGlobals "len" = some none)
    (z_list : PySem.W.nsIn K mainGlobals "list" = some none)
    (z_min : PySem.W.nsIn K mainGlobals "min" = some none)
    (z_range : PySem.W.nsIn K mainGlobals "range" = some none)
    (z_set : PySem.W.nsIn K mainGlobals "set" = some none)
    (z_str : PySem.W.nsIn K mainGlobals "str" = some none)
    (z_tuple : PySem.W.nsIn K mainGlobals "tuple" = some none)
    (z_zip : PySem.W.nsIn K mainGlobals "zip" = some none)
    (g_gcd : PySem.W.nsIn K mainGlobals "gcd" = some (some (.builtin "math.gcd")))
    {t_MOST : Tok} (g_MOST : PySem.W.nsIn K mainGlobals "MOST" = some (some (.int 8 t_MOST)))
    : ∃ fd : FuncData, (∀ (s : Shared) (v : Value), BindsTo s fd ⟨[v], []⟩ [("script", v)]) ∧ ∀ base : Heap, K.In base → base.Ns mainGlobals mg → FnOk l.prog w K mg base CX0 11 fa fd ["script"] (spLawJ K) := by
  have e := hfa.symm.trans (PySem.W.mg_of KX G a24)
  cases e
  have F0 := fun_mk (st := topS 26) l0 c0 k0
  have b0 := F0.binds (ps := ["script"]) fun _ _ _ _ _ _ us hl => match us, hl with | [_], _ => rfl
  have F1 := fun_mk (st := topS 27) l1 c1 k1
  have b1 := F1.binds (ps := ["draw", "many"]) fun _ _ _ _ _ _ us hl => match us, hl with | [_, _], _ => rfl
  have F2 := fun_mk (st := topS 28) l2 c2 k2
  have b2 := F2.binds (ps := ["actual", "due"]) fun _ _ _ _ _ _ us hl => match us, hl with | [_, _], _ => rfl
  have F3 := fun_mk (st := topS 19) l3 c3 k3
  have b3 := F3.binds (ps := ["plan", "bottle"]) fun _ _ _ _ _ _ us hl => match us, hl with | [_, _], _ => rfl
  have F4 := fun_mk (st := topS 20) l4 c4 k4
  have b4 := F4.binds (ps := ["bottles", "plan"]) fun _ _ _ _ _ _ us hl => match us, hl with | [_, _], _ => rfl
  have F5 := fun_mk (st := topS 23) l5 c5 k5
  have b5 := F5.binds (ps := ["bottles", "plan", "ill"]) fun _ _ _ _ _ _ us hl => match us, hl with | [_, _, _], _ => rfl
  have F6 := fun_mk (st := topS 21) l6 c6 k6
  have b6 := F6.binds (ps := ["bottles"]) fun _ _ _ _ _ _ us hl => match us, hl with | [_], _ => rfl
  have F7 := fun_mk (st := topS 22) l7 c7 k7
  have b7 := F7.binds (ps := ["bottles"]) fun _ _ _ _ _ _ us hl => match us, hl with | [_], _ => rfl
  have F8 := fun_mk (st := topS 24) l8 c8 k8
  have b8 := F8.binds (ps := ["tasters"]) fun _ _ _ _ _ _ us hl => match us, hl with | [_], _ => rfl
  have F9 := fun_mk (st := topS 14) l9 c9 k9
  have b9 := F9.binds (ps := ["thing", "least", "most"]) fun _ _ _ _ _ _ us hl => match us, hl with | [_, _, _], _ => rfl
  have F10 := fun_mk (st := topS 12) l10 c10 k10
  have b10 := F10.binds (ps := ["thing"]) fun _ _ _ _ _ _ us hl => match us, hl with | [_], _ => rfl
  have F11 := fun_mk (st := topS 13) l11 c11 k11
  have b11 := F11.binds (ps := ["thing", "least", "most"]) fun _ _ _ _ _ _ us hl => match us, hl with | [_, _, _], _ => rfl
  have F12 := fun_mk (st := topS 15) l12 c12 k12
  have b12 := F12.binds (ps := ["entries"]) fun _ _ _ _ _ _ us hl => match us, hl with | [_], _ => rfl
  have F13 := fun_mk (st := topS 18) l13 c13 k13
  have b13 := F13.binds (ps := ["bottles", "thing"]) fun _ _ _ _ _ _ us hl => match us, hl with | [_, _], _ => rfl
  have F14 := fun_mk (st := topS 5) l14 c14 k14
  have b14 := F14.binds (ps := ["many", "some"]) fun _ _ _ _ _ _ us hl => match us, hl with | [_, _], _ => rfl
  have F15 := fun_mk (st := topS 4) l15 c15 k15
  have b15 := F15.binds (ps := ["guests"]) fun _ _ _ _ _ _ us hl => match us, hl with | [_], _ => rfl
  have F16 := fun_mk (st := topS 6) l16 c16 k16
  have b16 := F16.binds (ps := ["guests", "lucky"]) fun _ _ _ _ _ _ us hl => match us, hl with | [_, _], _ => rfl
  have F17 := fun_mk (st := topS 2) l17 c17 k17
  have b17 := F17.binds (ps := ["number", "by"]) fun _ _ _ _ _ _ us hl => match us, hl with | [_, _], _ => rfl
  have F18 := fun_mk (st := topS 7) l18 c18 k18
  have b18 := F18.binds (ps := ["guests"]) fun _ _ _ _ _ _ us hl => match us, hl with | [_], _ => rfl
  have F19 := fun_mk (st := topS 29) l19 c19 k19
  have b19 := F19.binds (ps := ["number", "by"]) fun _ _ _ _ _ _ us hl => match us, hl with | [_, _], _ => rfl
  have F20 := fun_mk (st := topS 9) l20 c20 k20
  have b20 := F20.binds (ps := ["row", "times"]) fun _ _ _ _ _ _ us hl => match us, hl with | [_, _], _ => rfl
  have F21 := fun_mk (st := topS 10) l21 c21 k21
  have b21 := F21.binds (ps := ["row"]) fun _ _ _ _ _ _ us hl => match us, hl with | [_], _ => rfl
  have F22 := fun_mk (st := topS 8) l22 c22 k22
  have b22 := F22.binds (ps := ["row"]) fun _ _ _ _ _ _ us hl => match us, hl with | [_], _ => rfl
  have F23 := fun_mk (st := topS 30) l23 c23 k23
  have b23 := F23.binds (ps := ["draw"]) fun _ _ _ _ _ _ us hl => match us, hl with | [_], _ => rfl
  have F24 := fun_mk (st := topS 31) l24 c24 k24
  have b24 := F24.binds (ps := ["script"]) fun _ _ _ _ _ _ us hl => match us, hl with | [_], _ => rfl
  let X : Txt K mg := {
    f_draw := f0, d_draw := _, o_draw := ⟨F0, PySem.W.mg_of KX G a0, b0⟩,
    f_next := f1, d_next := _, o_next := ⟨F1, PySem.W.mg_of KX G a1, b1⟩,
    f_same := f2, d_same := _, o_same := ⟨F2, PySem.W.mg_of KX G a2, b2⟩,
    f_tasters_of := f3, d_tasters_of := _, o_tasters_of := ⟨F3, PySem.W.mg_of KX G a3, b3⟩,
    f_is_sure := f4, d_is_sure := _, o_is_sure := ⟨F4, PySem.W.mg_of KX G a4, b4⟩,
    f_found_by := f5, d_found_by := _, o_found_by := ⟨F5, PySem.W.mg_of KX G a5, b5⟩,
    f_fewest_tasters := f6, d_fewest_tasters := _, o_fewest_tasters := ⟨F6, PySem.W.mg_of KX G a6, b6⟩,
    f_first_plan := f7, d_first_plan := _, o_first_plan := ⟨F7, PySem.W.mg_of KX G a7, b7⟩,
    f_by_two_rounds := f8, d_by_two_rounds := _, o_by_two_rounds := ⟨F8, PySem.W.mg_of KX G a8, b8⟩,
    f_is_row := f9, d_is_row := _, o_is_row := ⟨F9, PySem.W.mg_of KX G a9, b9⟩,
    f_is_integer := f10, d_is_integer := _, o_is_integer := ⟨F10, PySem.W.mg_of KX G a10, b10⟩,
    f_is_number := f11, d_is_number := _, o_is_number := ⟨F11, PySem.W.mg_of KX G a11, b11⟩,
    f_is_ascending := f12, d_is_ascending := _, o_is_ascending := ⟨F12, PySem.W.mg_of KX G a12, b12⟩,
    f_is_plan := f13, d_is_plan := _, o_is_plan := ⟨F13, PySem.W.mg_of KX G a13, b13⟩,
    f_choose := f14, d_choose := _, o_choose := ⟨F14, PySem.W.mg_of KX G a14, b14⟩,
    f_none_lucky := f15, d_none_lucky := _, o_none_lucky := ⟨F15, PySem.W.mg_of KX G a15, b15⟩,
    f_count_lucky := f16, d_count_lucky := _, o_count_lucky := ⟨F16, PySem.W.mg_of KX G a16, b16⟩,
    f_ratio := f17, d_ratio := _, o_ratio := ⟨F17, PySem.W.mg_of KX G a17, b17⟩,
    f_chance_of_none := f18, d_chance_of_none := _, o_chance_of_none := ⟨F18, PySem.W.mg_of KX G a18, b18⟩,
    f_law_low := f19, d_law_low := _, o_law_low := ⟨F19, PySem.W.mg_of KX G a19, b19⟩,
    f_applied := f20, d_applied := _, o_applied := ⟨F20, PySem.W.mg_of KX G a20, b20⟩,
    f_least_times := f21, d_least_times := _, o_least_times := ⟨F21, PySem.W.mg_of KX G a21, b21⟩,
    f_rings := f22, d_rings := _, o_rings := ⟨F22, PySem.W.mg_of KX G a22, b22⟩,
    f_law_hats := f23, d_law_hats := _, o_law_hats := ⟨F23, PySem.W.mg_of KX G a23, b23⟩,
    f_law := fa, d_law := _, o_law := ⟨F24, PySem.W.mg_of KX G a24, b24⟩,
    m_abs := PySem.W.mg_none_of KX G z_abs,
    m_all := PySem.W.mg_none_of KX G z_all,
    m_bool := PySem.W.mg_none_of KX G z_bool,
    m_enumerate := PySem.W.mg_none_of KX G z_enumerate,
    m_int := PySem.W.mg_none_of KX G z_int,
    m_isinstance := PySem.W.mg_none_of KX G z_isinstance,
    m_len := PySem.W.mg_none_of KX G z_len,
    m_list := PySem.W.mg_none_of KX G z_list,
    m_min := PySem.W.mg_none_of KX G z_min,
    m_range := PySem.W.mg_none_of KX G z_range,
    m_set := PySem.W.mg_none_of KX G z_set,
    m_str := PySem.W.mg_none_of KX G z_str,
    m_tuple := PySem.W.mg_none_of KX G z_tuple,
    m_zip := PySem.W.mg_none_of KX G z_zip,
    m_gcd := PySem.W.mg_of KX G g_gcd,
    v_MOST := glb_int (PySem.W.mg_of KX G g_MOST) }
  exact ⟨X.d_law, fun s v => .of_eq rfl, fun base _ _ => law_top (ok_law X) hlaw⟩
end K18

open PySem PySem.W PyProof.Rows in
theorem PySem.Challenge.cw_hoteldays_k18_whole_tasters_and_hats_holds : PySem.Challenge.rw_hoteldays_k18_whole_tasters_and_hats.Holds := by
  w_on; o_law; k_head; (case hw => w_witness2)
  k_fill
  refine J.walkJ (l := PySem.Challenge.rw_hoteldays_k18_whole_tasters_and_hats) (k := 11) rfl rfl ⟨rfl, by decide, by decide⟩ (fun w h Y => PySem.W.kIn_of Y) ?F
  case F =>
    intro w mg fa h KX G hmg
    refine' K18.all_mk K18.law_holds KX G hmg ?a0 ?l0 ?c0 ?k0 ?a1 ?l1 ?c1 ?k1 ?a2 ?l2 ?c2 ?k2 ?a3 ?l3 ?c3 ?k3 ?a4 ?l4 ?c4 ?k4 ?a5 ?l5 ?c5 ?k5 ?a6 ?l6 ?c6 ?k6 ?a7 ?l7 ?c7 ?k7 ?a8 ?l8 ?c8 ?k8 ?a9 ?l9 ?c9 ?k9 ?a10 ?l10 ?c10 ?k10 ?a11 ?l11 ?c11 ?k11 ?a12 ?l12 ?c12 ?k12 ?a13 ?l13 ?c13 ?k13 ?a14 ?l14 ?c14 ?k14 ?a15 ?l15 ?c15 ?k15 ?a16 ?l16 ?c16 ?k16 ?a17 ?l17 ?c17 ?k17 ?a18 ?l18 ?c18 ?k18 ?a19 ?l19 ?c19 ?k19 ?a20 ?l20 ?c20 ?k20 ?a21 ?l21 ?c21 ?k21 ?a22 ?l22 ?c22 ?k22 ?a23 ?l23 ?c23 ?k23 ?a24 ?l24 ?c24 ?k24 ?z_abs ?z_all ?z_bool ?z_enumerate ?z_int ?z_isinstance ?z_len ?z_list ?z_min ?z_range ?z_set ?z_str ?z_tuple ?z_zip ?g_gcd ?g_MOST
    (case a0 => k_is)
    (case l0 => k_is)
    (case c0 => k_is)
    (case k0 => k_is)
    (case a1 => k_is)
    (case l1 => k_is)
    (case c1 => k_is)
    (case k1 => k_is)
    (case a2 => k_is)
    (case l2 => k_is)
    (case c2 => k_is)
    (case k2 => k_is)
    (case a3 => k_is)
    (case l3 => k_is)
    (case c3 => k_is)
    (case k3 => k_is)
    (case a4 => k_is)
    (case l4 => k_is)
    (case c4 => k_is)
    (case k4 => k_is)
    (case a5 => k_is)
    (case l5 => k_is)
    (case c5 => k_is)
    (case k5 => k_is)
    (case a6 => k_is)
    (case l6 => k_is)
    (case c6 => k_is)
    (case k6 => k_is)
    (case a7 => k_is)
    (case l7 => k_is)
    (case c7 => k_is)
    (case k7 => k_is)
    (case a8 => k_is)
    (case l8 => k_is)
    (case c8 => k_is)
    (case k8 => k_is)
    (case a9 => k_is)
    (case l9 => k_is)
    (case c9 => k_is)
    (case k9 => k_is)
    (case a10 => k_is)
    (case l10 => k_is)
    (case c10 => k_is)
    (case k10 => k_is)
    (case a11 => k_is)
    (case l11 => k_is)
    (case c11 => k_is)
    (case k11 => k_is)
    (case a12 => k_is)
    (case l12 => k_is)
    (case c12 => k_is)
    (case k12 => k_is)
    (case a13 => k_is)
    (case l13 => k_is)
    (case c13 => k_is)
    (case k13 => k_is)
    (case a14 => k_is)
    (case l14 => k_is)
    (case c14 => k_is)
    (case k14 => k_is)
    (case a15 => k_is)
    (case l15 => k_is)
    (case c15 => k_is)
    (case k15 => k_is)
    (case a16 => k_is)
    (case l16 => k_is)
    (case c16 => k_is)
    (case k16 => k_is)
    (case a17 => k_is)
    (case l17 => k_is)
    (case c17 => k_is)
    (case k17 => k_is)
    (case a18 => k_is)
    (case l18 => k_is)
    (case c18 => k_is)
    (case k18 => k_is)
    (case a19 => k_is)
    (case l19 => k_is)
    (case c19 => k_is)
    (case k19 => k_is)
    (case a20 => k_is)
    (case l20 => k_is)
    (case c20 => k_is)
    (case k20 => k_is)
    (case a21 => k_is)
    (case l21 => k_is)
    (case c21 => k_is)
    (case k21 => k_is)
    (case a22 => k_is)
    (case l22 => k_is)
    (case c22 => k_is)
    (case k22 => k_is)
    (case a23 => k_is)
    (case l23 => k_is)
    (case c23 => k_is)
    (case k23 => k_is)
    (case a24 => k_is)
    (case l24 => k_is)
    (case c24 => k_is)
    (case k24 => k_is)
    (case z_abs => k_is)
    (case z_all => k_is)
    (case z_bool => k_is)
    (case z_enumerate => k_is)
    (case z_int => k_is)
    (case z_isinstance => k_is)
    (case z_len => k_is)
    (case z_list => k_is)
    (case z_min => k_is)
    (case z_range => k_is)
    (case z_set => k_is)
    (case z_str => k_is)
    (case z_tuple => k_is)
    (case z_zip => k_is)
    (case g_gcd => k_is)
    (case g_MOST => k_is)
#print axioms PySem.Challenge.cw_hoteldays_k18_whole_tasters_and_hats_holds
