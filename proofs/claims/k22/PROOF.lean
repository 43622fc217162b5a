import PyProof.Rows.All
import Wide.All
import OpenK.AllK
import Wide.FinOn
import HandS.ForMost
import HandS.ForExc
import KE.SortData
import KE.DataMinMax
import KE.DataCmp
import HandS.TupAny
import HandS.TupMul
import HandS.TupLen
import HandS.Deep
import HandS.Conv
import HandS.Zip
import HandS.Style
import KE.GoesEnum
import KE.GoesMore
import HandS.IsInst
import HandS.Text
import HandS.TupLe
import KE.KTupSum
import PyProof.P3In
import PyProof.StrOps2
import HandS.RevRange
import PySem.Challenge.RW_hoteldays_k22_whole_places_and_vouchers
set_option Elab.async false
set_option linter.all false
set_option maxRecDepth 100000
set_option maxHeartbeats 4000000
namespace J
open PySem L2 PySem.Spec PyProof.Rows

/-! ### data in a heap -/
def kD : Key → PyData
  | .inl i => .int i
  | .inr x => .str x
abbrev LN : Nat := 16777216
theorem lnS {n : Nat} (h : n ≤ LN) : n ≤ sizeLine := by rw [sizeLine_eq]; exact h
theorem lnS' {n : Nat} (h : n < LN) : n < sizeLine := by rw [sizeLine_eq]; exact h
/-- a text that may stand -/
def sOk (x : Str) : Prop := PyData.strOk x = true ∧ x.length ≤ LN
def tD (k : List Key) : PyData := .tuple (k.map kD)
mutual
inductive Rp (K : PySem.W.Frag) (C : Hp) : V → PyData → Prop
  | non : Rp K C .non .none
  | bl (b : Bool) : Rp K C (.bl b) (.bool b)
  | int (i : Int) : Rp K C (.int i) (.int i)
  | str {x : Str} : sOk x → Rp K C (.str x) (.str x)
  | lst {a : Addr} {vs : List V} {ds : List PyData} : C a = some (.lst vs) → vs.length ≤ LN → Rps K C vs ds → Rp K C (.ref a) (.list ds)
  | tup {a : Addr} {vs : List V} {ds : List PyData} : SqT K C a vs → vs.length ≤ LN → Rps K C vs ds → Rp K C (.ref a) (.tuple ds)
  | scr {a : Addr} {vs : List V} {ds : List PyData} : SqL K C a vs → vs.length ≤ LN → Rps K C vs ds → Rp K C (.ref a) (.dict [(.none, .list ds)])
  | dK {a : Addr} {kvs : List (Key × V)} {es : List (PyData × PyData)} : C a = some (.dK kvs) → kvs.length ≤ LN → RpK K C kvs es → Rp K C (.ref a) (.dict es)
  | dT {a : Addr} {kvs : List (List Key × V)} {es : List (PyData × PyData)} : C a = some (.dT kvs) → kvs.length ≤ LN → RpT K C kvs es → Rp K C (.ref a) (.dict es)
inductive Rps (K : PySem.W.Frag) (C : Hp) : List V → List PyData → Prop
  | nil : Rps K C [] []
  | cons {v : V} {vs : List V} {d : PyData} {ds : List PyData} : Rp K C v d → Rps K C vs ds → Rps K C (v :: vs) (d :: ds)
inductive RpK (K : PySem.W.Frag) (C : Hp) : List (Key × V) → List (PyData × PyData) → Prop
  | nil : RpK K C [] []
  | cons {k : Key} {v : V} {r : List (Key × V)} {d : PyData} {es : List (PyData × PyData)} : Rp K C v d → RpK K C r es → RpK K C ((k, v) :: r) ((kD k, d) :: es)
inductive RpT (K : PySem.W.Frag) (C : Hp) : List (List Key × V) → List (PyData × PyData) → Prop
  | nil : RpT K C [] []
  | cons {k : List Key} {v : V} {r : List (List Key × V)} {d : PyData} {es : List (PyData × PyData)} : Rp K C v d → RpT K C r es → RpT K C ((k, v) :: r) ((tD k, d) :: es)
end
abbrev Ex (H H' : Hp) : Prop := ∀ a o, H a = some o → H' a = some o
theorem Ex.refl (H : Hp) : Ex H H := fun _ _ h => h
theorem Ex.trans {H H1 H2 : Hp} (a : Ex H H1) (b : Ex H1 H2) : Ex H H2 := fun x o h => b x o (a x o h)
theorem Ex.new {H : Hp} {p : Addr} {o : HO} (h : H p = none) : Ex H (upd H p o) := fun a u e => by
  rw [upd_ne (ne_of_none e h)]; exact e
theorem Ex.rd {H H' : Hp} {a : Addr} {u : HO} (e : Ex H H') (h : Rd H a u) : Rd H' a u := by
  rcases h with h | ⟨o, h⟩
  · exact Or.inl (e a _ h)
  · exact Or.inr ⟨o, e a _ h⟩
theorem Ex.l {K : PySem.W.Frag} {H H' : Hp} {a : Addr} {xs : List V} (e : Ex H H') (h : SqL K H a xs) : SqL K H' a xs := by
  rcases h with h | h
  · exact Or.inl (e.rd h)
  · exact Or.inr h
theorem Ex.t {K : PySem.W.Frag} {H H' : Hp} {a : Addr} {xs : List V} (e : Ex H H') (h : SqT K H a xs) : SqT K H' a xs := by
  rcases h with h | h
  · exact Or.inl (e.rd h)
  · exact Or.inr h
mutual
theorem Rp.mono {K : PySem.W.Frag} {C C' : Hp} (e : Ex C C') : ∀ {v : V} {d : PyData}, Rp K C v d → Rp K C' v d
  | _, _, .non => .non
  | _, _, .bl b => .bl b
  | _, _, .int i => .int i
  | _, _, .str h => .str h
  | _, _, .lst h l r => .lst (e _ _ h) l (Rps.mono e r)
  | _, _, .tup h l r => .tup (e.t h) l (Rps.mono e r)
  | _, _, .scr h l r => .scr (e.l h) l (Rps.mono e r)
  | _, _, .dK h l r => .dK (e _ _ h) l (RpK.mono e r)
  | _, _, .dT h l r => .dT (e _ _ h) l (RpT.mono e r)
theorem Rps.mono {K : PySem.W.Frag} {C C' : Hp} (e : Ex C C') : ∀ {v : List V} {d : List PyData}, Rps K C v d → Rps K C' v d
  | _, _, .nil => .nil
  | _, _, .cons h r => .cons (Rp.mono e h) (Rps.mono e r)
theorem RpK.mono {K : PySem.W.Frag} {C C' : Hp} (e : Ex C C') : ∀ {v : List (Key × V)} {d : List (PyData × PyData)}, RpK K C v d → RpK K C' v d
  | _, _, .nil => .nil
  | _, _, .cons h r => .cons (Rp.mono e h) (RpK.mono e r)
theorem RpT.mono {K : PySem.W.Frag} {C C' : Hp} (e : Ex C C') : ∀ {v : List (List Key × V)} {d : List (PyData × PyData)}, RpT K C v d → RpT K C' v d
  | _, _, .nil => .nil
  | _, _, .cons h r => .cons (Rp.mono e h) (RpT.mono e r)
end
section
variable {K : PySem.W.Frag} {C : Hp}
theorem Rps.len : ∀ {vs : List V} {ds : List PyData}, Rps K C vs ds → vs.length = ds.length
  | _, _, .nil => rfl
  | _, _, .cons _ r => by simp only [List.length_cons, r.len]
theorem Rps.get : ∀ {vs : List V} {ds : List PyData} {i : Nat} {v : V}, Rps K C vs ds → vs[i]? = some v → ∃ d, ds[i]? = some d ∧ Rp K C v d
  | _, _, 0, _, .cons h _, e => by simp at e; subst e; exact ⟨_, rfl, h⟩
  | _, _, i + 1, _, .cons _ r, e => by
    obtain ⟨d, h1, h2⟩ := r.get (i := i) (by simpa using e)
    exact ⟨d, by simpa using h1, h2⟩
theorem Rps.getD : ∀ {vs : List V} {ds : List PyData} {i : Nat} {d : PyData}, Rps K C vs ds → ds[i]? = some d → ∃ v, vs[i]? = some v ∧ Rp K C v d
  | _, _, 0, _, .cons h _, e => by simp at e; subst e; exact ⟨_, rfl, h⟩
  | _, _, i + 1, _, .cons _ r, e => by
    obtain ⟨d, h1, h2⟩ := r.getD (i := i) (by simpa using e)
    exact ⟨d, by simpa using h1, h2⟩
theorem Rps.append : ∀ {vs ws : List V} {ds es : List PyData}, Rps K C vs ds → Rps K C ws es → Rps K C (vs ++ ws) (ds ++ es)
  | _, _, _, _, .nil, s => s
  | _, _, _, _, .cons h r, s => .cons h (r.append s)
theorem Rps.take : ∀ {vs : List V} {ds : List PyData} (n : Nat), Rps K C vs ds → Rps K C (vs.take n) (ds.take n)
  | _, _, 0, _ => .nil
  | _, _, _ + 1, .nil => .nil
  | _, _, n + 1, .cons h r => .cons h (r.take n)
theorem Rps.drop : ∀ {vs : List V} {ds : List PyData} (n : Nat), Rps K C vs ds → Rps K C (vs.drop n) (ds.drop n)
  | _, _, 0, r => r
  | _, _, _ + 1, .nil => .nil
  | _, _, n + 1, .cons _ r => r.drop n
theorem Rps.set : ∀ {vs : List V} {ds : List PyData} {v : V} {d : PyData} (i : Nat), Rps K C vs ds → Rp K C v d → Rps K C (vs.set i v) (ds.set i d)
  | _, _, _, _, _, .nil, _ => .nil
  | _, _, _, _, 0, .cons _ r, q => .cons q r
  | _, _, _, _, i + 1, .cons h r, q => .cons h (Rps.set i r q)
theorem Rps.int : ∀ {vs : List V} {ns : List Int}, Rps K C vs (ns.map .int) → vs = ns.map V.int
  | _, [], .nil => rfl
  | _, n :: ns, .cons h r => by cases h; rw [List.map_cons, r.int]
theorem Rps.ints : ∀ {ns : List Int}, Rps K C (ns.map V.int) (ns.map .int)
  | [] => .nil
  | n :: ns => .cons (.int n) Rps.ints
theorem Rps.bls : ∀ {vs : List V} {ns : List Bool}, Rps K C vs (ns.map .bool) → vs = ns.map V.bl
  | _, [], .nil => rfl
  | _, n :: ns, .cons h r => by cases h; rw [List.map_cons, r.bls]
theorem Rps.strs : ∀ {vs : List V} {ns : List Str}, Rps K C vs (ns.map .str) → vs = ns.map V.str
  | _, [], .nil => rfl
  | _, n :: ns, .cons h r => by cases h; rw [List.map_cons, r.strs]
theorem Rps.ofStrs : ∀ {ns : List Str}, (∀ x ∈ ns, sOk x) → Rps K C (ns.map V.str) (ns.map .str)
  | [], _ => .nil
  | n :: ns, h => .cons (.str (h n (by simp))) (Rps.ofStrs fun x hx => h x (by simp [hx]))
theorem Rps.ok : ∀ {ns : List Str} {vs : List V}, Rps K C vs (ns.map .str) → ∀ x ∈ ns, sOk x
  | [], _, .nil => by simp
  | n :: ns, _, .cons h r => fun x hx => by
    cases h with
    | str h =>
    rcases List.mem_cons.mp hx with rfl | hx
    · exact h
    · exact r.ok x hx
end
/- no dict within -/
mutual
def pure0 : PyData → Bool
  | .none => true
  | .bool _ => true
  | .int _ => true
  | .str _ => true
  | .list xs => pureAll xs
  | .tuple xs => pureAll xs
  | .dict _ => false
def pureAll : List PyData → Bool
  | [] => true
  | x :: xs => pure0 x && pureAll xs
end
mutual
theorem Rp.dp {K : PySem.W.Frag} {C : Hp} : ∀ {v : V} {d : PyData}, Rp K C v d → pure0 d = true → Dp K C v d
  | _, _, .non, _ => .non
  | _, _, .bl b, _ => .bl b
  | _, _, .int i, _ => .int i
  | _, _, .str (x := x) _, _ => .str x
  | _, _, .lst h _ r, q => .lst (.inl (.inl h)) (Rps.dps r (by simpa [pure0] using q))
  | _, _, .tup h _ r, q => .tup h (Rps.dps r (by simpa [pure0] using q))
  | _, _, .scr h _ r, q => by simp [pure0] at q
  | _, _, .dK h _ r, q => by simp [pure0] at q
  | _, _, .dT h _ r, q => by simp [pure0] at q
theorem Rps.dps {K : PySem.W.Frag} {C : Hp} : ∀ {v : List V} {d : List PyData}, Rps K C v d → pureAll d = true → DpAll K C v d
  | _, _, .nil, _ => .nil
  | _, _, .cons h r, q => by
    rw [pureAll, Bool.and_eq_true] at q
    exact .cons (Rp.dp h q.1) (Rps.dps r q.2)
end

/-- no dict within, nested at most n deep -/
def shN : Nat → PyData → Bool
  | _, .none => true
  | _, .bool _ => true
  | _, .int _ => true
  | _, .str _ => true
  | n + 1, .list xs => xs.all (shN n)
  | n + 1, .tuple xs => xs.all (shN n)
  | 0, .list _ => false
  | 0, .tuple _ => false
  | _, .dict _ => false
theorem depthAll_le : ∀ {n : Nat} {xs : List PyData}, (∀ x ∈ xs, x.depth ≤ n) → PyData.depthAll xs ≤ n
  | n, [], _ => by simp [PyData.depthAll]
  | n, x :: xs, h => by
    rw [PyData.depthAll]
    exact Nat.max_le.mpr ⟨h x (by simp), depthAll_le fun y hy => h y (by simp [hy])⟩
theorem pureAll_of : ∀ {xs : List PyData}, (∀ x ∈ xs, pure0 x = true) → pureAll xs = true
  | [], _ => rfl
  | x :: xs, h => by
    rw [pureAll, h x (by simp), pureAll_of fun y hy => h y (by simp [hy])]; rfl
theorem shN_of : ∀ {n : Nat} {d : PyData}, shN n d = true → pure0 d = true ∧ d.depth ≤ n
  | _, .none, _ => ⟨rfl, by simp [PyData.depth]⟩
  | _, .bool _, _ => ⟨rfl, by simp [PyData.depth]⟩
  | _, .int _, _ => ⟨rfl, by simp [PyData.depth]⟩
  | _, .str _, _ => ⟨rfl, by simp [PyData.depth]⟩
  | n + 1, .list xs, h => by
    have h' : ∀ x ∈ xs, shN n x = true := by simpa [shN] using h
    exact ⟨by rw [pure0]; exact pureAll_of fun x hx => (shN_of (h' x hx)).1, by rw [PyData.depth]; have := depthAll_le fun x hx => (shN_of (h' x hx)).2; omega⟩
  | n + 1, .tuple xs, h => by
    have h' : ∀ x ∈ xs, shN n x = true := by simpa [shN] using h
    exact ⟨by rw [pure0]; exact pureAll_of fun x hx => (shN_of (h' x hx)).1, by rw [PyData.depth]; have := depthAll_le fun x hx => (shN_of (h' x hx)).2; omega⟩
  | 0, .list _, h => by simp [shN] at h
  | 0, .tuple _, h => by simp [shN] at h
  | 0, .dict _, h => by simp [shN] at h
  | n + 1, .dict _, h => by simp [shN] at h
mutual
theorem Rp.can {K : PySem.W.Frag} {C : Hp} : ∀ {v : V} {d : PyData}, Rp K C v d → pure0 d = true → d.canLay0 = true
  | _, _, .non, _ => rfl
  | _, _, .bl b, _ => rfl
  | _, _, .int i, _ => rfl
  | _, _, .str h, _ => h.1
  | _, _, .lst h _ r, q => by rw [PyData.canLay0]; exact Rps.can r (by simpa [pure0] using q)
  | _, _, .tup h _ r, q => by rw [PyData.canLay0]; exact Rps.can r (by simpa [pure0] using q)
  | _, _, .scr h _ r, q => by simp [pure0] at q
  | _, _, .dK h _ r, q => by simp [pure0] at q
  | _, _, .dT h _ r, q => by simp [pure0] at q
theorem Rps.can {K : PySem.W.Frag} {C : Hp} : ∀ {v : List V} {d : List PyData}, Rps K C v d → pureAll d = true → PyData.canLayAll0 d = true
  | _, _, .nil, _ => rfl
  | _, _, .cons h r, q => by
    rw [pureAll, Bool.and_eq_true] at q
    rw [PyData.canLayAll0, Rp.can h q.1, Rps.can r q.2]; rfl
end
theorem Rp.shaped {K : PySem.W.Frag} {C : Hp} {v : V} {d : PyData} (h : Rp K C v d) (s : shN 64 d = true) : SeqAt.shaped d = true := by
  obtain ⟨p, q⟩ := shN_of s
  unfold SeqAt.shaped
  rw [h.can p, decide_eq_true q]; rfl
theorem Rp.dp' {K : PySem.W.Frag} {C : Hp} {v : V} {d : PyData} (h : Rp K C v d) (s : shN 64 d = true) : Dp K C v d := h.dp (shN_of s).1

/-- the size that everything has -/
def lenOk : PyData → Prop
  | .list ds => ds.length ≤ LN
  | .tuple ds => ds.length ≤ LN
  | .dict es => es.length ≤ LN
  | .str x => sOk x
  | _ => True
theorem RpK.len {K : PySem.W.Frag} {C : Hp} : ∀ {vs : List (Key × V)} {ds : List (PyData × PyData)}, RpK K C vs ds → vs.length = ds.length
  | _, _, .nil => rfl
  | _, _, .cons _ r => by simp only [List.length_cons, r.len]
theorem RpT.len {K : PySem.W.Frag} {C : Hp} : ∀ {vs : List (List Key × V)} {ds : List (PyData × PyData)}, RpT K C vs ds → vs.length = ds.length
  | _, _, .nil => rfl
  | _, _, .cons _ r => by simp only [List.length_cons, r.len]
theorem Rp.lenOk {K : PySem.W.Frag} {C : Hp} {v : V} {d : PyData} (h : Rp K C v d) : lenOk d := by
  cases h with
  | lst _ l r => show _ ≤ LN; rw [← r.len]; exact l
  | tup _ l r => show _ ≤ LN; rw [← r.len]; exact l
  | scr _ l r => show 1 ≤ LN; decide
  | dK _ l r => show _ ≤ LN; rw [← r.len]; exact l
  | dT _ l r => show _ ≤ LN; rw [← r.len]; exact l
  | str h => exact h
  | _ => trivial

/-! ### the environment: what is known of each slot -/
inductive Sl where
  /-- nothing is known -/
  | u
  /-- the datum, for ever -/
  | d (x : PyData)
  /-- the datum, an object of the def's own that may be changed (its address, where that is told) -/
  | o (q : Option Addr) (x : PyData)
abbrev Env' := List Sl
/-- the object that bears a datum that may change -/
def Ow (K : PySem.W.Frag) (C : Hp) (ho : Option HO) : PyData → Prop
  | .list ds => ∃ vs, ho = some (.lst vs) ∧ vs.length ≤ LN ∧ Rps K C vs ds
  | .dict es => (∃ kvs, ho = some (.dK kvs) ∧ kvs.length ≤ LN ∧ RpK K C kvs es) ∨ (∃ kvs, ho = some (.dT kvs) ∧ kvs.length ≤ LN ∧ RpT K C kvs es)
  | _ => False
theorem Ow.mono {K : PySem.W.Frag} {C C' : Hp} {ho : Option HO} (e : Ex C C') {d : PyData} (h : Ow K C ho d) : Ow K C' ho d := by
  cases d with
  | list ds => obtain ⟨vs, a, l, r⟩ := h; exact ⟨vs, a, l, r.mono e⟩
  | dict es =>
    rcases h with ⟨vs, a, l, r⟩ | ⟨vs, a, l, r⟩
    · exact .inl ⟨vs, a, l, r.mono e⟩
    · exact .inr ⟨vs, a, l, r.mono e⟩
  | _ => exact h.elim
theorem Ow.there {K : PySem.W.Frag} {C : Hp} {ho : Option HO} {d : PyData} (h : Ow K C ho d) : ho ≠ none := by
  cases d with
  | list ds => obtain ⟨vs, rfl, l, r⟩ := h; simp
  | dict es => rcases h with ⟨vs, rfl, l, r⟩ | ⟨vs, rfl, l, r⟩ <;> simp
  | _ => exact h.elim
/-- an owned object that is added to the frozen ones -/
theorem Ow.frz {K : PySem.W.Frag} {C : Hp} {p : Addr} {o : HO} {d : PyData} (h : Ow K C (some o) d) (hp : C p = none) : Rp K (upd C p o) (.ref p) d := by
  cases d with
  | list ds => obtain ⟨vs, e, l, r⟩ := h; cases e; exact .lst upd_same l (r.mono (Ex.new hp))
  | dict es =>
    rcases h with ⟨vs, e, l, r⟩ | ⟨vs, e, l, r⟩
    · cases e; exact .dK upd_same l (r.mono (Ex.new hp))
    · cases e; exact .dT upd_same l (r.mono (Ex.new hp))
  | _ => exact h.elim
structure EnvC (K : PySem.W.Frag) (R C : Hp) (env : Env') (σ : L2.St) (H : Hp) : Prop where
  len : env.length = σ.length
  cH : Ex C H
  rH : Ex R H
  rc : ∀ p, R p ≠ none → C p = none
  dat : ∀ (i : Nat) (x : PyData), env[i]? = some (.d x) → ∃ v : V, σ[i]? = some (some v) ∧ Rp K C v x
  own : ∀ (i : Nat) (q : Option Addr) (x : PyData), env[i]? = some (.o q x) → ∃ p : Addr, σ[i]? = some (some (.ref p)) ∧ (∀ p', q = some p' → p' = p) ∧ C p = none ∧ R p = none ∧ Ow K C (H p) x
  apart : ∀ (i j : Nat) (q q' : Option Addr) (x y : PyData) (p : Addr), env[i]? = some (.o q x) → env[j]? = some (.o q' y) → σ[i]? = some (some (.ref p)) → σ[j]? = some (some (.ref p)) → i = j
section
variable {K : PySem.W.Frag} {R C C' H H' : Hp} {env env' : Env'} {σ : L2.St}
/-- a new object, known for ever -/
theorem EnvC.new {p : Addr} {o : HO} (E : EnvC K R C env σ H) (hp : H p = none) : EnvC K R (upd C p o) env σ (upd H p o) := by
  have cp : C p = none := by
    cases q : C p with
    | none => rfl
    | some u => rw [E.cH _ _ q] at hp; cases hp
  have rp : R p = none := by
    cases q : R p with
    | none => rfl
    | some u => rw [E.rH _ _ q] at hp; cases hp
  refine ⟨E.len, fun a u e => ?_, fun a u e => ?_, fun a e => ?_, fun i x e => ?_, fun i k x e => ?_, E.apart⟩
  · by_cases h : a = p
    · subst h; rw [upd_same] at e ⊢; exact e
    · rw [upd_ne h] at e ⊢; exact E.cH _ _ e
  · rw [upd_ne (ne_of_none e rp)]; exact E.rH _ _ e
  · have ha : a ≠ p := fun h => by subst h; exact e rp
    rw [upd_ne ha]; exact E.rc _ e
  · obtain ⟨v, h1, h2⟩ := E.dat i x e
    exact ⟨v, h1, h2.mono (Ex.new cp)⟩
  · obtain ⟨q, h1, h0, h2, h3, h4⟩ := E.own i k x e
    have hq : q ≠ p := fun h => by subst h; exact h4.there hp
    exact ⟨q, h1, h0, by rw [upd_ne hq]; exact h2, h3, by rw [upd_ne hq]; exact h4.mono (Ex.new cp)⟩
/-- a new object, not yet given to anybody -/
theorem EnvC.newO {p : Addr} {o : HO} (E : EnvC K R C env σ H) (hp : H p = none) : EnvC K R C env σ (upd H p o) := by
  refine ⟨E.len, E.cH.trans (Ex.new hp), E.rH.trans (Ex.new hp), E.rc, E.dat, fun i k x e => ?_, E.apart⟩
  obtain ⟨q, h1, h0, h2, h3, h4⟩ := E.own i k x e
  have hq : q ≠ p := fun h => by subst h; exact h4.there hp
  exact ⟨q, h1, h0, h2, h3, by rw [upd_ne hq]; exact h4⟩
theorem EnvC.cN (E : EnvC K R C env σ H) {p : Addr} (hp : H p = none) : C p = none := by
  cases q : C p with
  | none => rfl
  | some u => rw [E.cH _ _ q] at hp; cases hp
theorem EnvC.rN (E : EnvC K R C env σ H) {p : Addr} (hp : H p = none) : R p = none := by
  cases q : R p with
  | none => rfl
  | some u => rw [E.rH _ _ q] at hp; cases hp
/-- a slot that is not owned may forget -/
inductive SlLe : Sl → Sl → Prop
  | u {s : Sl} : SlLe .u s
  | r {s : Sl} : SlLe s s
/-- env' knows less than env -/
def Le (env' env : Env') : Prop := env'.length = env.length ∧ ∀ (i : Nat) (s : Sl), env'[i]? = some s → s = .u ∨ env[i]? = some s
theorem Le.refl (env : Env') : Le env env := ⟨rfl, fun _ _ h => .inr h⟩
theorem Le.trans {a b c : Env'} (h : Le a b) (k : Le b c) : Le a c := ⟨h.1.trans k.1, fun i s e => by
  rcases h.2 i s e with z | z
  · exact .inl z
  · exact k.2 i s z⟩
theorem EnvC.le (E : EnvC K R C env σ H) (l : Le env' env) : EnvC K R C env' σ H := by
  refine ⟨l.1.trans E.len, E.cH, E.rH, E.rc, fun i x e => ?_, fun i k x e => ?_, fun i j k k' x y p e1 e2 s1 s2 => ?_⟩
  · rcases l.2 i _ e with z | z
    · cases z
    · exact E.dat i x z
  · rcases l.2 i _ e with z | z
    · cases z
    · exact E.own i k x z
  · rcases l.2 i _ e1 with z | z
    · cases z
    · rcases l.2 j _ e2 with z' | z'
      · cases z'
      · exact E.apart i j k k' x y p z z' s1 s2
/-- the slot i set to a datum known for ever -/
theorem EnvC.set {v : V} {x : PyData} (E : EnvC K R C env σ H) (i : Nat) (r : Rp K C v x) : EnvC K R C (env.set i (.d x)) (σ.set i (some v)) H := by
  refine ⟨by simp [E.len], E.cH, E.rH, E.rc, fun j y e => ?_, fun j w y e => ?_, fun j k w w' y z p e1 e2 s1 s2 => ?_⟩
  · by_cases h : i = j
    · subst h
      rw [List.getElem?_set_self'] at e ⊢
      cases q : env[i]? with
      | none => rw [q] at e; cases e
      | some w =>
        rw [q] at e
        have hl : i < σ.length := by rw [← E.len]; exact (List.getElem?_eq_some_iff.mp q).1
        rw [List.getElem?_eq_getElem hl]
        simp at e; subst e
        exact ⟨v, by simp, r⟩
    · rw [List.getElem?_set_ne h] at e ⊢; exact E.dat j y e
  · by_cases h : i = j
    · subst h
      rw [List.getElem?_set_self'] at e
      cases q : env[i]? <;> rw [q] at e <;> simp at e
    · rw [List.getElem?_set_ne h] at e ⊢; exact E.own j w y e
  · have h1 : i ≠ j := fun h => by
      subst h; rw [List.getElem?_set_self'] at e1
      cases q : env[i]? <;> rw [q] at e1 <;> simp at e1
    have h2 : i ≠ k := fun h => by
      subst h; rw [List.getElem?_set_self'] at e2
      cases q : env[i]? <;> rw [q] at e2 <;> simp at e2
    rw [List.getElem?_set_ne h1] at e1 s1
    rw [List.getElem?_set_ne h2] at e2 s2
    exact E.apart j k w w' y z p e1 e2 s1 s2
/-- not an object that the environment owns -/
def NotOwn (env : Env') (σ : L2.St) (p : Addr) : Prop := ∀ (i : Nat) (k : Option Addr) (x : PyData), env[i]? = some (.o k x) → σ[i]? ≠ some (some (.ref p))
theorem EnvC.notOwn (E : EnvC K R C env σ H) {p : Addr} (hp : H p = none) : NotOwn env σ p := fun i k x e s => by
  obtain ⟨q, h1, h0, h2, h3, h4⟩ := E.own i k x e
  rw [h1] at s; cases s
  exact h4.there hp
/-- the slot i set to an object of its own -/
theorem EnvC.setO {p : Addr} {x : PyData} (E : EnvC K R C env σ H) (i : Nat) (cp : C p = none) (rp : R p = none) (no : NotOwn env σ p) (ow : Ow K C (H p) x) : EnvC K R C (env.set i (.o none x)) (σ.set i (some (.ref p))) H := by
  refine ⟨by simp [E.len], E.cH, E.rH, E.rc, fun j y e => ?_, fun j w y e => ?_, fun j k w w' y z q e1 e2 s1 s2 => ?_⟩
  · by_cases h : i = j
    · subst h
      rw [List.getElem?_set_self'] at e
      cases q : env[i]? <;> rw [q] at e <;> simp at e
    · rw [List.getElem?_set_ne h] at e ⊢; exact E.dat j y e
  · by_cases h : i = j
    · subst h
      rw [List.getElem?_set_self'] at e ⊢
      cases q : env[i]? with
      | none => rw [q] at e; cases e
      | some w2 =>
        rw [q] at e
        have hl : i < σ.length := by rw [← E.len]; exact (List.getElem?_eq_some_iff.mp q).1
        rw [List.getElem?_eq_getElem hl]
        simp at e; obtain ⟨e', e⟩ := e; subst e; subst e'
        exact ⟨p, by simp, fun _ z => (by cases z), cp, rp, ow⟩
    · rw [List.getElem?_set_ne h] at e ⊢; exact E.own j w y e
  · by_cases h1 : i = j
    · by_cases h2 : i = k
      · exact h1.symm.trans h2
      · subst h1
        rw [List.getElem?_set_ne h2] at e2 s2
        rw [List.getElem?_set_self'] at s1
        cases qq : σ[i]? with
        | none => rw [qq] at s1; cases s1
        | some w2 => rw [qq] at s1; simp at s1; subst s1; exact absurd s2 (no k _ z e2)
    · by_cases h2 : i = k
      · subst h2
        rw [List.getElem?_set_ne h1] at e1 s1
        rw [List.getElem?_set_self'] at s2
        cases qq : σ[i]? with
        | none => rw [qq] at s2; cases s2
        | some w2 => rw [qq] at s2; simp at s2; subst s2; exact absurd s1 (no j _ y e1)
      · rw [List.getElem?_set_ne h1] at e1 s1
        rw [List.getElem?_set_ne h2] at e2 s2
        exact E.apart j k w w' y z q e1 e2 s1 s2
/-- the object that slot i owns is changed -/
theorem EnvC.mutO {p : Addr} {x y : PyData} {o : HO} {i : Nat} {k0 : Option Addr} (E : EnvC K R C env σ H) (e : env[i]? = some (.o k0 x)) (s : σ[i]? = some (some (.ref p))) (cp : C p = none) (rp : R p = none) (ow : Ow K C (some o) y) : EnvC K R C (env.set i (.o k0 y)) σ (upd H p o) := by
  have hi : i < env.length := (List.getElem?_eq_some_iff.mp e).1
  refine ⟨by simp [E.len], fun a u q => by rw [upd_ne (ne_of_none q cp)]; exact E.cH _ _ q, fun a u q => by rw [upd_ne (ne_of_none q rp)]; exact E.rH _ _ q, E.rc, fun j z q => ?_, fun j w z q => ?_, fun j k w w' y' z q e1 e2 s1 s2 => ?_⟩
  · by_cases h : i = j
    · subst h; rw [List.getElem?_set_self hi] at q; cases q
    · rw [List.getElem?_set_ne h] at q; exact E.dat j z q
  · by_cases h : i = j
    · subst h; rw [List.getElem?_set_self hi] at q; cases q
      obtain ⟨p2, s2, h0, _⟩ := E.own i _ x e
      rw [s] at s2; cases s2
      exact ⟨p, s, h0, cp, rp, by rw [upd_same]; exact ow⟩
    · rw [List.getElem?_set_ne h] at q
      obtain ⟨q', h1, h0, h2, h3, h4⟩ := E.own j w z q
      have hq : q' ≠ p := fun hh => by subst hh; exact h (E.apart i j _ _ x z q' e q s h1)
      exact ⟨q', h1, h0, h2, h3, by rw [upd_ne hq]; exact h4⟩
  · have f1 : ∃ k'' y'', env[j]? = some (.o k'' y'') := by
      by_cases h : i = j
      · subst h; exact ⟨_, x, e⟩
      · rw [List.getElem?_set_ne h] at e1; exact ⟨_, _, e1⟩
    have f2 : ∃ k'' y'', env[k]? = some (.o k'' y'') := by
      by_cases h : i = k
      · subst h; exact ⟨_, x, e⟩
      · rw [List.getElem?_set_ne h] at e2; exact ⟨_, _, e2⟩
    obtain ⟨_, _, f1⟩ := f1
    obtain ⟨_, _, f2⟩ := f2
    exact E.apart j k _ _ _ _ q f1 f2 s1 s2
/-- an object that is owned by the environment's slot i is from now on known for ever -/
theorem EnvC.frz {x : PyData} {i : Nat} {k0 : Option Addr} (E : EnvC K R C env σ H) (e : env[i]? = some (.o k0 x)) : ∃ C', Ex C C' ∧ EnvC K R C' (env.set i (.d x)) σ H := by
  obtain ⟨p, s, _, cp, rp, ow⟩ := E.own i _ x e
  have hi : i < env.length := (List.getElem?_eq_some_iff.mp e).1
  cases ho : H p with
  | none => rw [ho] at ow; exact absurd rfl ow.there
  | some o =>
    rw [ho] at ow
    refine ⟨upd C p o, Ex.new cp, by simp [E.len], fun a u q => ?_, E.rH, fun a q => ?_, fun j z q => ?_, fun j w z q => ?_, fun j k w w' y' z q e1 e2 s1 s2 => ?_⟩
    · by_cases h : a = p
      · subst h; rw [upd_same] at q; cases q; exact ho
      · rw [upd_ne h] at q; exact E.cH _ _ q
    · have ha : a ≠ p := fun h => by subst h; exact q rp
      rw [upd_ne ha]; exact E.rc _ q
    · by_cases h : i = j
      · subst h; rw [List.getElem?_set_self hi] at q; cases q
        exact ⟨_, s, ow.frz cp⟩
      · rw [List.getElem?_set_ne h] at q
        obtain ⟨v, h1, h2⟩ := E.dat j z q
        exact ⟨v, h1, h2.mono (Ex.new cp)⟩
    · by_cases h : i = j
      · subst h; rw [List.getElem?_set_self hi] at q; cases q
      · rw [List.getElem?_set_ne h] at q
        obtain ⟨q', h1, h0, h2, h3, h4⟩ := E.own j w z q
        have hq : q' ≠ p := fun hh => by subst hh; exact h (E.apart i j _ _ x z q' e q s h1)
        exact ⟨q', h1, h0, by rw [upd_ne hq]; exact h2, h3, h4.mono (Ex.new cp)⟩
    · have h1 : i ≠ j := fun h => by subst h; rw [List.getElem?_set_self hi] at e1; cases e1
      have h2 : i ≠ k := fun h => by subst h; rw [List.getElem?_set_self hi] at e2; cases e2
      rw [List.getElem?_set_ne h1] at e1
      rw [List.getElem?_set_ne h2] at e2
      exact E.apart j k w w' y' z q e1 e2 s1 s2
end
end J
namespace J
open PySem L2 PySem.Spec PyProof.Rows

/-! ### where one stands -/
structure TC where
  P : Program
  w : World
  K : PySem.W.Frag
  mg : Str → Option Value
  base : Heap
  N : List Str
  sc : Scope
  fn : Str → Bool
  k : Nat
structure CT (X : Cx) (T : TC) : Prop where
  P : X.prog = T.P
  w : X.w = T.w
  K : X.K = T.K
  mg : X.mg = T.mg
  base : X.base = T.base
  N : X.N = T.N
  sc : X.env.scope = T.sc
  calm : X.calm = true
  room : Room T.k X.A
  fn : ∀ x, T.fn x = true → X.fn x = true
  xe : X.xe = fun _ _ => False
abbrev TC.blk (T : TC) (scope : Scope) : TC := { T with sc := relS scope T.sc, fn := fun x => scope.names.lookup x == some .cell }
theorem CT.blk {X : Cx} {T : TC} (h : CT X T) (scope : Scope) (s : Shared) (H : Hp) (C : Addr) (cl : List (Str × Addr)) (fp : List Addr) : CT (X.blk s H scope (compEnvC scope cl C X.env) fp) (T.blk scope) where
  P := h.P
  w := h.w
  K := h.K
  mg := h.mg
  base := h.base
  N := h.N
  sc := by show relS scope X.env.scope = relS scope T.sc; rw [h.sc]
  calm := h.calm
  room := h.room
  fn := fun x e => e
  xe := rfl
theorem CT.pass {X : Cx} {T : TC} (h : CT X T) : PassesOwn (model X.prog X.w) X.A X.env X.xe := by rw [h.xe]; exact PassesOwn.never

/-! ### readings of data -/
inductive Re where
  | d (x : PyData) | o (x : PyData) | b (x : PyData)
def Rr (K : PySem.W.Frag) (R C H : Hp) (env : Env') (σ : L2.St) (v : V) : Re → Prop
  | .d x => Rp K C v x
  | .o x => ∃ p, v = .ref p ∧ C p = none ∧ R p = none ∧ NotOwn env σ p ∧ Ow K C (H p) x
  | .b x => Rp K C v x ∨ ∃ (i : Nat) (k : Option Addr), env[i]? = some (.o k x) ∧ σ[i]? = some (some v)
def tJ (K : PySem.W.Frag) (env env' : Env') (r : Re) : TE := fun σ H Q => ∃ R C, EnvC K R C env σ H ∧ ∀ v C' H', Ex C C' → EnvC K R C' env' σ H' → Rr K R C' H' env' σ v r → Q v H'
/-- in env the expression e gives r, and leaves env' -/
def JE (T : TC) (e : Expr) (env env' : Env') (r : Re) : Prop := ∀ X, CT X T → PE X e (tJ X.K env env' r)
theorem _root_.L2.PE.wk {X : Cx} {e : Expr} {t t' : TE} (h : PE X e t) (hh : ∀ σ H Q, t' σ H Q → t σ H Q) : PE X e t' := ⟨fun pins s σ H Q I q => h.run pins s σ H Q I (hh σ H Q q)⟩
theorem _root_.L2.PT.wk {X : Cx} {e : Expr} {t t' : TT} (h : PT X e t) (hh : ∀ σ H Q, t' σ H Q → t σ H Q) : PT X e t' := ⟨fun pins s σ H Q I q => h.run pins s σ H Q I (hh σ H Q q)⟩
theorem _root_.L2.PW.wk {X : Cx} {e : Expr} {t t' : TT} (h : PW X e t) (hh : ∀ σ H Q, t' σ H Q → t σ H Q) : PW X e t' := ⟨fun wh pins s σ H Q I q => h.run wh pins s σ H Q I (hh σ H Q q)⟩
theorem _root_.L2.PA.wk {X : Cx} {e : List Expr} {t t' : TA} (h : PA X e t) (hh : ∀ σ H Q, t' σ H Q → t σ H Q) : PA X e t' := ⟨fun ps pins s σ H Q I q => h.run ps pins s σ H Q I (hh σ H Q q)⟩
theorem _root_.L2.PS.wk {X : Cx} {e : Stmt} {t t' : TS} (h : PS X e t) (hh : ∀ D σ H, t' D σ H → t D σ H) : PS X e t' := ⟨fun pins s σ H D I q => h.run pins s σ H D I (hh D σ H q)⟩
theorem _root_.L2.PSs.wk {X : Cx} {e : List Stmt} {t t' : TS} (h : PSs X e t) (hh : ∀ D σ H, t' D σ H → t D σ H) : PSs X e t' := ⟨fun pins s σ H D I q => h.run pins s σ H D I (hh D σ H q)⟩
theorem _root_.L2.PI.wk {X : Cx} {g e : Expr} {t t' : TI} (h : PI X g e t) (hh : ∀ σ H R, t' σ H R → t σ H R) : PI X g e t' := ⟨fun pins s σ H R I q => h.run pins s σ H R I (hh σ H R q)⟩
theorem _root_.L2.PG.wk {X : Cx} {g : Expr} {t t' : TG} (h : PG X g t) (hh : ∀ v σ H Q, t' v σ H Q → t v σ H Q) : PG X g t' := ⟨fun pins s σ H v u Q I r q => h.run pins s σ H v u Q I r (hh v σ H Q q)⟩

section
variable {T : TC} {a b e : Expr} {env e0 e1 e2 e3 : Env'} {pos : Pos} {x y : PyData}
theorem je_b (h : JE T e e0 e1 (.d x)) : JE T e e0 e1 (.b x) := fun X hX => (h X hX).wk fun σ H Q ⟨R, C, E, k⟩ => ⟨R, C, E, fun v C' H' c E' r => k v C' H' c E' (.inl r)⟩
/-- a temporary object is known for ever -/
theorem je_fz (h : JE T e e0 e1 (.o x)) : JE T e e0 e1 (.d x) := fun X hX => (h X hX).wk fun σ H Q ⟨R, C, E, k⟩ => ⟨R, C, E, fun v C' H' c E' ⟨p, ev, cp, rp, no, ow⟩ => by
  subst ev
  cases ho : H' p with
  | none => rw [ho] at ow; exact absurd rfl ow.there
  | some o =>
    rw [ho] at ow
    refine k _ (upd C' p o) H' (c.trans (Ex.new cp)) ⟨E'.len, fun a u q => ?_, E'.rH, fun a q => ?_, fun i z q => ?_, fun i w z q => ?_, E'.apart⟩ (ow.frz cp)
    · by_cases h : a = p
      · subst h; rw [upd_same] at q; cases q; exact ho
      · rw [upd_ne h] at q; exact E'.cH _ _ q
    · have ha : a ≠ p := fun h => by subst h; exact q rp
      rw [upd_ne ha]; exact E'.rc _ q
    · obtain ⟨v, h1, h2⟩ := E'.dat i z q
      exact ⟨v, h1, h2.mono (Ex.new cp)⟩
    · obtain ⟨q', h1, h0, h2, h3, h4⟩ := E'.own i w z q
      have hq : q' ≠ p := fun h => by subst h; exact no i w z q h1
      exact ⟨q', h1, h0, by rw [upd_ne hq]; exact h2, h3, h4.mono (Ex.new cp)⟩⟩
theorem je_fb (h : JE T e e0 e1 (.o x)) : JE T e e0 e1 (.b x) := je_b (je_fz h)
theorem je_le (l : Le e0 env) (h : JE T e e0 e1 (.d x)) : JE T e env e1 (.d x) := fun X hX => (h X hX).wk fun σ H Q ⟨R, C, E, k⟩ => ⟨R, C, E.le l, k⟩
theorem je_is {r r' : Re} (h : JE T e e0 e1 r) (q : r = r') : JE T e e0 e1 r' := q ▸ h

/-! ### names, constants -/
def visB (sc : Scope) (x : Str) : Bool := match sc.names.lookup x with
  | some .local => true | some .cell => true | some .free => true | _ => false
theorem vis_of {sc : Scope} {x : Str} (h : visB sc x = true) : Vis sc x := by
  unfold visB at h
  unfold Vis
  split at h <;> first | exact .inl (by assumption) | exact .inr (.inl (by assumption)) | exact .inr (.inr (by assumption)) | cases h
theorem je_var (i : Nat) {x : Str} {d : PyData} (hN : T.N[i]? = some x := by rfl) (hv : visB T.sc x = true := by rfl) (he : env[i]? = some (.d d) := by rfl) (hd : (x == ("__debug__" : Str)) = false := by decide) (hcd : (x == ("__classdict__" : Str)) = false := by decide) :
    JE T (.Name x pos) env env (.d d) := fun X hX => (pe_var (by rw [hX.N]; exact hN) (by rw [hX.sc]; exact vis_of hv) hd hcd).wk fun σ H Q ⟨R, C, E, k⟩ => by
  obtain ⟨v, h1, h2⟩ := E.dat i d he
  exact ⟨v, h1, k v C H (Ex.refl C) E h2⟩
theorem je_varB (i : Nat) {x : Str} {d : PyData} (hN : T.N[i]? = some x := by rfl) (hv : visB T.sc x = true := by rfl) {k0 : Option Addr} (he : env[i]? = some (.o k0 d) := by rfl) (hd : (x == ("__debug__" : Str)) = false := by decide) (hcd : (x == ("__classdict__" : Str)) = false := by decide) :
    JE T (.Name x pos) env env (.b d) := fun X hX => (pe_var (by rw [hX.N]; exact hN) (by rw [hX.sc]; exact vis_of hv) hd hcd).wk fun σ H Q ⟨R, C, E, k⟩ => by
  obtain ⟨p, h1, h0, h2, h3, h4⟩ := E.own i _ d he
  exact ⟨_, h1, k _ C H (Ex.refl C) E (.inr ⟨i, _, he, h1⟩)⟩
theorem je_int {i j} : JE T (.Constant (.int i) j pos) env env (.d (.int i)) := fun X hX => pe_int.wk fun σ H Q ⟨R, C, E, k⟩ => k _ C H (Ex.refl C) E (.int i)
theorem je_bl {i j} : JE T (.Constant (.bool i) j pos) env env (.d (.bool i)) := fun X hX => pe_bl.wk fun σ H Q ⟨R, C, E, k⟩ => k _ C H (Ex.refl C) E (.bl i)
theorem je_non {j} : JE T (.Constant .none j pos) env env (.d .none) := fun X hX => pe_non.wk fun σ H Q ⟨R, C, E, k⟩ => k _ C H (Ex.refl C) E .non
theorem je_str {i j} (h : sOk i := by exact ⟨by decide +kernel, by decide +kernel⟩) : JE T (.Constant (.str i) j pos) env env (.d (.str i)) := fun X hX => pe_str.wk fun σ H Q ⟨R, C, E, k⟩ => k _ C H (Ex.refl C) E (.str h)
def glB (sc : Scope) (x : Str) : Bool := match sc.names.lookup x with
  | some .globalImplicit => true | _ => false
theorem gl_of {X : Cx} (hX : CT X T) {x : Str} (h : glB T.sc x = true) : Gl X x := by
  unfold Gl Env.kindOf
  rw [hX.sc]
  unfold glB at h
  split at h <;> first | assumption | cases h
/-- a module's constant -/
theorem je_glob {x : Str} {d : PyData} {v : V} {u : Value} (hg : glB T.sc x = true) (hm : T.mg x = some u) (r : RelV v u) (hr : ∀ C, Rp T.K C v d) (hd : (x == ("__debug__" : Str)) = false := by decide) : JE T (.Name x pos) env env (.d d) :=
  fun X hX => (pe_glob (gl_of hX hg) (by rw [hX.mg]; exact hm) r hd).wk fun σ H Q ⟨R, C, E, k⟩ => k _ C H (Ex.refl C) E (by show Rp _ _ _ _; rw [hX.K]; exact hr C)

/-! ### what is read -/
variable {K : PySem.W.Frag} {R C H : Hp} {σ : L2.St} {v : V}
theorem rb_lst {ds : List PyData} (E : EnvC K R C env σ H) (h : Rr K R C H env σ v (.b (.list ds))) : ∃ p vs, v = .ref p ∧ H p = some (.lst vs) ∧ vs.length ≤ LN ∧ Rps K C vs ds := by
  rcases h with h | ⟨i, k, h1, h2⟩
  · cases h with
    | lst q l r => exact ⟨_, _, rfl, E.cH _ _ q, l, r⟩
  · obtain ⟨p, h3, _, _, _, vs, h4, l, h5⟩ := E.own i _ _ h1
    rw [h2] at h3; cases h3
    exact ⟨_, _, rfl, h4, l, h5⟩
theorem rb_tup {ds : List PyData} (E : EnvC K R C env σ H) (h : Rr K R C H env σ v (.b (.tuple ds))) : ∃ p vs, v = .ref p ∧ SqT K H p vs ∧ SqT K C p vs ∧ vs.length ≤ LN ∧ Rps K C vs ds := by
  rcases h with h | ⟨i, k, h1, h2⟩
  · cases h with
    | tup q l r => exact ⟨_, _, rfl, E.cH.t q, q, l, r⟩
  · obtain ⟨p, h3, _, _, _, h4⟩ := E.own i _ _ h1
    exact h4.elim
theorem rb_int {i : Int} (E : EnvC K R C env σ H) (h : Rr K R C H env σ v (.b (.int i))) : v = .int i := by
  rcases h with h | ⟨i, k, h1, h2⟩
  · cases h; rfl
  · obtain ⟨p, h3, _, _, _, h4⟩ := E.own i _ _ h1
    exact h4.elim
theorem rb_bl {i : Bool} (E : EnvC K R C env σ H) (h : Rr K R C H env σ v (.b (.bool i))) : v = .bl i := by
  rcases h with h | ⟨i, k, h1, h2⟩
  · cases h; rfl
  · obtain ⟨p, h3, _, _, _, h4⟩ := E.own i _ _ h1
    exact h4.elim
theorem rb_str {i : Str} (E : EnvC K R C env σ H) (h : Rr K R C H env σ v (.b (.str i))) : v = .str i := by
  rcases h with h | ⟨i, k, h1, h2⟩
  · cases h; rfl
  · obtain ⟨p, h3, _, _, _, h4⟩ := E.own i _ _ h1
    exact h4.elim
theorem rb_dict {es : List (PyData × PyData)} (E : EnvC K R C env σ H) (h : Rr K R C H env σ v (.b (.dict es))) : ∃ p, v = .ref p ∧ ((∃ kvs, H p = some (.dK kvs) ∧ kvs.length ≤ LN ∧ RpK K C kvs es) ∨ (∃ kvs, H p = some (.dT kvs) ∧ kvs.length ≤ LN ∧ RpT K C kvs es) ∨ ∃ ds, es = [(.none, .list ds)]) := by
  rcases h with h | ⟨i, k, h1, h2⟩
  · cases h with
    | scr q l r => exact ⟨_, rfl, .inr (.inr ⟨_, rfl⟩)⟩
    | dK q l r => exact ⟨_, rfl, .inl ⟨_, E.cH _ _ q, l, r⟩⟩
    | dT q l r => exact ⟨_, rfl, .inr (.inl ⟨_, E.cH _ _ q, l, r⟩)⟩
  · obtain ⟨p, h3, _, _, _, h4⟩ := E.own i _ _ h1
    rw [h2] at h3; cases h3
    rcases h4 with h4 | h4
    · exact ⟨_, rfl, .inl h4⟩
    · exact ⟨_, rfl, .inr (.inl h4)⟩
/-- readable in the whole heap -/
theorem rb_rp {d : PyData} (E : EnvC K R C env σ H) (h : Rr K R C H env σ v (.b d)) : Rp K H v d := by
  rcases h with h | ⟨i, k, h1, h2⟩
  · exact h.mono E.cH
  · obtain ⟨p, h3, _, _, _, h4⟩ := E.own i _ _ h1
    rw [h2] at h3; cases h3
    cases d with
    | list ds => obtain ⟨vs, e, l, r⟩ := h4; exact .lst e l (r.mono E.cH)
    | dict es =>
      rcases h4 with ⟨vs, e, l, r⟩ | ⟨vs, e, l, r⟩
      · exact .dK e l (r.mono E.cH)
      · exact .dT e l (r.mono E.cH)
    | _ => exact h4.elim

/-! ### operators -/
/-- what a two-place operation makes of data -/
def Op2 (T : TC) (r : PySem.W.Frag → R2) (x y : PyData) (z : Re) : Prop := ∀ R C H env σ u v Q, EnvC T.K R C env σ H → Rp T.K C u x → Rr T.K R C H env σ v (.b y) →
  (∀ w C' H', Ex C C' → EnvC T.K R C' env σ H' → Rr T.K R C' H' env σ w z → Q w H') → r T.K u v H Q
def Op2B (T : TC) (r : PySem.W.Frag → R2) (x y : PyData) (z : Re) : Prop := ∀ R C H env σ u v Q, EnvC T.K R C env σ H → Rr T.K R C H env σ u (.b x) → Rr T.K R C H env σ v (.b y) →
  (∀ w C' H', Ex C C' → EnvC T.K R C' env σ H' → Rr T.K R C' H' env σ w z → Q w H') → r T.K u v H Q
theorem Op2B.to {r : PySem.W.Frag → R2} {z : Re} (h : Op2B T r x y z) : Op2 T r x y z := fun R C H env σ u v Q E hu hv k => h R C H env σ u v Q E (.inl hu) hv k
/-- how the two operands come: the left one known for ever, or the right one leaves the environment -/
def JE2 (T : TC) (a b : Expr) (e0 e2 : Env') (x y : PyData) : Prop := (∃ e1, JE T a e0 e1 (.d x) ∧ JE T b e1 e2 (.b y)) ∨ (JE T a e0 e2 (.b x) ∧ JE T b e2 e2 (.b y))
theorem op2_run {X : Cx} (hX : CT X T) {r : PySem.W.Frag → R2} {z : Re} (h : JE2 T a b e0 e2 x y) (ho : Op2B T r x y z) :
    ∃ ta tb, PE X a ta ∧ PE X b tb ∧ ∀ σ H Q, tJ X.K e0 e2 z σ H Q → tOp (r X.K) ta tb σ H Q := by
  rcases h with ⟨e1, ha, hb⟩ | ⟨ha, hb⟩
  · refine ⟨_, _, ha X hX, hb X hX, fun σ H Q ⟨R, C, E, k⟩ => ?_⟩
    refine ⟨R, C, E, fun u C1 H1 c1 E1 r1 => ⟨R, C1, E1, fun v C2 H2 c2 E2 r2 => ?_⟩⟩
    rw [hX.K] at *
    exact ho R C2 H2 e2 σ u v Q E2 (.inl (r1.mono c2)) r2 fun w C3 H3 c3 E3 r3 => k w C3 H3 ((c1.trans c2).trans c3) E3 r3
  · refine ⟨_, _, ha X hX, hb X hX, fun σ H Q ⟨R, C, E, k⟩ => ?_⟩
    refine ⟨R, C, E, fun u C1 H1 c1 E1 r1 => ⟨R, C1, E1, fun v C2 H2 c2 E2 r2 => ?_⟩⟩
    rw [hX.K] at *
    refine ho R C2 H2 e2 σ u v Q E2 ?_ r2 fun w C3 H3 c3 E3 r3 => k w C3 H3 ((c1.trans c2).trans c3) E3 r3
    rcases r1 with r1 | r1
    · exact .inl (r1.mono c2)
    · exact .inr r1
theorem j2 (ha : JE T a e0 e1 (.d x)) (hb : JE T b e1 e2 (.b y)) : JE2 T a b e0 e2 x y := .inl ⟨e1, ha, hb⟩
theorem j2d (ha : JE T a e0 e1 (.d x)) (hb : JE T b e1 e2 (.d y)) : JE2 T a b e0 e2 x y := .inl ⟨e1, ha, je_b hb⟩
theorem j2b (ha : JE T a e0 e2 (.b x)) (hb : JE T b e2 e2 (.b y)) : JE2 T a b e0 e2 x y := .inr ⟨ha, hb⟩
theorem j2bd (ha : JE T a e0 e2 (.b x)) (hb : JE T b e2 e2 (.d y)) : JE2 T a b e0 e2 x y := .inr ⟨ha, je_b hb⟩
theorem je_bin {op : Operator} {r : PySem.W.Frag → R2} {z : Re} (hr : ∀ X, CT X T → OpR X (binaryOp op) (r X.K)) (h : JE2 T a b e0 e2 x y) (ho : Op2B T r x y z) : JE T (.BinOp a op b pos) e0 e2 z := fun X hX => by
  obtain ⟨ta, tb, pa, pb, k⟩ := op2_run hX h ho
  exact (pe_op (hr X hX) pa pb).wk k
theorem op2_I0 {g : Int → Int → Int} {i j : Int} : Op2B T (fun _ => rI0 fun i j => .int (g i j)) (.int i) (.int j) (.d (.int (g i j))) := fun R C H env σ u v Q E hu hv k =>
  ⟨i, j, rb_int E hu, rb_int E hv, k _ C H (Ex.refl C) E (.int _)⟩
theorem op2_I {P : Int → Int → Prop} {g : Int → Int → Int} {i j : Int} (h : P i j) : Op2B T (fun _ => rI P fun i j => .int (g i j)) (.int i) (.int j) (.d (.int (g i j))) := fun R C H env σ u v Q E hu hv k =>
  ⟨i, j, rb_int E hu, rb_int E hv, h, k _ C H (Ex.refl C) E (.int _)⟩
theorem op2_B0 {g : Int → Int → Bool} {i j : Int} : Op2B T (fun _ => rI0 fun i j => .bl (g i j)) (.int i) (.int j) (.d (.bool (g i j))) := fun R C H env σ u v Q E hu hv k =>
  ⟨i, j, rb_int E hu, rb_int E hv, k _ C H (Ex.refl C) E (.bl _)⟩
theorem je_add {i j : Int} (h : JE2 T a b e0 e2 (.int i) (.int j)) : JE T (.BinOp a .Add b pos) e0 e2 (.d (.int (i + j))) := je_bin (fun X _ => op_add) h op2_I0
theorem je_sub {i j : Int} (h : JE2 T a b e0 e2 (.int i) (.int j)) : JE T (.BinOp a .Sub b pos) e0 e2 (.d (.int (i - j))) := je_bin (fun X _ => op_sub) h op2_I0
theorem je_mul {i j : Int} (h : JE2 T a b e0 e2 (.int i) (.int j)) (hc : CMul i j) : JE T (.BinOp a .Mult b pos) e0 e2 (.d (.int (i * j))) := je_bin (fun X _ => op_mul) h (op2_I hc)
theorem je_fdiv {i j : Int} (h : JE2 T a b e0 e2 (.int i) (.int j)) (hc : CDivN i j) : JE T (.BinOp a .FloorDiv b pos) e0 e2 (.d (.int (i.fdiv j))) := je_bin (fun X _ => op_fdivN) h (op2_I hc)
theorem je_mod {i j : Int} (h : JE2 T a b e0 e2 (.int i) (.int j)) (hc : j ≠ 0) : JE T (.BinOp a .Mod b pos) e0 e2 (.d (.int (i.fmod j))) := je_bin (fun X _ => op_modN) h (op2_I hc)
theorem je_pow {i j : Int} (h : JE2 T a b e0 e2 (.int i) (.int j)) (hc : CPow i j) : JE T (.BinOp a .Pow b pos) e0 e2 (.d (.int (i ^ j.toNat))) := je_bin (r := fun _ => rI CPow fun i j => .int (i ^ j.toNat)) (fun X _ => op_pow) h (op2_I (g := fun i j => i ^ j.toNat) hc)
theorem je_neg {i : Int} (ha : JE T a e0 e1 (.d (.int i))) : JE T (.UnaryOp .USub a pos) e0 e1 (.d (.int (-i))) := fun X hX => (pe_un un_neg (ha X hX)).wk fun σ H Q ⟨R, C, E, k⟩ =>
  ⟨R, C, E, fun v C' H' c E' r => by cases r; exact ⟨i, rfl, k _ C' H' c E' (.int _)⟩⟩
/-- a new object of the whole -/
theorem EnvC.freshO {ds : List PyData} {vs : List V} {p : Addr} (E : EnvC K R C env σ H) (hp : H p = none) (l : vs.length ≤ LN) (r : Rps K C vs ds) : EnvC K R C env σ (upd H p (.lst vs)) ∧ Rr K R C (upd H p (.lst vs)) env σ (.ref p) (.o (.list ds)) :=
  ⟨E.newO hp, p, rfl, E.cN hp, E.rN hp, E.notOwn hp, vs, by rw [upd_same], l, r⟩
theorem EnvC.freshT {ds : List PyData} {vs : List V} {p : Addr} (E : EnvC K R C env σ H) (hp : H p = none) (l : vs.length ≤ LN) (r : Rps K C vs ds) : Ex C (upd C p (.tup vs)) ∧ EnvC K R (upd C p (.tup vs)) env σ (upd H p (.tup vs)) ∧ Rr K R (upd C p (.tup vs)) (upd H p (.tup vs)) env σ (.ref p) (.d (.tuple ds)) :=
  ⟨Ex.new (E.cN hp), E.new hp, .tup (.inl (.inl upd_same)) l (r.mono (Ex.new (E.cN hp)))⟩
theorem je_catL {xs ys : List PyData} (h : JE2 T a b e0 e2 (.list xs) (.list ys)) (hl : xs.length + ys.length ≤ 16777216) : JE T (.BinOp a .Add b pos) e0 e2 (.o (.list (xs ++ ys))) :=
  je_bin (r := fun _ => rCat) (fun X _ => op_cat) h fun R C H env σ u v Q E hu hv k => by
    obtain ⟨p, vs, rfl, h1, l1, r1⟩ := rb_lst E hu
    obtain ⟨q, ws, rfl, h2, l2, r2⟩ := rb_lst E hv
    refine ⟨p, q, vs, ws, rfl, rfl, h1, h2, by rw [sizeLine_eq, r1.len, r2.len]; exact hl, fun t ht => ?_⟩
    obtain ⟨E', r⟩ := E.freshO ht (by rw [List.length_append, r1.len, r2.len]; exact hl) (r1.append r2)
    exact k _ C _ (Ex.refl C) E' r
theorem je_catT {xs ys : List PyData} (h : JE2 T a b e0 e2 (.tuple xs) (.tuple ys)) (hl : xs.length + ys.length ≤ 16777216) : JE T (.BinOp a .Add b pos) e0 e2 (.d (.tuple (xs ++ ys))) :=
  je_bin (r := rCatA) (fun X _ => op_catA) h fun R C H env σ u v Q E hu hv k => by
    obtain ⟨p, vs, rfl, h1, c1, l1, r1⟩ := rb_tup E hu
    obtain ⟨q, ws, rfl, h2, c2, l2, r2⟩ := rb_tup E hv
    refine ⟨p, q, vs, ws, rfl, rfl, h1, h2, by rw [sizeLine_eq, r1.len, r2.len]; exact hl, fun e => ?_, fun _ e => ?_, fun _ _ t ht => ?_⟩
    · subst e; cases r1; exact k _ C H (Ex.refl C) E (.tup c2 l2 r2)
    · subst e; cases r2; rw [List.append_nil] at k; exact k _ C H (Ex.refl C) E (.tup c1 l1 r1)
    · obtain ⟨c, E', r⟩ := E.freshT ht (by rw [List.length_append, r1.len, r2.len]; exact hl) (r1.append r2)
      exact k _ _ _ c E' r
/-! ### comparisons -/
/-- a comparison of two expressions gives c -/
def CJ (T : TC) (op : CmpOp) (a b : Expr) (e0 e2 : Env') (c : Bool) : Prop := ∀ X, CT X T → ∃ r ta tb, OpR X (compareOp op) r ∧ PE X a ta ∧ PE X b tb ∧ behindInMarks op b = false ∧ ∀ σ H Q, tJ X.K e0 e2 (.d (.bool c)) σ H Q → tOp r ta tb σ H Q
theorem cj_mk {op : CmpOp} {r : PySem.W.Frag → R2} {c : Bool} (hr : ∀ X, CT X T → OpR X (compareOp op) (r X.K)) (h : JE2 T a b e0 e2 x y) (ho : Op2B T r x y (.d (.bool c))) (hm : behindInMarks op b = false := by first | exact nomark _ | rfl) : CJ T op a b e0 e2 c := fun X hX => by
  obtain ⟨ta, tb, pa, pb, k⟩ := op2_run hX h ho
  exact ⟨_, ta, tb, hr X hX, pa, pb, hm, k⟩
theorem je_c {op : CmpOp} {c : Bool} (h : CJ T op a b e0 e2 c) : JE T (.Compare a [op] [b] pos) e0 e2 (.d (.bool c)) := fun X hX => by
  obtain ⟨r, ta, tb, hr, pa, pb, hm, k⟩ := h X hX
  exact (pe_cmpR hr pa pb hm).wk k
/-- the expression as a test comes out as c -/
def tTJ (K : PySem.W.Frag) (env env' : Env') (c : Bool) : TT := fun σ H Q => ∃ R C, EnvC K R C env σ H ∧ ∀ C' H', Ex C C' → EnvC K R C' env' σ H' → Q c H'
def JT (T : TC) (e : Expr) (env env' : Env') (c : Bool) : Prop := ∀ X, CT X T → PT X e (tTJ X.K env env' c)
theorem jt_c {op : CmpOp} {c : Bool} (h : CJ T op a b e0 e2 c) : JT T (.Compare a [op] [b] pos) e0 e2 c := fun X hX => by
  obtain ⟨r, ta, tb, hr, pa, pb, hm, k⟩ := h X hX
  refine (pt_cmpR hr pa pb hm).wk fun σ H Q ⟨R, C, E, q⟩ => ?_
  exact k σ H _ ⟨R, C, E, fun v C' H' c' E' r => by cases r; exact ⟨c, rfl, q C' H' c' E'⟩⟩
theorem cj_lt {i j : Int} (h : JE2 T a b e0 e2 (.int i) (.int j)) : CJ T .Lt a b e0 e2 (decide (i < j)) := cj_mk (fun X _ => op_lt) h (op2_B0 (g := fun i j => decide (i < j)))
theorem cj_le {i j : Int} (h : JE2 T a b e0 e2 (.int i) (.int j)) : CJ T .LtE a b e0 e2 (decide (i ≤ j)) := cj_mk (fun X _ => op_le) h (op2_B0 (g := fun i j => decide (i ≤ j)))
theorem cj_gt {i j : Int} (h : JE2 T a b e0 e2 (.int i) (.int j)) : CJ T .Gt a b e0 e2 (decide (j < i)) := cj_mk (fun X _ => op_gt) h (op2_B0 (g := fun i j => decide (j < i)))
theorem cj_ge {i j : Int} (h : JE2 T a b e0 e2 (.int i) (.int j)) : CJ T .GtE a b e0 e2 (decide (j ≤ i)) := cj_mk (fun X _ => op_ge) h (op2_B0 (g := fun i j => decide (j ≤ i)))
/-- the left one, then the right one, of any data without dicts -/
theorem cj_eqD (h : JE2 T a b e0 e2 x y) (sx : shN 64 x = true := by simp [shN]) (sy : shN 64 y = true := by simp [shN]) : CJ T .Eq a b e0 e2 (PyData.eqv x y) :=
  cj_mk (r := rEqD) (fun X hX => op_eqD hX.room.units) h fun R C H env σ u v Q E hu hv k =>
    ⟨x, y, (rb_rp E hu).dp' sx, (rb_rp E hv).dp' sy, (rb_rp E hu).shaped sx, (rb_rp E hv).shaped sy, k _ C H (Ex.refl C) E (.bl _)⟩
theorem cj_neD (h : JE2 T a b e0 e2 x y) (sx : shN 64 x = true := by simp [shN]) (sy : shN 64 y = true := by simp [shN]) : CJ T .NotEq a b e0 e2 (!PyData.eqv x y) :=
  cj_mk (r := rNeD) (fun X hX => op_neD hX.room.units) h fun R C H env σ u v Q E hu hv k =>
    ⟨x, y, (rb_rp E hu).dp' sx, (rb_rp E hv).dp' sy, (rb_rp E hu).shaped sx, (rb_rp E hv).shaped sy, k _ C H (Ex.refl C) E (.bl _)⟩
theorem cj_eqI {i j : Int} (h : JE2 T a b e0 e2 (.int i) (.int j)) : CJ T .Eq a b e0 e2 (decide (i = j)) :=
  cj_mk (r := fun _ => rEq) (fun X hX => op_eq) h fun R C H env σ u v Q E hu hv k => by
    have e1 := rb_int E hu; have e2 := rb_int E hv
    subst e1; subst e2
    exact ⟨rfl, k _ C H (Ex.refl C) E (by
      have : decide (V.int i = V.int j) = decide (i = j) := by simp
      rw [this]; exact .bl _)⟩
theorem cj_neI {i j : Int} (h : JE2 T a b e0 e2 (.int i) (.int j)) : CJ T .NotEq a b e0 e2 (!decide (i = j)) :=
  cj_mk (r := fun _ => rNe) (fun X hX => op_ne) h fun R C H env σ u v Q E hu hv k => by
    have e1 := rb_int E hu; have e2 := rb_int E hv
    subst e1; subst e2
    exact ⟨rfl, k _ C H (Ex.refl C) E (by
      have : decide (V.int i = V.int j) = decide (i = j) := by simp
      rw [this]; exact .bl _)⟩
theorem cj_eqS {i j : Str} (h : JE2 T a b e0 e2 (.str i) (.str j)) : CJ T .Eq a b e0 e2 (decide (i = j)) :=
  cj_mk (r := fun _ => rEq) (fun X hX => op_eq) h fun R C H env σ u v Q E hu hv k => by
    have e1 := rb_str E hu; have e2 := rb_str E hv
    subst e1; subst e2
    exact ⟨rfl, k _ C H (Ex.refl C) E (by
      have : decide (V.str i = V.str j) = decide (i = j) := by simp
      rw [this]; exact .bl _)⟩
theorem cj_neS {i j : Str} (h : JE2 T a b e0 e2 (.str i) (.str j)) : CJ T .NotEq a b e0 e2 (!decide (i = j)) :=
  cj_mk (r := fun _ => rNe) (fun X hX => op_ne) h fun R C H env σ u v Q E hu hv k => by
    have e1 := rb_str E hu; have e2 := rb_str E hv
    subst e1; subst e2
    exact ⟨rfl, k _ C H (Ex.refl C) E (by
      have : decide (V.str i = V.str j) = decide (i = j) := by simp
      rw [this]; exact .bl _)⟩
theorem cj_eqB {i j : Bool} (h : JE2 T a b e0 e2 (.bool i) (.bool j)) : CJ T .Eq a b e0 e2 (decide (i = j)) :=
  cj_mk (r := fun _ => rEq) (fun X hX => op_eq) h fun R C H env σ u v Q E hu hv k => by
    have e1 := rb_bl E hu; have e2 := rb_bl E hv
    subst e1; subst e2
    exact ⟨rfl, k _ C H (Ex.refl C) E (by
      have : decide (V.bl i = V.bl j) = decide (i = j) := by simp
      rw [this]; exact .bl _)⟩
theorem cj_neB {i j : Bool} (h : JE2 T a b e0 e2 (.bool i) (.bool j)) : CJ T .NotEq a b e0 e2 (!decide (i = j)) :=
  cj_mk (r := fun _ => rNe) (fun X hX => op_ne) h fun R C H env σ u v Q E hu hv k => by
    have e1 := rb_bl E hu; have e2 := rb_bl E hv
    subst e1; subst e2
    exact ⟨rfl, k _ C H (Ex.refl C) E (by
      have : decide (V.bl i = V.bl j) = decide (i = j) := by simp
      rw [this]; exact .bl _)⟩
def isNoneD : PyData → Bool
  | .none => true
  | _ => false
theorem rp_non {x : PyData} {v : V} (h : Rp K C v x) : decide (v = .non) = isNoneD x := by
  cases h <;> simp [isNoneD]
theorem je_isN {j pos'} (ha : JE T a e0 e1 (.b x)) : JE T (.Compare a [.Is] [.Constant .none j pos'] pos) e0 e1 (.d (.bool (isNoneD x))) := fun X hX => (pe_cmp (pc_isN (ha X hX)) rfl).wk fun σ H Q ⟨R, C, E, k⟩ =>
  ⟨R, C, E, fun v C' H' c E' r => by
    show Q (V.bl (decide (v = V.non))) H'
    rw [rp_non (rb_rp E' r)]
    exact k _ C' H' c E' (.bl _)⟩
theorem je_notN {j pos'} (ha : JE T a e0 e1 (.b x)) : JE T (.Compare a [.IsNot] [.Constant .none j pos'] pos) e0 e1 (.d (.bool (!isNoneD x))) := fun X hX => (pe_cmp (pc_notN (ha X hX)) rfl).wk fun σ H Q ⟨R, C, E, k⟩ =>
  ⟨R, C, E, fun v C' H' c E' r => by
    show Q (V.bl (!decide (v = V.non))) H'
    rw [rp_non (rb_rp E' r)]
    exact k _ C' H' c E' (.bl _)⟩
/-- x in a list -/
theorem cj_inL {ys : List PyData} (h : JE2 T a b e0 e2 x (.list ys)) (sx : shN 64 x = true := by simp [shN]) (sy : shN 64 (.list ys) = true := by simp [shN]) (hm : behindInMarks .In b = false := by rfl) : CJ T .In a b e0 e2 (ys.any fun z => PyData.eqv z x) :=
  cj_mk (r := rInD) (fun X hX => op_inD (by have := hX.room.un; omega)) h (fun R C H env σ u v Q E hu hv k =>
    ⟨x, ys, (rb_rp E hu).dp' sx, (rb_rp E hv).dp' sy, (rb_rp E hu).shaped sx, (rb_rp E hv).shaped sy, k _ C H (Ex.refl C) E (.bl _)⟩) hm
theorem cj_notInL {ys : List PyData} (h : JE2 T a b e0 e2 x (.list ys)) (sx : shN 64 x = true := by simp [shN]) (sy : shN 64 (.list ys) = true := by simp [shN]) (hm : behindInMarks .NotIn b = false := by rfl) : CJ T .NotIn a b e0 e2 (!ys.any fun z => PyData.eqv z x) :=
  cj_mk (r := rNotInD) (fun X hX => op_notInD (by have := hX.room.un; omega)) h (fun R C H env σ u v Q E hu hv k =>
    ⟨x, ys, (rb_rp E hu).dp' sx, (rb_rp E hv).dp' sy, (rb_rp E hu).shaped sx, (rb_rp E hv).shaped sy, k _ C H (Ex.refl C) E (.bl _)⟩) hm
/-- flat things: None, bools, ints, texts -/
def flatD : PyData → Bool
  | .none => true | .bool _ => true | .int _ => true | .str _ => true | _ => false
theorem rp_flat {x : PyData} {v : V} (h : Rp K C v x) (f : flatD x = true) : flatV v = true := by
  cases h <;> first | rfl | cases f
theorem rps_flat : ∀ {xs : List PyData} {vs : List V}, Rps K C vs xs → xs.all flatD = true → vs.all flatV = true
  | _, _, .nil, _ => rfl
  | _, _, .cons h r, f => by
    rw [List.all_cons, Bool.and_eq_true] at f ⊢
    exact ⟨rp_flat h f.1, rps_flat r f.2⟩
theorem eqv_flat {x y : PyData} {u v : V} (h : Rp K C u x) (h' : Rp K C v y) (f : flatD x = true) (f' : flatD y = true) : eqV u v = PyData.eqv x y := by
  cases h <;> cases h' <;> first | rfl | (simp [eqV, PyData.eqv]; done) | cases f | cases f'
theorem any_flat {y : PyData} {v : V} (h' : Rp K C v y) (f' : flatD y = true) : ∀ {xs : List PyData} {vs : List V}, Rps K C vs xs → xs.all flatD = true → inV v vs = xs.any fun z => PyData.eqv z y
  | _, _, .nil, _ => rfl
  | _, _, .cons h r, f => by
    rw [List.all_cons, Bool.and_eq_true] at f
    have ih := any_flat h' f' r f.2
    unfold inV at ih ⊢
    rw [List.any_cons, List.any_cons, ih, eqv_flat h h' f.1 f']
theorem cj_inT {ys : List PyData} (h : JE2 T a b e0 e2 x (.tuple ys)) (fx : flatD x = true := by rfl) (fy : ys.all flatD = true := by simp [flatD]) (hm : behindInMarks .In b = false := by rfl) : CJ T .In a b e0 e2 (ys.any fun z => PyData.eqv z x) :=
  cj_mk (r := fun K => rIn K false) (fun X hX => op_in_seq) h (fun R C H env σ u v Q E hu hv k => by
    obtain ⟨p, vs, rfl, h1, c1, l1, r1⟩ := rb_tup E hv
    have hu' := rb_rp E hu
    refine ⟨p, vs, rfl, .inr h1, rp_flat hu' fx, rps_flat r1 fy, ?_⟩
    rw [any_flat hu' fx (r1.mono E.cH) fy]
    exact k _ C H (Ex.refl C) E (.bl _)) hm
theorem cj_notInT {ys : List PyData} (h : JE2 T a b e0 e2 x (.tuple ys)) (fx : flatD x = true := by rfl) (fy : ys.all flatD = true := by simp [flatD]) (hm : behindInMarks .NotIn b = false := by rfl) : CJ T .NotIn a b e0 e2 (!ys.any fun z => PyData.eqv z x) :=
  cj_mk (r := fun K => rIn K true) (fun X hX => op_notIn_seq) h (fun R C H env σ u v Q E hu hv k => by
    obtain ⟨p, vs, rfl, h1, c1, l1, r1⟩ := rb_tup E hv
    have hu' := rb_rp E hu
    refine ⟨p, vs, rfl, .inr h1, rp_flat hu' fx, rps_flat r1 fy, ?_⟩
    rw [any_flat hu' fx (r1.mono E.cH) fy]
    exact k _ C H (Ex.refl C) E (.bl _)) hm
end
end J
namespace J
open PySem L2 PySem.Spec PyProof.Rows
section
variable {T : TC} {a b e : Expr} {es : List Expr} {env e0 e1 e2 e3 : Env'} {pos p : Pos} {x y z : PyData} {ds : List PyData} {K : PySem.W.Frag} {R C H : Hp} {σ : L2.St} {v : V}

/-! ### tests -/
theorem jt_v {c : Bool} (h : JE T e e0 e1 (.d (.bool c))) (he : ∀ (v : Env) whole, isTrue e v whole = (do let v ← whole; standAt e.pos; holding [v] (truthy v)) := by intro _ _; rfl) : JT T e e0 e1 c := fun X hX =>
  (pt_val (h X hX) (he X.env)).wk fun σ H Q ⟨R, C, E, k⟩ => ⟨R, C, E, fun v C' H' c' E' r => by cases r; exact ⟨c, rfl, k C' H' c' E'⟩⟩
/-- a datum's truth -/
def truD : PyData → Bool
  | .none => false
  | .bool b => b
  | .int i => i != 0
  | .str s => (s.length : Int) != 0
  | .list xs => !xs.isEmpty
  | .tuple xs => !xs.isEmpty
  | .dict _ => false
def noDict : PyData → Bool
  | .dict _ => false
  | _ => true
theorem rps_empty {xs : List PyData} {vs : List V} (h : Rps K C vs xs) : vs.isEmpty = xs.isEmpty := by cases h <;> rfl
theorem tru_rp {d : PyData} {v : V} (h : Rp K H v d) (hn : noDict d = true) : TruV K v H (truD d) := by
  cases h with
  | non => rfl
  | bl b => rfl
  | int i => rfl
  | str h => exact ⟨lnS h.2, rfl⟩
  | lst h l r => exact .inl ⟨_, SqL.of h, by rw [rps_empty r]; rfl⟩
  | tup h l r => exact .inr (.inl ⟨_, h, by rw [rps_empty r]; rfl⟩)
  | scr h l r => cases hn
  | dK h l r => cases hn
  | dT h l r => cases hn
theorem jt_t (h : JE T e e0 e1 (.b x)) (hn : noDict x = true := by rfl) (he : ∀ (v : Env) whole, isTrue e v whole = (do let v ← whole; standAt e.pos; holding [v] (truthy v)) := by intro _ _; rfl) : JT T e e0 e1 (truD x) := fun X hX =>
  (pt_truth (h X hX) (he X.env)).wk fun σ H Q ⟨R, C, E, k⟩ => ⟨R, C, E, fun v C' H' c' E' r => ⟨truD x, tru_rp (rb_rp E' r) hn, k C' H' c' E'⟩⟩
theorem jt_isN {j pos'} (ha : JE T a e0 e1 (.b x)) : JT T (.Compare a [.Is] [.Constant .none j pos'] pos) e0 e1 (isNoneD x) := fun X hX => (pt_cmp (pc_isN (ha X hX)) rfl).wk fun σ H Q ⟨R, C, E, k⟩ =>
  ⟨R, C, E, fun v C' H' c E' r => ⟨isNoneD x, by rw [rp_non (rb_rp E' r)], k C' H' c E'⟩⟩
theorem jt_notN {j pos'} (ha : JE T a e0 e1 (.b x)) : JT T (.Compare a [.IsNot] [.Constant .none j pos'] pos) e0 e1 (!isNoneD x) := fun X hX => (pt_cmp (pc_notN (ha X hX)) rfl).wk fun σ H Q ⟨R, C, E, k⟩ =>
  ⟨R, C, E, fun v C' H' c E' r => ⟨!isNoneD x, by rw [rp_non (rb_rp E' r)], k C' H' c E'⟩⟩
theorem jt_not {c : Bool} (h : JT T a e0 e1 c) : JT T (.UnaryOp .Not a pos) e0 e1 (!c) := fun X hX => (pt_not (h X hX)).wk fun σ H Q ⟨R, C, E, k⟩ => ⟨R, C, E, k⟩
/-- a chain of and, or -/
def JW (T : TC) (e : Expr) (env env' : Env') (c : Bool) : Prop := ∀ X, CT X T → PW X e (tTJ X.K env env' c)
theorem jt_w {c : Bool} (h : JW T e e0 e1 c) : JT T e e0 e1 c := fun X hX => (h X hX).pt
theorem jw_and1 {c : Bool} (h : JT T a e0 e1 c) : JW T (.BoolOp .And [a] pos) e0 e1 c := fun X hX => pw_and1 (h X hX)
theorem jw_or1 {c : Bool} (h : JT T a e0 e1 c) : JW T (.BoolOp .Or [a] pos) e0 e1 c := fun X hX => pw_or1 (h X hX)
theorem pw_dead {X : Cx} {e : Expr} : PW X e (fun _ _ _ => False) := ⟨fun _ _ _ _ _ _ _ h => h.elim⟩
theorem jw_and {c c' : Bool} {rest : List Expr} (h : JT T a e0 e1 c) (h' : c = true → JW T (.BoolOp .And (b :: rest) pos) e1 e1 c') : JW T (.BoolOp .And (a :: b :: rest) pos) e0 e1 (c && c') := fun X hX => by
  cases c with
  | true => exact (pw_and (h X hX) (h' rfl X hX)).wk fun σ H Q ⟨R, C, E, k⟩ => ⟨R, C, E, fun C' H' c1 E' => by
      show tTJ X.K e1 e1 c' σ H' Q
      exact ⟨R, C', E', fun C2 H2 c2 E2 => k C2 H2 (c1.trans c2) E2⟩⟩
  | false => exact (pw_and (h X hX) pw_dead).wk fun σ H Q ⟨R, C, E, k⟩ => ⟨R, C, E, fun C' H' c1 E' => k C' H' c1 E'⟩
theorem jw_or {c c' : Bool} {rest : List Expr} (h : JT T a e0 e1 c) (h' : c = false → JW T (.BoolOp .Or (b :: rest) pos) e1 e1 c') : JW T (.BoolOp .Or (a :: b :: rest) pos) e0 e1 (c || c') := fun X hX => by
  cases c with
  | false => exact (pw_or (h X hX) (h' rfl X hX)).wk fun σ H Q ⟨R, C, E, k⟩ => ⟨R, C, E, fun C' H' c1 E' => by
      show tTJ X.K e1 e1 c' σ H' Q
      exact ⟨R, C', E', fun C2 H2 c2 E2 => k C2 H2 (c1.trans c2) E2⟩⟩
  | true => exact (pw_or (h X hX) pw_dead).wk fun σ H Q ⟨R, C, E, k⟩ => ⟨R, C, E, fun C' H' c1 E' => k C' H' c1 E'⟩
theorem je_one {op} {r : Re} (h : JE T a e0 e1 r) : JE T (.BoolOp op [a] pos) e0 e1 r := fun X hX => pe_one (h X hX)
theorem pe_dead {X : Cx} {e : Expr} : PE X e (fun _ _ _ => False) := ⟨fun _ _ _ _ _ _ h => h.elim⟩
theorem je_and {c c' : Bool} {rest : List Expr} (h : JE T a e0 e1 (.d (.bool c))) (h' : c = true → JE T (.BoolOp .And (b :: rest) pos) e1 e1 (.d (.bool c'))) : JE T (.BoolOp .And (a :: b :: rest) pos) e0 e1 (.d (.bool (c && c'))) := fun X hX => by
  cases c with
  | true => exact (pe_and (h X hX) (h' rfl X hX)).wk fun σ H Q ⟨R, C, E, k⟩ => ⟨R, C, E, fun v C' H' c1 E' r => by
      cases r
      exact ⟨true, rfl, R, C', E', fun v C2 H2 c2 E2 r2 => k v C2 H2 (c1.trans c2) E2 r2⟩⟩
  | false => exact (pe_and (h X hX) pe_dead).wk fun σ H Q ⟨R, C, E, k⟩ => ⟨R, C, E, fun v C' H' c1 E' r => by
      cases r
      exact ⟨false, rfl, k _ C' H' c1 E' (.bl false)⟩⟩
theorem je_or {c c' : Bool} {rest : List Expr} (h : JE T a e0 e1 (.d (.bool c))) (h' : c = false → JE T (.BoolOp .Or (b :: rest) pos) e1 e1 (.d (.bool c'))) : JE T (.BoolOp .Or (a :: b :: rest) pos) e0 e1 (.d (.bool (c || c'))) := fun X hX => by
  cases c with
  | false => exact (pe_or (h X hX) (h' rfl X hX)).wk fun σ H Q ⟨R, C, E, k⟩ => ⟨R, C, E, fun v C' H' c1 E' r => by
      cases r
      exact ⟨false, rfl, R, C', E', fun v C2 H2 c2 E2 r2 => k v C2 H2 (c1.trans c2) E2 r2⟩⟩
  | true => exact (pe_or (h X hX) pe_dead).wk fun σ H Q ⟨R, C, E, k⟩ => ⟨R, C, E, fun v C' H' c1 E' r => by
      cases r
      exact ⟨true, rfl, k _ C' H' c1 E' (.bl true)⟩⟩
theorem je_not {c : Bool} (h : JE T a e0 e1 (.d (.bool c))) : JE T (.UnaryOp .Not a pos) e0 e1 (.d (.bool (!c))) := fun X hX =>
  (pe_not (h X hX)).wk fun σ H Q ⟨R, C, E, k⟩ => ⟨R, C, E, fun v C' H' c1 E' r => by cases r; exact ⟨c, rfl, k _ C' H' c1 E' (.bl _)⟩⟩
/-- a if t else b -/
theorem je_if {t : Expr} {c : Bool} {f : Bool → Re} (ht : JT T t e0 e1 c) (ha : c = true → JE T a e1 e2 (f true)) (hb : c = false → JE T b e1 e2 (f false)) : JE T (.IfExp t a b pos) e0 e2 (f c) := fun X hX => by
  cases c with
  | true => exact (pe_ifExp (ht X hX) (ha rfl X hX) pe_dead).wk fun σ H Q ⟨R, C, E, k⟩ => ⟨R, C, E, fun C' H' c1 E' => ⟨R, C', E', fun v C2 H2 c2 E2 r2 => k v C2 H2 (c1.trans c2) E2 r2⟩⟩
  | false => exact (pe_ifExp (ht X hX) pe_dead (hb rfl X hX)).wk fun σ H Q ⟨R, C, E, k⟩ => ⟨R, C, E, fun C' H' c1 E' => ⟨R, C', E', fun v C2 H2 c2 E2 r2 => k v C2 H2 (c1.trans c2) E2 r2⟩⟩
/-- .. with the data of one kind -/
theorem je_ifc {α : Type} (enc : α → PyData) {t : Expr} {c : Bool} {u w : α} (ht : JT T t e0 e1 c) (ha : c = true → JE T a e1 e2 (.d (enc u))) (hb : c = false → JE T b e1 e2 (.d (enc w))) : JE T (.IfExp t a b pos) e0 e2 (.d (enc (if c = true then u else w))) := by
  refine je_is (je_if (f := fun c => .d (enc (if c = true then u else w))) ht (fun h => by simpa using ha h) (fun h => by simpa using hb h)) rfl
/-- .. that may change the environment -/
theorem je_ifs {α : Type} (enc : α → PyData) (Ev : α → Env') {t : Expr} {c : Bool} {u w : α} (ht : JT T t e0 e1 c) (ha : c = true → JE T a e1 (Ev u) (.d (enc u))) (hb : c = false → JE T b e1 (Ev w) (.d (enc w))) : JE T (.IfExp t a b pos) e0 (Ev (if c = true then u else w)) (.d (enc (if c = true then u else w))) := by
  cases c with
  | true => exact je_if (f := fun c => .d (enc (if c = true then u else w))) ht (fun h => ha h) (fun h => by cases h)
  | false => exact je_if (f := fun c => .d (enc (if c = true then u else w))) ht (fun h => by cases h) (fun h => hb h)

/-! ### arguments, displays -/
def tAJ (K : PySem.W.Frag) (env env' : Env') (ds : List PyData) : TA := fun σ H Q => ∃ R C, EnvC K R C env σ H ∧ ∀ vs C' H', Ex C C' → EnvC K R C' env' σ H' → Rps K C' vs ds → Q vs H'
def JA (T : TC) (es : List Expr) (env env' : Env') (ds : List PyData) : Prop := ∀ X, CT X T → PA X es (tAJ X.K env env' ds)
theorem ja_nil : JA T [] env env [] := fun X hX => pa_nil.wk fun σ H Q ⟨R, C, E, k⟩ => k [] C H (Ex.refl C) E .nil
theorem ja_cons (h : JE T e e0 e1 (.d x)) (h' : JA T es e1 e2 ds) (hs : ∀ v : Env, starEach (e :: es) v = (false, eval e v) :: starEach es v := by intro _; rfl) : JA T (e :: es) e0 e2 (x :: ds) := fun X hX =>
  (pa_cons (h X hX) (h' X hX) (hs X.env)).wk fun σ H Q ⟨R, C, E, k⟩ => ⟨R, C, E, fun v C1 H1 c1 E1 r1 => ⟨R, C1, E1, fun vs C2 H2 c2 E2 r2 => k (v :: vs) C2 H2 (c1.trans c2) E2 (.cons (r1.mono c2) r2)⟩⟩
theorem je_tup {k : Nat} (h : JA T es e0 e1 ds) (hl : ds.length ≤ LN := by exact Nat.le_of_ble_eq_true rfl) : JE T (.Tuple es k pos) e0 e1 (.d (.tuple ds)) := fun X hX =>
  (pe_tup (h X hX)).wk fun σ H Q ⟨R, C, E, k⟩ => ⟨R, C, E, fun vs C1 H1 c1 E1 r1 => ⟨lnS (by rw [r1.len]; exact hl), fun p hp => by
    obtain ⟨c, E', r⟩ := E1.freshT hp (by rw [r1.len]; exact hl) r1
    exact k _ _ _ (c1.trans c) E' r⟩⟩
theorem je_lst (h : JA T es e0 e1 ds) (hl : ds.length ≤ LN := by exact Nat.le_of_ble_eq_true rfl) : JE T (.List es pos) e0 e1 (.o (.list ds)) := fun X hX =>
  (pe_lst (h X hX)).wk fun σ H Q ⟨R, C, E, k⟩ => ⟨R, C, E, fun vs C1 H1 c1 E1 r1 => ⟨lnS (by rw [r1.len]; exact hl), fun p hp => by
    obtain ⟨E', r⟩ := E1.freshO hp (by rw [r1.len]; exact hl) r1
    exact k _ _ _ c1 E' r⟩⟩

/-! ### subscripts -/
theorem je_ix {r : PySem.W.Frag → R2} {w : Re} (hr : ∀ X, CT X T → IxR X (r X.K)) (h : JE2 T a b e0 e2 x y) (ho : Op2B T r x y w) (hs : PlainIx b := by intro _ _; rfl) : JE T (.Subscript a b pos) e0 e2 w := fun X hX => by
  obtain ⟨ta, tb, pa, pb, k⟩ := op2_run hX h ho
  exact (pe_ix (hr X hX) pa pb hs).wk k
theorem atI_rps {vs : List V} {xs : List PyData} {i : Int} {z : PyData} (r : Rps K C vs xs) (h : atI xs i = some z) : ∃ v, atI vs i = some v ∧ Rp K C v z := by
  unfold atI at h ⊢
  rw [r.len]
  cases q : ixN xs.length i with
  | none => rw [q] at h; cases h
  | some j =>
    rw [q] at h
    exact r.getD h
theorem je_ixL {xs : List PyData} {i : Int} {z : PyData} (h : JE2 T a b e0 e2 (.list xs) (.int i)) (hz : atI xs i = some z) (hs : PlainIx b := by intro _ _; rfl) : JE T (.Subscript a b pos) e0 e2 (.d z) :=
  je_ix (r := rIxL) (fun X _ => ix_list) h (fun R C H env σ u v Q E hu hv k => by
    obtain ⟨p, vs, rfl, h1, l1, r1⟩ := rb_lst E hu
    have e1 := rb_int E hv
    subst e1
    obtain ⟨w, hw, rw⟩ := atI_rps r1 hz
    exact ⟨p, vs, i, w, rfl, rfl, SqL.of h1, hw, k _ C H (Ex.refl C) E rw⟩) hs
theorem je_ixT {xs : List PyData} {i : Int} {z : PyData} (h : JE2 T a b e0 e2 (.tuple xs) (.int i)) (hz : atI xs i = some z) (hs : PlainIx b := by intro _ _; rfl) : JE T (.Subscript a b pos) e0 e2 (.d z) :=
  je_ix (r := rIxT) (fun X _ => ix_tup) h (fun R C H env σ u v Q E hu hv k => by
    obtain ⟨p, vs, rfl, h1, c1, l1, r1⟩ := rb_tup E hu
    have e1 := rb_int E hv
    subst e1
    obtain ⟨w, hw, rw⟩ := atI_rps r1 hz
    exact ⟨p, vs, i, w, rfl, rfl, h1, hw, k _ C H (Ex.refl C) E rw⟩) hs
theorem sOk_one {s : Str} (h : sOk s) {i : Nat} {c : Nat} (hc : s.cps.toList[i]? = some c) : sOk ⟨#[c]⟩ := by
  refine ⟨?_, by show (1 : Nat) ≤ LN; decide⟩
  have h1 := h.1
  unfold PyData.strOk at h1 ⊢
  rw [Array.all_eq_true] at h1
  have hi : i < s.cps.size := by
    have := (List.getElem?_eq_some_iff.mp hc).1
    simpa using this
  have e : s.cps[i] = c := by
    have := (List.getElem?_eq_some_iff.mp hc).2
    simpa using this
  have := h1 i hi
  rw [e] at this
  simpa using this
theorem je_ixS {s : Str} {i : Int} {c : Nat} (h : JE2 T a b e0 e2 (.str s) (.int i)) (hz : atI s.cps.toList i = some c) (hs : PlainIx b := by intro _ _; rfl) : JE T (.Subscript a b pos) e0 e2 (.d (.str ⟨#[c]⟩)) :=
  je_ix (r := fun _ => rIxS) (fun X _ => ix_str) h (fun R C H env σ u v Q E hu hv k => by
    have hu' := rb_rp E hu
    have e0 := rb_str E hu
    subst e0
    have e1 := rb_int E hv
    subst e1
    cases hu' with
    | str ok =>
    obtain ⟨j, h1, h2⟩ : ∃ j, ixN s.cps.toList.length i = some j ∧ s.cps.toList[j]? = some c := by
      unfold atI at hz
      cases q : ixN s.cps.toList.length i with
      | none => rw [q] at hz; cases hz
      | some j => rw [q] at hz; exact ⟨j, rfl, hz⟩
    exact ⟨s, i, c, rfl, rfl, lnS ok.2, hz, k _ C H (Ex.refl C) E (.str (sOk_one ok h2))⟩) hs
/-- a slice's part -/
def tOJ (K : PySem.W.Frag) (env env' : Env') (o : Option Int) : TO := fun σ H Q => ∃ R C, EnvC K R C env σ H ∧ ∀ C' H', Ex C C' → EnvC K R C' env' σ H' → Q o H'
def JO (T : TC) (e : Option Expr) (env env' : Env') (o : Option Int) : Prop := ∀ X, CT X T → PO X e (tOJ X.K env env' o)
theorem _root_.L2.PO.wk {X : Cx} {e : Option Expr} {t t' : TO} (h : PO X e t) (hh : ∀ σ H Q, t' σ H Q → t σ H Q) : PO X e t' := ⟨fun pins s σ H Q I q => h.run pins s σ H Q I (hh σ H Q q)⟩
theorem jo_none : JO T none env env none := fun X hX => po_none.wk fun σ H Q ⟨R, C, E, k⟩ => k C H (Ex.refl C) E
theorem jo_some {i : Int} (h : JE T e e0 e1 (.d (.int i))) : JO T (some e) e0 e1 (some i) := fun X hX => (po_some (h X hX)).wk fun σ H Q ⟨R, C, E, k⟩ => ⟨R, C, E, fun v C' H' c E' r => by cases r; exact ⟨i, rfl, k C' H' c E'⟩⟩
/-- the items of a slice -/
def cutL {α : Type} (xs : List α) (lo hi : Option Int) : List α := (xs.drop (HT.sIx xs.length 0 lo)).take (HT.sIx xs.length xs.length hi - HT.sIx xs.length 0 lo)
theorem cutL_map {α β : Type} (f : α → β) (xs : List α) (lo hi : Option Int) : cutL (xs.map f) lo hi = (cutL xs lo hi).map f := by
  unfold cutL
  rw [List.length_map, List.map_take, List.map_drop]
theorem cutV_cutL (xs : List V) (lo hi : Option Int) : cutV xs lo hi = cutL xs lo hi := rfl
theorem cutL_len {α : Type} (xs : List α) (lo hi : Option Int) : (cutL xs lo hi).length ≤ xs.length := by
  unfold cutL
  rw [List.length_take, List.length_drop]; omega
theorem rps_cut {vs : List V} {xs : List PyData} (r : Rps K C vs xs) (lo hi : Option Int) : Rps K C (cutV vs lo hi) (cutL xs lo hi) := by
  unfold cutV cutL
  rw [r.len]
  exact (r.drop _).take _
theorem je_slL {xs : List PyData} {lo hi : Option Int} {l u : Option Expr} {p2 : Pos} (h : JE T a e0 e1 (.d (.list xs))) (hl : JO T l e1 e2 lo) (hu : JO T u e2 e3 hi) : JE T (.Subscript a (.Slice l u none p2) pos) e0 e3 (.o (.list (cutL xs lo hi))) := fun X hX =>
  (pe_slice sl_list (h X hX) (hl X hX) (hu X hX)).wk fun σ H Q ⟨R, C, E, k⟩ => ⟨R, C, E, fun v C1 H1 c1 E1 r1 => ⟨R, C1, E1, fun C2 H2 c2 E2 => ⟨R, C2, E2, fun C3 H3 c3 E3 => by
    obtain ⟨p, vs, rfl, h1, l1, r1⟩ := rb_lst E3 (.inl (r1.mono (c2.trans c3)))
    refine ⟨p, vs, rfl, SqL.of h1, fun q hq => ?_⟩
    obtain ⟨E', r⟩ := E3.freshO hq (Nat.le_trans (cutV_length _ _ _) l1) (rps_cut r1 lo hi)
    exact k _ _ _ ((c1.trans c2).trans c3) E' r⟩⟩⟩
theorem je_slLb {xs : List PyData} {lo hi : Option Int} {l u : Option Expr} {p2 : Pos} (h : JE T a e0 e1 (.b (.list xs))) (hl : JO T l e1 e1 lo) (hu : JO T u e1 e1 hi) : JE T (.Subscript a (.Slice l u none p2) pos) e0 e1 (.o (.list (cutL xs lo hi))) := fun X hX =>
  (pe_slice sl_list (h X hX) (hl X hX) (hu X hX)).wk fun σ H Q ⟨R, C, E, k⟩ => ⟨R, C, E, fun v C1 H1 c1 E1 r1 => ⟨R, C1, E1, fun C2 H2 c2 E2 => ⟨R, C2, E2, fun C3 H3 c3 E3 => by
    have r1' : Rr X.K R C3 H3 e1 σ v (.b (.list xs)) := by
      rcases r1 with r1 | r1
      · exact .inl (r1.mono (c2.trans c3))
      · exact .inr r1
    obtain ⟨p, vs, rfl, h1, l1, r1⟩ := rb_lst E3 r1'
    refine ⟨p, vs, rfl, SqL.of h1, fun q hq => ?_⟩
    obtain ⟨E', r⟩ := E3.freshO hq (Nat.le_trans (cutV_length _ _ _) l1) (rps_cut r1 lo hi)
    exact k _ _ _ ((c1.trans c2).trans c3) E' r⟩⟩⟩
theorem je_slT {xs : List PyData} {lo hi : Option Int} {l u : Option Expr} {p2 : Pos} (h : JE T a e0 e1 (.d (.tuple xs))) (hl : JO T l e1 e2 lo) (hu : JO T u e2 e3 hi) : JE T (.Subscript a (.Slice l u none p2) pos) e0 e3 (.d (.tuple (cutL xs lo hi))) := fun X hX =>
  (pe_slice sl_tupA (h X hX) (hl X hX) (hu X hX)).wk fun σ H Q ⟨R, C, E, k⟩ => ⟨R, C, E, fun v C1 H1 c1 E1 r1 => ⟨R, C1, E1, fun C2 H2 c2 E2 => ⟨R, C2, E2, fun C3 H3 c3 E3 => by
    obtain ⟨p, vs, rfl, h1, q1, l1, r1⟩ := rb_tup E3 (.inl (r1.mono (c2.trans c3)))
    refine ⟨p, vs, rfl, h1, fun ⟨z1, z2⟩ => ?_, fun _ q hq => ?_⟩
    · refine k _ C3 H3 ((c1.trans c2).trans c3) E3 ?_
      have e : cutL xs lo hi = xs := by
        unfold cutL
        rw [← r1.len, z1, z2, List.drop_zero, Nat.sub_zero, r1.len, List.take_length]
      rw [e]
      exact .tup q1 l1 r1
    · obtain ⟨c, E', r⟩ := E3.freshT hq (Nat.le_trans (cutV_length _ _ _) l1) (rps_cut r1 lo hi)
      exact k _ _ _ (((c1.trans c2).trans c3).trans c) E' r⟩⟩⟩

/-! ### calls of built-ins -/
/-- what a call makes of data -/
def CallOk (T : TC) (r : PySem.W.Frag → List V → Hp → VK → Prop) (ds : List PyData) (w : Re) : Prop := ∀ R C H env σ vs Q, EnvC T.K R C env σ H → Rps T.K C vs ds →
  (∀ w' C' H', Ex C C' → EnvC T.K R C' env σ H' → Rr T.K R C' H' env σ w' w → Q w' H') → r T.K vs H Q
def CallOk1 (T : TC) (r : PySem.W.Frag → List V → Hp → VK → Prop) (x : PyData) (w : Re) : Prop := ∀ R C H env σ v Q, EnvC T.K R C env σ H → Rr T.K R C H env σ v (.b x) →
  (∀ w' C' H', Ex C C' → EnvC T.K R C' env σ H' → Rr T.K R C' H' env σ w' w → Q w' H') → r T.K [v] H Q
/-- facts of written arguments -/
structure Plain (e : Expr) (es : List Expr) (pos : Pos) : Prop where
  he : ∀ v : Env, starEach (e :: es) v = (false, eval e v) :: starEach es v
  hp : ∀ v : Env, (backTo pos (starEach es v)).any (·.1) = false
theorem je_bi {id : String} {nm : Str} {r : PySem.W.Frag → List V → Hp → VK → Prop} {w : Re} (hc : ∀ X, CT X T → CallR X (.builtin id) (r X.K)) (hg : glB T.sc nm = true) (hm : T.mg nm = none) (hv : bootBuiltins nm = some (.builtin id))
    (ha : JA T (e :: es) e0 e1 ds) (ho : CallOk T r ds w) (hp : Plain e es pos := by exact ⟨fun _ => rfl, fun _ => rfl⟩) (hn : nm ≠ "__name__" := by decide) (hdb : (nm == ("__debug__" : Str)) = false := by decide) : JE T (.Call (.Name nm p) (e :: es) [] pos) e0 e1 w := fun X hX =>
  (pe_callB (hc X hX) (gl_of hX hg) (by rw [hX.mg]; exact hm) hv (ha X hX) hn hdb (hp.he X.env) (hp.hp X.env)).wk fun σ H Q ⟨R, C, E, k⟩ => by
    rw [hX.K] at *
    exact ⟨R, C, E, fun vs C1 H1 c1 E1 r1 => ho R C1 H1 e1 σ vs Q E1 r1 fun w' C2 H2 c2 E2 r2 => k w' C2 H2 (c1.trans c2) E2 r2⟩
theorem je_bi1 {id : String} {nm : Str} {r : PySem.W.Frag → List V → Hp → VK → Prop} {w : Re} (hc : ∀ X, CT X T → CallR X (.builtin id) (r X.K)) (hg : glB T.sc nm = true) (hm : T.mg nm = none) (hv : bootBuiltins nm = some (.builtin id))
    (ha : JE T e e0 e1 (.b x)) (ho : CallOk1 T r x w) (hp : Plain e [] pos := by exact ⟨fun _ => rfl, fun _ => rfl⟩) (hn : nm ≠ "__name__" := by decide) (hdb : (nm == ("__debug__" : Str)) = false := by decide) : JE T (.Call (.Name nm p) [e] [] pos) e0 e1 w := fun X hX =>
  (pe_callB (hc X hX) (gl_of hX hg) (by rw [hX.mg]; exact hm) hv (pa_cons (ha X hX) pa_nil (hp.he X.env)) hn hdb (hp.he X.env) (hp.hp X.env)).wk fun σ H Q ⟨R, C, E, k⟩ => by
    rw [hX.K] at *
    exact ⟨R, C, E, fun v C1 H1 c1 E1 r1 => ho R C1 H1 e1 σ v Q E1 r1 fun w' C2 H2 c2 E2 r2 => k w' C2 H2 (c1.trans c2) E2 r2⟩
theorem je_ty {id : String} {nm : Str} {r : PySem.W.Frag → List V → Hp → VK → Prop} {w : Re} (hc : ∀ X, CT X T → CallR X (.type id) (r X.K)) (hg : glB T.sc nm = true) (hm : T.mg nm = none) (hv : bootBuiltins nm = some (.type id))
    (ha : JA T (e :: es) e0 e1 ds) (ho : CallOk T r ds w) (hp : Plain e es pos := by exact ⟨fun _ => rfl, fun _ => rfl⟩) (hn : nm ≠ "__name__" := by decide) (hdb : (nm == ("__debug__" : Str)) = false := by decide) : JE T (.Call (.Name nm p) (e :: es) [] pos) e0 e1 w := fun X hX =>
  (pe_callTy (hc X hX) (gl_of hX hg) (by rw [hX.mg]; exact hm) hv (ha X hX) hn hdb (hp.he X.env) (hp.hp X.env)).wk fun σ H Q ⟨R, C, E, k⟩ => by
    rw [hX.K] at *
    exact ⟨R, C, E, fun vs C1 H1 c1 E1 r1 => ho R C1 H1 e1 σ vs Q E1 r1 fun w' C2 H2 c2 E2 r2 => k w' C2 H2 (c1.trans c2) E2 r2⟩
theorem je_ty1 {id : String} {nm : Str} {r : PySem.W.Frag → List V → Hp → VK → Prop} {w : Re} (hc : ∀ X, CT X T → CallR X (.type id) (r X.K)) (hg : glB T.sc nm = true) (hm : T.mg nm = none) (hv : bootBuiltins nm = some (.type id))
    (ha : JE T e e0 e1 (.b x)) (ho : CallOk1 T r x w) (hp : Plain e [] pos := by exact ⟨fun _ => rfl, fun _ => rfl⟩) (hn : nm ≠ "__name__" := by decide) (hdb : (nm == ("__debug__" : Str)) = false := by decide) : JE T (.Call (.Name nm p) [e] [] pos) e0 e1 w := fun X hX =>
  (pe_callTy (hc X hX) (gl_of hX hg) (by rw [hX.mg]; exact hm) hv (pa_cons (ha X hX) pa_nil (hp.he X.env)) hn hdb (hp.he X.env) (hp.hp X.env)).wk fun σ H Q ⟨R, C, E, k⟩ => by
    rw [hX.K] at *
    exact ⟨R, C, E, fun v C1 H1 c1 E1 r1 => ho R C1 H1 e1 σ v Q E1 r1 fun w' C2 H2 c2 E2 r2 => k w' C2 H2 (c1.trans c2) E2 r2⟩
section
variable {nm : Str}
/-- len -/
def lenD : PyData → Option Int
  | .list xs => some xs.length
  | .tuple xs => some xs.length
  | .str s => some s.length
  | .dict es => some es.length
  | _ => none
theorem je_lenL {xs : List PyData} (hg : glB T.sc "len" = true) (hm : T.mg "len" = none) (ha : JE T e e0 e1 (.b (.list xs))) (hp : Plain e [] pos := by exact ⟨fun _ => rfl, fun _ => rfl⟩) : JE T (.Call (.Name "len" p) [e] [] pos) e0 e1 (.d (.int xs.length)) :=
  je_bi1 (r := fun K xs H Q => ∃ p ys, xs = [.ref p] ∧ (SqL K H p ys ∨ SqT K H p ys) ∧ Q (.int ys.length) H) (fun X _ => call_len_seq) hg hm PySem.boot_len ha (fun R C H env σ v Q E hv k => by
    obtain ⟨p, vs, rfl, h1, l1, r1⟩ := rb_lst E hv
    exact ⟨p, vs, rfl, .inl (SqL.of h1), by rw [r1.len]; exact k _ C H (Ex.refl C) E (.int _)⟩) hp
theorem je_lenT {xs : List PyData} (hg : glB T.sc "len" = true) (hm : T.mg "len" = none) (ha : JE T e e0 e1 (.b (.tuple xs))) (hp : Plain e [] pos := by exact ⟨fun _ => rfl, fun _ => rfl⟩) : JE T (.Call (.Name "len" p) [e] [] pos) e0 e1 (.d (.int xs.length)) :=
  je_bi1 (r := fun K xs H Q => ∃ p ys, xs = [.ref p] ∧ (SqL K H p ys ∨ SqT K H p ys) ∧ Q (.int ys.length) H) (fun X _ => call_len_seq) hg hm PySem.boot_len ha (fun R C H env σ v Q E hv k => by
    obtain ⟨p, vs, rfl, h1, q1, l1, r1⟩ := rb_tup E hv
    exact ⟨p, vs, rfl, .inr h1, by rw [r1.len]; exact k _ C H (Ex.refl C) E (.int _)⟩) hp
theorem je_lenS {s : Str} (hg : glB T.sc "len" = true) (hm : T.mg "len" = none) (ha : JE T e e0 e1 (.b (.str s))) (hp : Plain e [] pos := by exact ⟨fun _ => rfl, fun _ => rfl⟩) : JE T (.Call (.Name "len" p) [e] [] pos) e0 e1 (.d (.int s.length)) :=
  je_bi1 (r := fun _ vs H Q => ∃ z, vs = [.str z] ∧ z.length ≤ sizeLine ∧ Q (.int z.length) H) (fun X _ => call_len_str) hg hm PySem.boot_len ha (fun R C H env σ v Q E hv k => by
    have hv' := rb_rp E hv
    have e0 := rb_str E hv
    subst e0
    cases hv' with
    | str ok => exact ⟨s, rfl, lnS ok.2, k _ C H (Ex.refl C) E (.int _)⟩) hp
theorem je_abs {i : Int} (hg : glB T.sc "abs" = true) (hm : T.mg "abs" = none) (ha : JE T e e0 e1 (.d (.int i))) (hp : Plain e [] pos := by exact ⟨fun _ => rfl, fun _ => rfl⟩) : JE T (.Call (.Name "abs" p) [e] [] pos) e0 e1 (.d (.int (if i < 0 then -i else i))) :=
  je_bi1 (r := fun _ xs H Q => ∃ i, xs = [.int i] ∧ Q (.int (if i < 0 then -i else i)) H) (fun X _ => call_abs) hg hm (by decide +kernel) (je_b ha) (fun R C H env σ v Q E hv k =>
    ⟨i, by rw [rb_int E hv], k _ C H (Ex.refl C) E (.int _)⟩) hp
theorem je_max2 {i j : Int} (hg : glB T.sc "max" = true) (hm : T.mg "max" = none) (ha : JA T [a, b] e0 e1 [.int i, .int j]) (hp : Plain a [b] pos := by exact ⟨fun _ => rfl, fun _ => rfl⟩) : JE T (.Call (.Name "max" p) [a, b] [] pos) e0 e1 (.d (.int (max i j))) :=
  je_bi (r := fun _ xs H Q => ∃ i j, xs = [.int i, .int j] ∧ Q (.int (if j > i then j else i)) H) (fun X hX => call_max2 hX.calm) hg hm (by decide +kernel) ha (fun R C H env σ vs Q E hv k => by
    cases hv with
    | cons h1 r => cases h1; cases r with
      | cons h2 r => cases h2; cases r; exact ⟨i, j, rfl, k _ C H (Ex.refl C) E (by
          have : (if j > i then j else i) = max i j := by rw [Int.max_def]; split <;> split <;> omega
          rw [this]; exact .int _)⟩) hp
theorem je_min2 {i j : Int} (hg : glB T.sc "min" = true) (hm : T.mg "min" = none) (ha : JA T [a, b] e0 e1 [.int i, .int j]) (hp : Plain a [b] pos := by exact ⟨fun _ => rfl, fun _ => rfl⟩) : JE T (.Call (.Name "min" p) [a, b] [] pos) e0 e1 (.d (.int (min i j))) :=
  je_bi (r := fun _ xs H Q => ∃ i j, xs = [.int i, .int j] ∧ Q (.int (if j < i then j else i)) H) (fun X hX => call_min2 hX.calm) hg hm (by decide +kernel) ha (fun R C H env σ vs Q E hv k => by
    cases hv with
    | cons h1 r => cases h1; cases r with
      | cons h2 r => cases h2; cases r; exact ⟨i, j, rfl, k _ C H (Ex.refl C) E (by
          have : (if j < i then j else i) = min i j := by rw [Int.min_def]; split <;> split <;> omega
          rw [this]; exact .int _)⟩) hp
theorem je_sum {ns : List Int} (hg : glB T.sc "sum" = true) (hm : T.mg "sum" = none) (ha : JE T e e0 e1 (.b (.list (ns.map .int)))) (hp : Plain e [] pos := by exact ⟨fun _ => rfl, fun _ => rfl⟩) : JE T (.Call (.Name "sum" p) [e] [] pos) e0 e1 (.d (.int ns.sum)) :=
  je_bi1 (r := rSum) (fun X hX => cr_sum hX.calm) hg hm (by decide +kernel) ha (fun R C H env σ v Q E hv k => by
    obtain ⟨p, vs, rfl, h1, l1, r1⟩ := rb_lst E hv
    have e := r1.int
    subst e
    exact ⟨p, ns, rfl, SqL.of h1, k _ C H (Ex.refl C) E (.int _)⟩) hp
theorem je_all {bs : List Bool} (hg : glB T.sc "all" = true) (hm : T.mg "all" = none) (ha : JE T e e0 e1 (.b (.list (bs.map .bool)))) (hp : Plain e [] pos := by exact ⟨fun _ => rfl, fun _ => rfl⟩) : JE T (.Call (.Name "all" p) [e] [] pos) e0 e1 (.d (.bool (bs.all id))) :=
  je_bi1 (r := rAll) (fun X hX => cr_all hX.calm) hg hm (by decide +kernel) ha (fun R C H env σ v Q E hv k => by
    obtain ⟨p, vs, rfl, h1, l1, r1⟩ := rb_lst E hv
    have e := r1.bls
    subst e
    exact ⟨p, bs, rfl, SqL.of h1, k _ C H (Ex.refl C) E (.bl _)⟩) hp
theorem je_any {bs : List Bool} (hg : glB T.sc "any" = true) (hm : T.mg "any" = none) (ha : JE T e e0 e1 (.b (.list (bs.map .bool)))) (hp : Plain e [] pos := by exact ⟨fun _ => rfl, fun _ => rfl⟩) : JE T (.Call (.Name "any" p) [e] [] pos) e0 e1 (.d (.bool (bs.any id))) :=
  je_bi1 (r := rAny) (fun X hX => cr_any hX.calm) hg hm (by decide +kernel) ha (fun R C H env σ v Q E hv k => by
    obtain ⟨p, vs, rfl, h1, l1, r1⟩ := rb_lst E hv
    have e := r1.bls
    subst e
    exact ⟨p, bs, rfl, SqL.of h1, k _ C H (Ex.refl C) E (.bl _)⟩) hp
/-- list(..), tuple(..) -/
theorem je_listL {xs : List PyData} (hg : glB T.sc "list" = true) (hm : T.mg "list" = none) (ha : JE T e e0 e1 (.b (.list xs))) (hp : Plain e [] pos := by exact ⟨fun _ => rfl, fun _ => rfl⟩) : JE T (.Call (.Name "list" p) [e] [] pos) e0 e1 (.o (.list xs)) :=
  je_ty1 (r := fun K xs H Q => ∃ p ys, xs = [.ref p] ∧ (SqL K H p ys ∨ SqT K H p ys) ∧ ∀ l, H l = none → Q (.ref l) (upd H l (.lst ys))) (fun X hX => call_list_of) hg hm (by decide +kernel) ha (fun R C H env σ v Q E hv k => by
    obtain ⟨p, vs, rfl, h1, l1, r1⟩ := rb_lst E hv
    refine ⟨p, vs, rfl, .inl (SqL.of h1), fun l hl => ?_⟩
    obtain ⟨E', r⟩ := E.freshO hl l1 r1
    exact k _ C _ (Ex.refl C) E' r) hp
theorem je_listT {xs : List PyData} (hg : glB T.sc "list" = true) (hm : T.mg "list" = none) (ha : JE T e e0 e1 (.b (.tuple xs))) (hp : Plain e [] pos := by exact ⟨fun _ => rfl, fun _ => rfl⟩) : JE T (.Call (.Name "list" p) [e] [] pos) e0 e1 (.o (.list xs)) :=
  je_ty1 (r := fun K xs H Q => ∃ p ys, xs = [.ref p] ∧ (SqL K H p ys ∨ SqT K H p ys) ∧ ∀ l, H l = none → Q (.ref l) (upd H l (.lst ys))) (fun X hX => call_list_of) hg hm (by decide +kernel) ha (fun R C H env σ v Q E hv k => by
    obtain ⟨p, vs, rfl, h1, q1, l1, r1⟩ := rb_tup E hv
    refine ⟨p, vs, rfl, .inr h1, fun l hl => ?_⟩
    obtain ⟨E', r⟩ := E.freshO hl l1 r1
    exact k _ C _ (Ex.refl C) E' r) hp
theorem je_tupL {xs : List PyData} (hg : glB T.sc "tuple" = true) (hm : T.mg "tuple" = none) (ha : JE T e e0 e1 (.b (.list xs))) (hp : Plain e [] pos := by exact ⟨fun _ => rfl, fun _ => rfl⟩) : JE T (.Call (.Name "tuple" p) [e] [] pos) e0 e1 (.d (.tuple xs)) :=
  je_ty1 (r := fun K xs H Q => ∃ p ys, xs = [.ref p] ∧ ((SqL K H p ys ∧ ∀ l, H l = none → Q (.ref l) (upd H l (.tup ys))) ∨ (SqT K H p ys ∧ Q (.ref p) H))) (fun X hX => call_tuple_of) hg hm (by decide +kernel) ha (fun R C H env σ v Q E hv k => by
    obtain ⟨p, vs, rfl, h1, l1, r1⟩ := rb_lst E hv
    refine ⟨p, vs, rfl, .inl ⟨SqL.of h1, fun l hl => ?_⟩⟩
    obtain ⟨c, E', r⟩ := E.freshT hl l1 r1
    exact k _ _ _ c E' r) hp
theorem je_tupT {xs : List PyData} (hg : glB T.sc "tuple" = true) (hm : T.mg "tuple" = none) (ha : JE T e e0 e1 (.b (.tuple xs))) (hp : Plain e [] pos := by exact ⟨fun _ => rfl, fun _ => rfl⟩) : JE T (.Call (.Name "tuple" p) [e] [] pos) e0 e1 (.d (.tuple xs)) :=
  je_ty1 (r := fun K xs H Q => ∃ p ys, xs = [.ref p] ∧ ((SqL K H p ys ∧ ∀ l, H l = none → Q (.ref l) (upd H l (.tup ys))) ∨ (SqT K H p ys ∧ Q (.ref p) H))) (fun X hX => call_tuple_of) hg hm (by decide +kernel) ha (fun R C H env σ v Q E hv k => by
    obtain ⟨p, vs, rfl, h1, q1, l1, r1⟩ := rb_tup E hv
    exact ⟨p, vs, rfl, .inr ⟨h1, k _ C H (Ex.refl C) E (.tup q1 l1 r1)⟩⟩) hp
/-- a list that is only read, taken over -/
theorem je_listS {xs : List PyData} (hg : glB T.sc "list" = true) (hm : T.mg "list" = none) (ha : JE T e e0 e1 (.d (.dict [(.none, .list xs)]))) (hp : Plain e [] pos := by exact ⟨fun _ => rfl, fun _ => rfl⟩) : JE T (.Call (.Name "list" p) [e] [] pos) e0 e1 (.o (.list xs)) :=
  je_ty (r := fun K xs H Q => ∃ p ys, xs = [.ref p] ∧ (SqL K H p ys ∨ SqT K H p ys) ∧ ∀ l, H l = none → Q (.ref l) (upd H l (.lst ys))) (fun X hX => call_list_of) hg hm (by decide +kernel) (ja_cons ha ja_nil hp.he) (fun R C H env σ vs Q E hv k => by
    cases hv with
    | cons h1 r =>
    cases r
    have key : ∀ (es : List (PyData × PyData)), es = [(.none, .list xs)] → ∀ v, Rp T.K C v (.dict es) → ∃ a ws, v = .ref a ∧ SqL T.K C a ws ∧ ws.length ≤ LN ∧ Rps T.K C ws xs := fun es he v h => by
      cases h with
      | scr q l r => cases he; exact ⟨_, _, rfl, q, l, r⟩
      | dK q l r =>
        subst he
        generalize hk : [(PyData.none, PyData.list xs)] = es at r
        cases r with
        | nil => cases hk
        | @cons k v r d es h1 h2 => cases k <;> simp [kD] at hk
      | dT q l r =>
        subst he
        generalize hk : [(PyData.none, PyData.list xs)] = es at r
        cases r with
        | nil => cases hk
        | @cons k v r d es h1 h2 => simp [tD] at hk
    obtain ⟨a, ws, rfl, q, l, r⟩ := key _ rfl _ h1
    refine ⟨a, ws, rfl, .inl (E.cH.l q), fun t ht => ?_⟩
    obtain ⟨E', r⟩ := E.freshO ht l r
    exact k _ C _ (Ex.refl C) E' r) hp
theorem je_intI {i : Int} (hg : glB T.sc "int" = true) (hm : T.mg "int" = none) (ha : JE T e e0 e1 (.d (.int i))) (hp : Plain e [] pos := by exact ⟨fun _ => rfl, fun _ => rfl⟩) : JE T (.Call (.Name "int" p) [e] [] pos) e0 e1 (.d (.int i)) :=
  je_ty1 (r := fun _ xs H Q => (∃ i, xs = [.int i] ∧ Q (.int i) H) ∨ ∃ k, xs = [.bl k] ∧ Q (.int (if k then 1 else 0)) H) (fun X hX => call_int1) hg hm (by decide +kernel) (je_b ha) (fun R C H env σ v Q E hv k =>
    .inl ⟨i, by rw [rb_int E hv], k _ C H (Ex.refl C) E (.int _)⟩) hp
end
end
end J
namespace J
open PySem L2 PySem.Spec PyProof.Rows
section
variable {T : TC} {a b e : Expr} {es : List Expr} {env e0 e1 e2 e3 : Env'} {pos p : Pos} {x y z : PyData} {ds : List PyData} {K : PySem.W.Frag} {R C C' H H' : Hp} {σ : L2.St} {v : V}

/-! ### calls of the text's own defs -/
/-- what a def promises: with such arguments it returns res, and leaves what stood -/
def SpD {A : Type} (K : PySem.W.Frag) (pre : A → Prop) (args : A → List PyData) (res : A → PyData) : Sp := fun vs H Q _ => ∃ (a : A) (C : Hp), pre a ∧ Ex C H ∧ Rps K C vs (args a) ∧
  ∀ v C' H', Ex C C' → Ex C' H' → (∀ p o, H p = some o → C p = none → H' p = some o ∧ C' p = none) → Rp K C' v (res a) → Q v H'
/-- .. whose first argument is an object that it may change -/
def SpO {A : Type} (K : PySem.W.Frag) (pre : A → Prop) (d0 d1 : A → PyData) (args : A → List PyData) (res : A → PyData) : Sp := fun vs H Q _ => ∃ (a : A) (C : Hp) (p : Addr) (vs' : List V), vs = .ref p :: vs' ∧ pre a ∧ Ex C H ∧ C p = none ∧ Ow K C (H p) (d0 a) ∧ Rps K C vs' (args a) ∧
  ∀ v C' H', Ex C C' → Ex C' H' → (∀ q o, q ≠ p → H q = some o → C q = none → H' q = some o ∧ C' q = none) → C' p = none → Ow K C' (H' p) (d1 a) → Rp K C' v (res a) → Q v H'
/-- .. that hands back a new object that may be changed -/
def SpF {A : Type} (K : PySem.W.Frag) (pre : A → Prop) (args : A → List PyData) (res : A → PyData) : Sp := fun vs H Q _ => ∃ (a : A) (C : Hp), pre a ∧ Ex C H ∧ Rps K C vs (args a) ∧
  ∀ p C' H', Ex C C' → Ex C' H' → (∀ p o, H p = some o → C p = none → H' p = some o ∧ C' p = none) → H p = none → C' p = none → Ow K C' (H' p) (res a) → Q (.ref p) H'
theorem EnvC.call (E : EnvC K R C env σ H) (c : Ex C C') (ch : Ex C' H') (k : ∀ p o, H p = some o → C p = none → H' p = some o ∧ C' p = none) : EnvC K R C' env σ H' := by
  refine ⟨E.len, ch, fun p o e => ?_, fun p e => ?_, fun i x e => ?_, fun i q x e => ?_, E.apart⟩
  · exact (k p o (E.rH _ _ e) (E.rc p (by rw [e]; simp))).1
  · cases q : R p with
    | none => exact absurd q e
    | some o => exact (k p o (E.rH _ _ q) (E.rc p e)).2
  · obtain ⟨v, h1, h2⟩ := E.dat i x e
    exact ⟨v, h1, h2.mono c⟩
  · obtain ⟨p, h1, h0, h2, h3, h4⟩ := E.own i q x e
    cases ho : H p with
    | none => rw [ho] at h4; exact absurd rfl h4.there
    | some o =>
      obtain ⟨k1, k2⟩ := k p o ho h2
      refine ⟨p, h1, h0, k2, h3, ?_⟩
      rw [k1, ← ho]
      exact h4.mono c
theorem EnvC.callO {i : Nat} {k0 : Option Addr} {d0 d1 : PyData} {p : Addr} (E : EnvC K R C env σ H) (hi : env[i]? = some (.o k0 d0)) (hs : σ[i]? = some (some (.ref p))) (c : Ex C C') (ch : Ex C' H')
    (k : ∀ q o, q ≠ p → H q = some o → C q = none → H' q = some o ∧ C' q = none) (cp : C' p = none) (ow : Ow K C' (H' p) d1) : EnvC K R C' (env.set i (.o k0 d1)) σ H' := by
  have hil : i < env.length := (List.getElem?_eq_some_iff.mp hi).1
  obtain ⟨p', s', hq, _, rp, _⟩ := E.own i k0 d0 hi
  rw [hs] at s'; cases s'
  refine ⟨by simp [E.len], ch, fun q o e => ?_, fun q e => ?_, fun j x e => ?_, fun j w x e => ?_, fun j k w w' y z q e1 e2 s1 s2 => ?_⟩
  · exact (k q o (fun h => by subst h; rw [rp] at e; cases e) (E.rH _ _ e) (E.rc q (by rw [e]; simp))).1
  · cases q' : R q with
    | none => exact absurd q' e
    | some o => exact (k q o (fun h => by subst h; exact e rp) (E.rH _ _ q') (E.rc q e)).2
  · by_cases h : i = j
    · subst h; rw [List.getElem?_set_self hil] at e; cases e
    · rw [List.getElem?_set_ne h] at e
      obtain ⟨v, h1, h2⟩ := E.dat j x e
      exact ⟨v, h1, h2.mono c⟩
  · by_cases h : i = j
    · subst h; rw [List.getElem?_set_self hil] at e; cases e
      exact ⟨p, hs, hq, cp, rp, ow⟩
    · rw [List.getElem?_set_ne h] at e
      obtain ⟨q, h1, h0, h2, h3, h4⟩ := E.own j w x e
      have hqp : q ≠ p := fun hh => by subst hh; exact h (E.apart i j _ _ _ x q hi e hs h1)
      cases ho : H q with
      | none => rw [ho] at h4; exact absurd rfl h4.there
      | some o =>
        obtain ⟨k1, k2⟩ := k q o hqp ho h2
        refine ⟨q, h1, h0, k2, h3, ?_⟩
        rw [k1, ← ho]
        exact h4.mono c
  · have f : ∀ {j : Nat} {w : Option Addr} {y : PyData}, (env.set i (.o k0 d1))[j]? = some (.o w y) → ∃ w y, env[j]? = some (.o w y) := fun {j w y} e => by
      by_cases h : i = j
      · subst h; exact ⟨_, _, hi⟩
      · rw [List.getElem?_set_ne h] at e; exact ⟨_, _, e⟩
    obtain ⟨_, _, f1⟩ := f e1
    obtain ⟨_, _, f2⟩ := f e2
    exact E.apart j k _ _ _ _ q f1 f2 s1 s2
/-- a def that is known -/
structure Kn {A : Type} (T : TC) (nm : Str) (k : Nat) (f : Addr) (fd : FuncData) (ps : List Str) (sp : Sp) : Prop where
  ok : FnOk T.P T.w T.K T.mg T.base CX0 k f fd ps sp
  mg : T.mg nm = some (.ref f)
  kp : PySem.W.keepIn T.K (.ref f) = true
  b : Binds T.K fd ps []
theorem CT.fn_ok {X : Cx} {k : Nat} {f : Addr} {fd : FuncData} {ps : List Str} {sp : Sp} (hX : CT X T) (h : FnOk T.P T.w T.K T.mg T.base CX0 k f fd ps sp) : FnOk X.prog X.w X.K X.mg X.base CX0 k f fd ps sp := by
  rw [hX.P, hX.w, hX.K, hX.mg, hX.base]; exact h
theorem je_call {A : Type} {nm : Str} {k : Nat} {f : Addr} {fd : FuncData} {ps : List Str} {pre : A → Prop} {args : A → List PyData} {res : A → PyData} (F : FnOk T.P T.w T.K T.mg T.base CX0 k f fd ps (SpD T.K pre args res)) (a : A) (hm : T.mg nm = some (.ref f)) (kp : PySem.W.keepIn T.K (.ref f) = true) (bi : Binds T.K fd ps [])
    (hg : glB T.sc nm = true) (hk : k ≤ T.k) (ha : JA T (e :: es) e0 e1 (args a)) (hpre : pre a) (hp : Plain e es pos := by exact ⟨fun _ => rfl, fun _ => rfl⟩) (hdb : (nm == ("__debug__" : Str)) = false := by decide) : JE T (.Call (.Name nm p) (e :: es) [] pos) e0 e1 (.d (res a)) := fun X hX =>
  (pe_call (E := E0) (dvs := []) (ds := []) (hX.fn_ok F) (hX.room.mono hk) (gl_of hX hg) (by rw [hX.mg]; exact hm) (by rw [hX.K]; exact kp) (by rw [hX.K]; exact bi) .nil pass0 (ha X hX) hdb (hp.he X.env) (hp.hp X.env)).wk fun σ H Q ⟨R, C, E, k⟩ => by
    rw [hX.K] at *
    refine ⟨R, C, E, fun vs C1 H1 c1 E1 r1 => ?_⟩
    show SpD T.K pre args res (vs ++ []) H1 Q E0
    rw [List.append_nil]
    exact ⟨a, C1, hpre, E1.cH, r1, fun v C2 H2 c2 ch kk r2 => k v C2 H2 (c1.trans c2) (E1.call c2 ch kk) r2⟩
theorem je_callF {A : Type} {nm : Str} {k : Nat} {f : Addr} {fd : FuncData} {ps : List Str} {pre : A → Prop} {args : A → List PyData} {res : A → PyData} (F : FnOk T.P T.w T.K T.mg T.base CX0 k f fd ps (SpF T.K pre args res)) (a : A) (hm : T.mg nm = some (.ref f)) (kp : PySem.W.keepIn T.K (.ref f) = true) (bi : Binds T.K fd ps [])
    (hg : glB T.sc nm = true) (hk : k ≤ T.k) (ha : JA T (e :: es) e0 e1 (args a)) (hpre : pre a) (hp : Plain e es pos := by exact ⟨fun _ => rfl, fun _ => rfl⟩) (hdb : (nm == ("__debug__" : Str)) = false := by decide) : JE T (.Call (.Name nm p) (e :: es) [] pos) e0 e1 (.o (res a)) := fun X hX =>
  (pe_call (E := E0) (dvs := []) (ds := []) (hX.fn_ok F) (hX.room.mono hk) (gl_of hX hg) (by rw [hX.mg]; exact hm) (by rw [hX.K]; exact kp) (by rw [hX.K]; exact bi) .nil pass0 (ha X hX) hdb (hp.he X.env) (hp.hp X.env)).wk fun σ H Q ⟨R, C, E, k⟩ => by
    rw [hX.K] at *
    refine ⟨R, C, E, fun vs C1 H1 c1 E1 r1 => ?_⟩
    show SpF T.K pre args res (vs ++ []) H1 Q E0
    rw [List.append_nil]
    refine ⟨a, C1, hpre, E1.cH, r1, fun p C2 H2 c2 ch kk hp0 cp ow => k (.ref p) C2 H2 (c1.trans c2) (E1.call c2 ch kk) ⟨p, rfl, cp, E1.rN hp0, fun i q x e s => ?_, ow⟩⟩
    obtain ⟨q', s', _, _, _, o'⟩ := E1.own i q x e
    rw [s] at s'; cases s'
    exact o'.there hp0
theorem je_callO {A : Type} {nm x : Str} {k i : Nat} {f : Addr} {fd : FuncData} {ps : List Str} {pre : A → Prop} {d0 d1 : A → PyData} {args : A → List PyData} {res : A → PyData} {k0 : Option Addr} {px : Pos} (F : FnOk T.P T.w T.K T.mg T.base CX0 k f fd ps (SpO T.K pre d0 d1 args res)) (a : A) (hm : T.mg nm = some (.ref f)) (kp : PySem.W.keepIn T.K (.ref f) = true) (bi : Binds T.K fd ps [])
    (hg : glB T.sc nm = true) (hk : k ≤ T.k) (hN : T.N[i]? = some x) (hv : visB T.sc x = true) (hi0 : ∃ d, e0[i]? = some (.o k0 d)) (ha : JA T es e0 e1 (args a)) (hi : e1[i]? = some (.o k0 (d0 a))) (hpre : pre a) (hp : Plain (.Name x px) es pos := by exact ⟨fun _ => rfl, fun _ => rfl⟩) (hdb : (nm == ("__debug__" : Str)) = false := by decide)
    (hd : (x == ("__debug__" : Str)) = false := by decide) (hcd : (x == ("__classdict__" : Str)) = false := by decide) :
    JE T (.Call (.Name nm p) (.Name x px :: es) [] pos) e0 (e1.set i (.o k0 (d1 a))) (.d (res a)) := fun X hX =>
  (pe_call (E := E0) (dvs := []) (ds := []) (hX.fn_ok F) (hX.room.mono hk) (gl_of hX hg) (by rw [hX.mg]; exact hm) (by rw [hX.K]; exact kp) (by rw [hX.K]; exact bi) .nil pass0 (pa_cons (pe_var (i := i) (by rw [hX.N]; exact hN) (by rw [hX.sc]; exact vis_of hv) hd hcd) (ha X hX) (hp.he X.env)) hdb (hp.he X.env) (hp.hp X.env)).wk fun σ H Q ⟨R, C, E, k⟩ => by
    rw [hX.K] at *
    obtain ⟨d, hi0⟩ := hi0
    obtain ⟨p, s0, _⟩ := E.own i k0 d hi0
    refine ⟨.ref p, s0, R, C, E, fun vs C1 H1 c1 E1 r1 => ?_⟩
    show SpO T.K pre d0 d1 args res ((.ref p :: vs) ++ []) H1 Q E0
    rw [List.append_nil]
    obtain ⟨p', s1, h0, h2, h3, h4⟩ := E1.own i k0 _ hi
    rw [s0] at s1; cases s1
    exact ⟨a, C1, p, vs, rfl, hpre, E1.cH, h2, h4, r1, fun v C2 H2 c2 ch kk cp ow r2 => k v C2 H2 (c1.trans c2) (E1.callO hi s0 c2 ch kk cp ow) r2⟩

/-! ### targets -/
def tGJ (K : PySem.W.Frag) (js : List Nat) (d : PyData) (env env' : Env') : TG := fun v σ H Q => ∃ R C, EnvC K R C env σ H ∧ Rp K C v d ∧ ∀ σ' : L2.St, (∀ j : Nat, j ∉ js → σ'[j]? = σ[j]?) → σ'.length = σ.length → EnvC K R C env' σ' H → Q σ' H
def JG (T : TC) (g : Expr) (js : List Nat) (d : PyData) (env env' : Env') : Prop := ∀ X, CT X T → PG X g (tGJ X.K js d env env')
def locB (sc : Scope) (x : Str) : Bool := match sc.names.lookup x with
  | some .local => true | some .cell => true | _ => false
theorem loc_of {sc : Scope} {x : Str} (h : locB sc x = true) : L2.Loc sc x := by
  unfold locB at h
  unfold L2.Loc
  split at h <;> first | exact .inl (by assumption) | exact .inr (by assumption) | cases h
theorem jg_name (i : Nat) {x : Str} {d : PyData} (hnd : T.N.Nodup) (hN : T.N[i]? = some x := by rfl) (hl : locB T.sc x = true := by rfl) (hf : T.fn x = true ∨ T.sc.names.lookup x = some .local := by first | exact .inl rfl | exact .inr rfl) : JG T (.Name x pos) [i] d env (env.set i (.d d)) := fun X hX =>
  (pg_name (i := i) (by rw [hX.N]; exact hnd) (by rw [hX.N]; exact hN) (by rw [hX.sc]; exact loc_of hl) (by rcases hf with h | h; exact .inl (hX.fn x h); exact .inr (by rw [hX.sc]; exact h))).wk fun v σ H Q ⟨R, C, E, r, k⟩ =>
    k _ (fun j hj => by rw [List.getElem?_set_ne]; intro h; exact hj (by simp [h])) (by simp) (E.set i r)
def tGsJ (K : PySem.W.Frag) (js : List Nat) (ds : List PyData) (env env' : Env') : TGs := fun vs σ H Q => ∃ R C, EnvC K R C env σ H ∧ Rps K C vs ds ∧ ∀ σ' : L2.St, (∀ j : Nat, j ∉ js → σ'[j]? = σ[j]?) → σ'.length = σ.length → EnvC K R C env' σ' H → Q σ' H
def JGs (T : TC) (g : List Expr) (js : List Nat) (ds : List PyData) (env env' : Env') : Prop := ∀ X, CT X T → PGs X g (tGsJ X.K js ds env env')
theorem _root_.L2.PGs.wk {X : Cx} {g : List Expr} {t t' : TGs} (h : PGs X g t) (hh : ∀ v σ H Q, t' v σ H Q → t v σ H Q) : PGs X g t' := ⟨fun pins s σ H v u Q I r q => h.run pins s σ H v u Q I r (hh v σ H Q q)⟩
theorem jgs_nil : JGs T [] [] [] env env := fun X hX => pgs_nil.wk fun vs σ H Q ⟨R, C, E, r, k⟩ => by
  cases r; exact ⟨rfl, k σ (fun _ _ => rfl) rfl E⟩
theorem jgs_cons {g : Expr} {gs : List Expr} {js js' : List Nat} (h : JG T g js x e0 e1) (h' : JGs T gs js' ds e1 e2) (hs : ∀ v : Env, (assignEach (g :: gs) v).map (·.2) = assign g v :: (assignEach gs v).map (·.2) := by intro _; rfl) : JGs T (g :: gs) (js ++ js') (x :: ds) e0 e2 := fun X hX =>
  (pgs_cons (h X hX) (h' X hX) (hs X.env)).wk fun vs σ H Q ⟨R, C, E, r, k⟩ => by
    cases r with
    | cons r1 r2 =>
    refine ⟨_, _, rfl, R, C, E, r1, fun σ1 s1 l1 E1 => ⟨R, C, E1, r2, fun σ2 s2 l2 E2 => k σ2 (fun j hj => ?_) (l2.trans l1) E2⟩⟩
    rw [List.mem_append, not_or] at hj
    rw [s2 j hj.2, s1 j hj.1]
theorem jg_tup {gs : List Expr} {js : List Nat} {kk : Nat} (h : JGs T gs js ds e0 e1) (hn : ∀ v : Env, (assignEach gs v).length = ds.length := by intro _; rfl) (hst : ∀ v : Env, (assignEach gs v).findIdx? (·.1) = none := by intro _; rfl) : JG T (.Tuple gs kk pos) js (.tuple ds) e0 e1 := fun X hX =>
  (pg_tup hX.calm (h X hX) (hn X.env) (hst X.env)).wk fun v σ H Q ⟨R, C, E, r, k⟩ => by
    cases r with
    | tup q l r => exact ⟨_, _, rfl, E.cH.t q, r.len, R, C, E, r, k⟩
/-- a list taken apart -/
theorem jg_is {g : Expr} {js : List Nat} {d d' : PyData} (h : JG T g js d e0 e1) (q : d = d') : JG T g js d' e0 e1 := q ▸ h

/-! ### what is walked -/
/-- J yields the items, whatever is made meanwhile -/
def ItOk (K : PySem.W.Frag) (R C : Hp) (J : It) (items : List PyData) : Prop := ∀ C' env σ H, Ex C C' → EnvC K R C' env σ H →
  J.stop items.length H ∧ ∀ i d, items[i]? = some d → J.go i H ∧ ∀ x H', J.yld i H x H' → ∃ C2, Ex C' C2 ∧ EnvC K R C2 env σ H' ∧ (∀ D, H' D = none → H D = none) ∧ (∀ D o, H D = some o → H' D = some o) ∧ (∀ D o, H D = some o → C' D = none → C2 D = none) ∧ Rp K C2 x d
def tIJ (K : PySem.W.Frag) (env env' : Env') (items : List PyData) : TI := fun σ H Rr' => ∃ R C, EnvC K R C env σ H ∧ ∀ J C' H', Ex C C' → EnvC K R C' env' σ H' → items.length ≤ LN → ItOk K R C' J items → Rr' J H'
def JI (T : TC) (tg iter : Expr) (env env' : Env') (items : List PyData) : Prop := ∀ X, CT X T → PI X tg iter (tIJ X.K env env' items)
variable {tg : Expr}
theorem ji_list {xs : List PyData} (h : JE T e e0 e1 (.d (.list xs))) : JI T tg e e0 e1 xs := fun X hX => (pi_list (h X hX)).wk fun σ H Rr' ⟨R, C, E, k⟩ => ⟨R, C, E, fun v C1 H1 c1 E1 r1 => by
  cases r1 with
  | lst q l r =>
  refine ⟨_, rfl, ⟨_, SqL.of (E1.cH _ _ q)⟩, k _ C1 H1 c1 E1 (by rw [← r.len]; exact l) fun C2 env σ H2 c2 E2 => ⟨⟨_, SqL.of (E2.cH _ _ (c2 _ _ q)), by rw [r.len]; exact Nat.le_refl _⟩, fun i d hd => ?_⟩⟩
  obtain ⟨w, hw, rw⟩ := r.getD hd
  refine ⟨⟨_, w, SqL.of (E2.cH _ _ (c2 _ _ q)), hw⟩, fun x H3 hy => ?_⟩
  obtain ⟨rfl, hx⟩ := hy
  have := hx _ (SqL.of (E2.cH _ _ (c2 _ _ q)))
  rw [hw] at this; cases this
  exact ⟨C2, Ex.refl C2, E2, fun _ h => h, fun _ _ h => h, fun _ _ _ h => h, rw.mono c2⟩⟩
theorem ji_tup {xs : List PyData} (h : JE T e e0 e1 (.d (.tuple xs))) : JI T tg e e0 e1 xs := fun X hX => (pi_tup (h X hX)).wk fun σ H Rr' ⟨R, C, E, k⟩ => ⟨R, C, E, fun v C1 H1 c1 E1 r1 => by
  cases r1 with
  | tup q l r =>
  refine ⟨_, rfl, ⟨_, E1.cH.t q⟩, k _ C1 H1 c1 E1 (by rw [← r.len]; exact l) fun C2 env σ H2 c2 E2 => ⟨⟨_, E2.cH.t (c2.t q), by rw [r.len]; exact Nat.le_refl _⟩, fun i d hd => ?_⟩⟩
  obtain ⟨w, hw, rw⟩ := r.getD hd
  refine ⟨⟨_, w, E2.cH.t (c2.t q), hw⟩, fun x H3 hy => ?_⟩
  obtain ⟨rfl, hx⟩ := hy
  have := hx _ (E2.cH.t (c2.t q))
  rw [hw] at this; cases this
  exact ⟨C2, Ex.refl C2, E2, fun _ h => h, fun _ _ h => h, fun _ _ _ h => h, rw.mono c2⟩⟩
/-- the ints lo, lo + 1, .. -/
def rgI (lo hi : Int) : List Int := (List.range (hi - lo).toNat).map fun i => lo + (i : Nat)
theorem rgI_len (lo hi : Int) : (rgI lo hi).length = (hi - lo).toNat := by unfold rgI; simp
theorem rgI_get {lo hi : Int} {i : Nat} {d : PyData} (h : ((rgI lo hi).map PyData.int)[i]? = some d) : i < (hi - lo).toNat ∧ d = .int (lo + (i : Nat)) := by
  unfold rgI at h
  rw [List.getElem?_map, List.getElem?_map] at h
  by_cases hi : i < (hi - lo).toNat
  · rw [List.getElem?_range hi] at h
    simp at h
    exact ⟨hi, h.symm⟩
  · rw [List.getElem?_eq_none (by simpa using hi)] at h
    cases h
theorem ji_range1 {n : Int} (hg : glB T.sc "range" = true) (hm : T.mg "range" = none) (h : JE T e e0 e1 (.d (.int n))) (hn : -(2 ^ 62) ≤ n ∧ n ≤ 16777216) (hs : ∀ v : Env, starEach [e] v = [(false, eval e v)] := by intro _; rfl) : JI T tg (.Call (.Name "range" p) [e] [] pos) e0 e1 ((rgI 0 n).map .int) := fun X hX =>
  (pi_range1 (gl_of hX hg) (by rw [hX.mg]; exact hm) (pa_cons (h X hX) pa_nil (hs X.env)) (hs X.env)).wk fun σ H Rr' ⟨R, C, E, k⟩ => ⟨R, C, E, fun v C1 H1 c1 E1 r1 => by
    cases r1
    refine ⟨n, rfl, hn.1, by omega, k _ C1 H1 c1 E1 (by rw [List.length_map, rgI_len]; show _ ≤ 16777216; omega) fun C2 env σ H2 c2 E2 => ⟨by show n.toNat ≤ _; rw [List.length_map, rgI_len]; omega, fun i d hd => ?_⟩⟩
    obtain ⟨h1, rfl⟩ := rgI_get hd
    refine ⟨by show i < n.toNat; omega, fun x H3 ⟨e1, e2⟩ => ?_⟩
    subst e1; subst e2
    exact ⟨C2, Ex.refl C2, E2, fun _ h => h, fun _ _ h => h, fun _ _ _ h => h, .int _⟩⟩
theorem ji_range2 {m n : Int} (hg : glB T.sc "range" = true) (hm : T.mg "range" = none) (h : JA T [a, b] e0 e1 [.int m, .int n]) (hn : -(2 ^ 62) ≤ m ∧ m < 2 ^ 62 ∧ -(2 ^ 62) ≤ n ∧ n < 2 ^ 62 ∧ n - m ≤ 16777216) (hs : ∀ v : Env, starEach [a, b] v = [(false, eval a v), (false, eval b v)] := by intro _; rfl) (hs2 : ∀ v : Env, starEach [b] v = [(false, eval b v)] := by intro _; rfl) : JI T tg (.Call (.Name "range" p) [a, b] [] pos) e0 e1 ((rgI m n).map .int) := fun X hX =>
  (pi_range2 (gl_of hX hg) (by rw [hX.mg]; exact hm) (h X hX) (hs X.env) (hs2 X.env)).wk fun σ H Rr' ⟨R, C, E, k⟩ => ⟨R, C, E, fun vs C1 H1 c1 E1 r1 => by
    cases r1 with
    | cons r1 r2 => cases r1; cases r2 with
      | cons r2 r3 =>
      cases r2; cases r3
      refine ⟨m, n, rfl, ⟨hn.1, hn.2.1, hn.2.2.1, hn.2.2.2.1⟩, k _ C1 H1 c1 E1 (by rw [List.length_map, rgI_len]; show _ ≤ 16777216; omega) fun C2 env σ H2 c2 E2 => ⟨by show (n - m).toNat ≤ _; rw [List.length_map, rgI_len]; omega, fun i d hd => ?_⟩⟩
      obtain ⟨h1, rfl⟩ := rgI_get hd
      refine ⟨by show i < (n - m).toNat; omega, fun x H3 ⟨e1, e2⟩ => ?_⟩
      subst e1; subst e2
      exact ⟨C2, Ex.refl C2, E2, fun _ h => h, fun _ _ h => h, fun _ _ _ h => h, .int _⟩⟩
end
end J
namespace J
open PySem L2 PySem.Spec PyProof.Rows
section
variable {T : TC} {a b e : Expr} {es : List Expr} {env e0 e1 e2 e3 : Env'} {pos p : Pos} {x y z : PyData} {ds : List PyData} {K : PySem.W.Frag} {R C C' H H' : Hp} {σ σ' : L2.St} {v : V}

/-! ### comprehensions -/
theorem EnvC.resig (E : EnvC K R C env σ H) (l : σ'.length = σ.length) (s : ∀ (i : Nat) (x : Sl), env[i]? = some x → x ≠ .u → σ'[i]? = σ[i]?) : EnvC K R C env σ' H := by
  refine ⟨E.len.trans l.symm, E.cH, E.rH, E.rc, fun i x e => ?_, fun i k x e => ?_, fun i j k k' x y p e1 e2 s1 s2 => ?_⟩
  · rw [s i _ e (by simp)]; exact E.dat i x e
  · rw [s i _ e (by simp)]; exact E.own i k x e
  · rw [s i _ e1 (by simp)] at s1
    rw [s j _ e2 (by simp)] at s2
    exact E.apart i j k k' x y p e1 e2 s1 s2
theorem wipe_get : ∀ (σ : L2.St) (vs : List Nat) (i : Nat), (wipe σ vs)[i]? = if i ∈ vs then (σ[i]?).map (fun _ => none) else σ[i]?
  | σ, [], i => by simp [wipe]
  | σ, v :: vs, i => by
    unfold wipe
    by_cases h : v = i
    · subst h
      rw [List.getElem?_set_self', wipe_get σ vs v, if_pos (by simp : v ∈ v :: vs)]
      split
      · cases σ[v]? <;> rfl
      · rfl
    · rw [List.getElem?_set_ne h, wipe_get σ vs i]
      have e : (i ∈ v :: vs) = (i ∈ vs) := by simp [Ne.symm h]
      simp only [e]
theorem wipe_eq {vs : List Nat} (l : σ'.length = σ.length) (s : ∀ j : Nat, j ∉ vs → σ'[j]? = σ[j]?) : wipe σ' vs = wipe σ vs := by
  apply List.ext_getElem?
  intro i
  rw [wipe_get, wipe_get]
  by_cases h : i ∈ vs
  · rw [if_pos h, if_pos h]
    by_cases hi : i < σ.length
    · rw [List.getElem?_eq_getElem hi, List.getElem?_eq_getElem (by omega)]; rfl
    · rw [List.getElem?_eq_none (by omega), List.getElem?_eq_none (by omega)]
  · rw [if_neg h, if_neg h, s i h]
/-- the slots of js are not known -/
def unk (env : Env') (js : List Nat) : Prop := ∀ i ∈ js, ∀ x : Sl, env[i]? = some x → x = .u
theorem unk_of {env : Env'} {js : List Nat} (h : (js.all fun i => match env[i]? with | some .u => true | none => true | _ => false) = true) : unk env js := by
  intro i hi x e
  have := List.all_eq_true.mp h i hi
  rw [e] at this
  cases x <;> simp at this ⊢
theorem EnvC.wipe {vs : List Nat} (E : EnvC K R C env σ H) (u : unk env vs) : EnvC K R C env (wipe σ vs) H := E.resig (wipe_length σ vs) fun i x e hx => by
  rw [wipe_get, if_neg]
  intro h
  exact hx (u i h x e)
theorem EnvC.unwipe {vs : List Nat} (E : EnvC K R C env (L2.wipe σ vs) H) (u : unk env vs) : EnvC K R C env σ H := E.resig (wipe_length σ vs).symm fun i x e hx => by
  rw [wipe_get, if_neg]
  intro h
  exact hx (u i h x e)
/-- a clause's tests -/
def JTs (T : TC) (ifs : List Expr) (env env' : Env') (c : Bool) : Prop := ∀ X, CT X T → PTs X ifs (tTJ X.K env env' c)
theorem _root_.L2.PTs.wk {X : Cx} {e : List Expr} {t t' : TT} (h : PTs X e t) (hh : ∀ σ H Q, t' σ H Q → t σ H Q) : PTs X e t' := ⟨fun pins s σ H Q I q => h.run pins s σ H Q I (hh σ H Q q)⟩
theorem jts_nil : JTs T [] env env true := fun X hX => pts_nil.wk fun σ H Q ⟨R, C, E, k⟩ => k C H (Ex.refl C) E
theorem jts_one {c : Bool} (h : JT T a e0 e1 c) : JTs T [a] e0 e1 c := fun X hX => pts_one (h X hX)
def tIfsJ (T : TC) (K : PySem.W.Frag) (ifs : List Expr) : TT := fun σ H Q => ∃ E1 E2 c, JTs T ifs E1 E2 c ∧ tTJ K E1 E2 c σ H Q
def tEltJ (T : TC) (K : PySem.W.Frag) (elt : Expr) : TE := fun σ H Q => ∃ E1 E2 r, JE T elt E1 E2 r ∧ tJ K E1 E2 r σ H Q
def tTgJ (T : TC) (K : PySem.W.Frag) (tg : Expr) : TG := fun v σ H Q => ∃ js d E1 E2, JG T tg js d E1 E2 ∧ tGJ K js d E1 E2 v σ H Q
/-- a turn of a comprehension: from ev with the item d to ev', the list grown from outs to outs' -/
structure LcTurn (T : TC) (scope : Scope) (tg elt : Expr) (ifs : List Expr) (vs : List Nat) (d : PyData) (ev ev' : Env') (outs outs' : List PyData) : Prop where
  ex : ∃ (js : List Nat) (E1 E2 : Env') (c : Bool), js ⊆ vs ∧ JG (T.blk scope) tg js d ev E1 ∧ JTs (T.blk scope) ifs E1 E2 c ∧
    (c = true → ∃ E3 z, JE (T.blk scope) elt E2 E3 (.d z) ∧ Le ev' E3 ∧ outs' = outs ++ [z]) ∧ (c = false → Le ev' E2 ∧ outs' = outs)
theorem Rps.snoc {vs : List V} (r : Rps K C vs ds) (h : Rp K C v x) : Rps K C (vs ++ [v]) (ds ++ [x]) := r.append (.cons h .nil)
/-- the reading of a comprehension -/
theorem lc_run {X : Cx} (hX : CT X T) {tg elt : Expr} {ifs : List Expr} {scope : Scope} {own : List (Str × Nat)} {xs : List PyData} (ev : Nat → Env') (outs : Nat → List PyData) (h0 : ev 0 = e1) (o0 : outs 0 = [])
    (hu : ∀ i, i ≤ xs.length → unk (ev i) (own.map (·.2))) (turn : ∀ i d, xs[i]? = some d → LcTurn T scope tg elt ifs (own.map (·.2)) d (ev i) (ev (i + 1)) (outs i) (outs (i + 1))) :
    ∀ (σ : L2.St) (H : Hp) (Q : VK), tJ X.K e0 (ev xs.length) (.o (.list (outs xs.length))) σ H Q → tLc (tIJ X.K e0 e1 xs) (tTgJ (T.blk scope) X.K tg) (tIfsJ (T.blk scope) X.K ifs) (tEltJ (T.blk scope) X.K elt) (own.map (·.2)) σ H Q := by
  rintro σ H Q ⟨R, C, E, k⟩
  refine ⟨R, C, E, fun J C1 H1 c1 E1 hln io D hD => ?_⟩
  subst h0
  have olen : ∀ i, i ≤ xs.length → (outs i).length ≤ i := by
    intro i
    induction i with
    | zero => intro _; rw [o0]; exact Nat.le_refl _
    | succ i ih =>
      intro hi
      have hi' : i < xs.length := hi
      obtain ⟨js, F1, F2, c, _, _, _, ht, hf⟩ := (turn i _ (List.getElem?_eq_getElem hi')).ex
      cases c with
      | true =>
        obtain ⟨_, z, _, _, e⟩ := ht rfl
        rw [e, List.length_append]
        have := ih (Nat.le_of_lt hi')
        simp; omega
      | false =>
        rw [(hf rfl).2]
        have := ih (Nat.le_of_lt hi')
        omega
  refine ⟨fun i m H' => i + m = xs.length ∧ ∃ C' acc, Ex C1 C' ∧ EnvC X.K R C' (ev i) σ H' ∧ H' D = some (.lst acc) ∧ C' D = none ∧ R D = none ∧ NotOwn (ev i) σ D ∧ Rps X.K C' acc (outs i), ⟨xs.length, by omega, C1, [], Ex.refl _, E1.newO hD, upd_same, E1.cN hD, E1.rN hD, E1.notOwn hD, by rw [o0]; exact .nil⟩, ?_⟩
  rintro i m H' ⟨him, C', acc, cc, E', hHD, cD, rD, nD, rp⟩
  obtain ⟨st, go⟩ := io C' (ev i) σ H' cc E'
  by_cases hi : i < xs.length
  · right
    obtain ⟨g1, g2⟩ := go i xs[i] (List.getElem?_eq_getElem hi)
    refine ⟨g1, fun H2 => ∃ C2 acc2, Ex C1 C2 ∧ EnvC X.K R C2 (ev (i + 1)) σ H2 ∧ H2 D = some (.lst acc2) ∧ C2 D = none ∧ R D = none ∧ NotOwn (ev (i + 1)) σ D ∧ Rps X.K C2 acc2 (outs (i + 1)), fun H2 ⟨C2, acc2, h⟩ => ⟨m - 1, by omega, by omega, C2, acc2, h⟩, fun w H2 hy => ?_⟩
    obtain ⟨C2, c2, E2, n1, n2, n3, rw⟩ := g2 w H2 hy
    have hH2D := n2 D _ hHD
    have cD2 : C2 D = none := n3 D _ hHD cD
    obtain ⟨js, F1, F2, c, hjs, jg, jt, ht, hf⟩ := (turn i xs[i] (List.getElem?_eq_getElem hi)).ex
    -- with the new list as a part of what stands
    have lift : ∀ {R0 C0 : Hp} {en : Env'} {s0 : L2.St} {H0 : Hp} {o : HO}, EnvC X.K R0 C0 en s0 H0 → H0 D = some o → C0 D = none → NotOwn en s0 D → EnvC X.K (upd R0 D o) C0 en s0 H0 := fun {R0 C0 en s0 H0 o} E0 h1 h2 h3 => by
      refine ⟨E0.len, E0.cH, fun q u e => ?_, fun q e => ?_, E0.dat, fun j w x e => ?_, E0.apart⟩
      · by_cases h : q = D
        · subst h; rw [upd_same] at e; cases e; exact h1
        · rw [upd_ne h] at e; exact E0.rH _ _ e
      · by_cases h : q = D
        · subst h; exact h2
        · rw [upd_ne h] at e; exact E0.rc _ e
      · obtain ⟨q, k1, k0, k2, k3, k4⟩ := E0.own j w x e
        have hq : q ≠ D := fun h => by subst h; exact h3 j w x e k1
        exact ⟨q, k1, k0, k2, by rw [upd_ne hq]; exact k3, k4⟩
    have unlift : ∀ {C0 : Hp} {en : Env'} {s0 : L2.St} {H0 : Hp} {o : HO}, EnvC X.K (upd R D o) C0 en s0 H0 → EnvC X.K R C0 en s0 H0 ∧ H0 D = some o ∧ C0 D = none ∧ NotOwn en s0 D := fun {C0 en s0 H0 o} E0 => by
      refine ⟨⟨E0.len, E0.cH, fun q u e => ?_, fun q e => ?_, E0.dat, fun j w x e => ?_, E0.apart⟩, E0.rH D o upd_same, E0.rc D (by rw [upd_same]; simp), fun j w x e s1 => ?_⟩
      · by_cases h : q = D
        · subst h; rw [rD] at e; cases e
        · exact E0.rH q u (by rw [upd_ne h]; exact e)
      · by_cases h : q = D
        · subst h; exact absurd rD e
        · exact E0.rc q (by rw [upd_ne h]; exact e)
      · obtain ⟨q, k1, k0, k2, k3, k4⟩ := E0.own j w x e
        have hq : q ≠ D := fun h => by subst h; rw [upd_same] at k3; cases k3
        exact ⟨q, k1, k0, k2, by rw [upd_ne hq] at k3; exact k3, k4⟩
      · obtain ⟨q, k1, k0, k2, k3, k4⟩ := E0.own j w x e
        rw [k1] at s1; cases s1
        rw [upd_same] at k3; cases k3
    have E2' := lift (E2.wipe (hu i (Nat.le_of_lt hi))) hH2D cD2 (fun j w x e s1 => nD j w x e (by
      rw [wipe_get] at s1
      split at s1
      · cases q : σ[j]? <;> rw [q] at s1 <;> cases s1
      · exact s1))
    refine ⟨js, xs[i], ev i, F1, jg, _, C2, E2', rw, fun σ3 s3 l3 E3 => ⟨?_, F1, F2, c, jt, _, C2, E3, fun C4 H4 c4 E4 => ?_⟩⟩
    · have := wipe_eq (σ := L2.wipe σ (own.map (·.2))) (σ' := σ3) (vs := own.map (·.2)) l3 fun j hj => s3 j fun h => hj (hjs h)
      rw [this]
      apply List.ext_getElem?
      intro q
      rw [wipe_get, wipe_get]
      split
      · cases σ[q]? <;> rfl
      · rfl
    have fin : ∀ {C5 H5 : Hp} {en : Env'}, Le (ev (i + 1)) en → EnvC X.K (upd R D (.lst acc)) C5 en σ3 H5 → EnvC X.K R C5 (ev (i + 1)) σ H5 ∧ H5 D = some (.lst acc) ∧ C5 D = none ∧ NotOwn (ev (i + 1)) σ D := fun {C5 H5 en} le E5 => by
      have hU := hu (i + 1) hi
      have E5' := (E5.le le).resig (σ' := σ) (by rw [l3, wipe_length]) fun j x e hx => by
        have hj : j ∉ own.map (·.2) := fun h => hx (hU j h x e)
        rw [s3 j (fun h => hj (hjs h)), wipe_get, if_neg hj]
      exact unlift E5'
    cases c with
    | true =>
      dsimp only
      rw [if_pos rfl]
      obtain ⟨F3, z, je, le, eo⟩ := ht rfl
      refine ⟨F2, F3, .d z, je, _, C4, E4, fun y C5 H5 c5 E5 r5 => ?_⟩
      obtain ⟨E6, h6, cD6, no6⟩ := fin le E5
      refine ⟨acc, h6, lnS' (by rw [rp.len]; have := olen i (Nat.le_of_lt hi); have : LN = 16777216 := rfl; have hln' : xs.length ≤ LN := hln; omega), C5, acc ++ [y], (cc.trans c2).trans (c4.trans c5), ?_, upd_same, cD6, rD, no6, by rw [eo]; exact (rp.mono ((c2.trans c4).trans c5)).snoc r5⟩
      -- the list grown: nobody else looks at it
      refine ⟨E6.len, fun q u e => by rw [upd_ne (ne_of_none e cD6)]; exact E6.cH _ _ e, fun q u e => by rw [upd_ne (ne_of_none e rD)]; exact E6.rH _ _ e, E6.rc, E6.dat, fun j w x e => ?_, E6.apart⟩
      obtain ⟨q, k1, k0, k2, k3, k4⟩ := E6.own j w x e
      have hq : q ≠ D := fun h => by subst h; exact no6 j w x e k1
      exact ⟨q, k1, k0, k2, k3, by rw [upd_ne hq]; exact k4⟩
    | false =>
      dsimp only
      rw [if_neg Bool.false_ne_true]
      obtain ⟨le, eo⟩ := hf rfl
      obtain ⟨E6, h6, cD6, no6⟩ := fin le E4
      exact ⟨C4, acc, (cc.trans c2).trans c4, E6, h6, cD6, rD, no6, by rw [eo]; exact rp.mono (c2.trans c4)⟩
  · left
    have ei : i = xs.length := by omega
    subst ei
    exact ⟨st, k (.ref D) C' H' (c1.trans cc) E' ⟨D, rfl, cD, rD, nD, acc, hHD, by rw [rp.len]; exact Nat.le_trans (olen _ (Nat.le_refl _)) hln, rp⟩⟩
theorem je_lcG {tg iter elt : Expr} {ifs : List Expr} {scope : Scope} {xs : List PyData} (own : List (Str × Nat)) (ev : Nat → Env') (outs : Nat → List PyData) (hi : JI T tg iter e0 e1 xs) (hnd : T.N.Nodup) (ok : blkC T.N T.sc scope own = true) (h0 : ev 0 = e1) (o0 : outs 0 = [])
    (hu : ∀ i, i ≤ xs.length → unk (ev i) (own.map (·.2))) (turn : ∀ i d, xs[i]? = some d → LcTurn T scope tg elt ifs (own.map (·.2)) d (ev i) (ev (i + 1)) (outs i) (outs (i + 1))) (hs : ∀ (v : Env) x, foldedSetIterable iter v x = pure x := by intro _ _; rfl) :
    JE T (.ListComp elt [⟨tg, iter, ifs, 0⟩] scope pos) e0 (ev xs.length) (.o (.list (outs xs.length))) := fun X hX =>
  (pe_lc (own := own) (wi := tIJ X.K e0 e1 xs) (g := tTgJ (T.blk scope) X.K tg) (tt := tIfsJ (T.blk scope) X.K ifs) (te := tEltJ (T.blk scope) X.K elt) hX.calm (by rw [hX.N]; exact hnd) (hi X hX) (by rw [hX.N, hX.sc]; exact blkOk_by ok)
    (fun s H C cl fp => ⟨fun pins s1 σ H1 v u Q I r ⟨js, d, F1, F2, jg, q⟩ => (jg _ (hX.blk scope s H C cl fp)).run pins s1 σ H1 v u Q I r q⟩)
    (fun s H C cl fp => ⟨fun pins s1 σ H1 Q I ⟨F1, F2, c, jt, q⟩ => (jt _ (hX.blk scope s H C cl fp)).run pins s1 σ H1 Q I q⟩)
    (fun s H C cl fp => ⟨fun pins s1 σ H1 Q I ⟨F1, F2, r, je, q⟩ => (je _ (hX.blk scope s H C cl fp)).run pins s1 σ H1 Q I q⟩) (hs X.env)).wk (lc_run hX ev outs h0 o0 hu turn)

/-! ### statements -/
inductive Oc where
  | nx (e : Env') | ct (e : Env') | bk (e : Env') | rt (d : Re) (e : Env')
def SatS (K : PySem.W.Frag) (R C : Hp) (D : Ends) : Oc → Prop
  | .nx e => ∀ σ' C' H', Ex C C' → EnvC K R C' e σ' H' → D.nx σ' H'
  | .ct e => ∀ σ' C' H', Ex C C' → EnvC K R C' e σ' H' → D.ct σ' H'
  | .bk e => ∀ σ' C' H', Ex C C' → EnvC K R C' e σ' H' → D.bk σ' H'
  | .rt d e => ∀ v σ' C' H', Ex C C' → EnvC K R C' e σ' H' → Rr K R C' H' e σ' v d → D.rt v H'
theorem SatS.mono {D : Ends} {oc : Oc} (c : Ex C C') (h : SatS K R C D oc) : SatS K R C' D oc := by
  cases oc with
  | nx e => exact fun σ' C2 H' c' E => h σ' C2 H' (c.trans c') E
  | ct e => exact fun σ' C2 H' c' E => h σ' C2 H' (c.trans c') E
  | bk e => exact fun σ' C2 H' c' E => h σ' C2 H' (c.trans c') E
  | rt d e => exact fun v σ' C2 H' c' E => h v σ' C2 H' (c.trans c') E
def tSJ (K : PySem.W.Frag) (env : Env') (oc : Oc) : TS := fun D σ H => ∃ R C, EnvC K R C env σ H ∧ SatS K R C D oc
def JS (T : TC) (st : Stmt) (env : Env') (oc : Oc) : Prop := ∀ X, CT X T → PS X st (tSJ X.K env oc)
def JSs (T : TC) (st : List Stmt) (env : Env') (oc : Oc) : Prop := ∀ X, CT X T → PSs X st (tSJ X.K env oc)
variable {st : Stmt} {rest body : List Stmt} {oc : Oc}
theorem js_le (l : Le e0 env) (h : JSs T rest e0 oc) : JSs T rest env oc := fun X hX => (h X hX).wk fun D σ H ⟨R, C, E, k⟩ => ⟨R, C, E.le l, k⟩
theorem jss_nil : JSs T [] env (.nx env) := fun X hX => pss_nil.wk fun D σ H ⟨R, C, E, k⟩ => k σ C H (Ex.refl C) E
theorem jss_cons (h : JS T st e0 (.nx e1)) (h' : JSs T rest e1 oc) : JSs T (st :: rest) e0 oc := fun X hX => (pss_cons (h X hX) (h' X hX)).wk fun D σ H ⟨R, C, E, k⟩ => ⟨R, C, E, fun σ' C' H' c E' => ⟨R, C', E', k.mono c⟩⟩
theorem jss_rt {d : Re} (h : JS T st e0 (.rt d e1)) : JSs T (st :: rest) e0 (.rt d e1) := fun X hX => (pss_cons (h X hX) pss_never).wk fun D σ H ⟨R, C, E, k⟩ => ⟨R, C, E, k⟩
theorem jss_bk (h : JS T st e0 (.bk e1)) : JSs T (st :: rest) e0 (.bk e1) := fun X hX => (pss_cons (h X hX) pss_never).wk fun D σ H ⟨R, C, E, k⟩ => ⟨R, C, E, k⟩
theorem jss_ct (h : JS T st e0 (.ct e1)) : JSs T (st :: rest) e0 (.ct e1) := fun X hX => (pss_cons (h X hX) pss_never).wk fun D σ H ⟨R, C, E, k⟩ => ⟨R, C, E, k⟩
/-- the end of a block may forget -/
theorem jss_nxle (h : JSs T rest e0 (.nx e1)) (l : Le e2 e1) : JSs T rest e0 (.nx e2) := fun X hX => (h X hX).wk fun D σ H ⟨R, C, E, k⟩ => ⟨R, C, E, fun σ' C' H' c E' => k σ' C' H' c (E'.le l)⟩
theorem js_nxle (h : JS T st e0 (.nx e1)) (l : Le e2 e1) : JS T st e0 (.nx e2) := fun X hX => (h X hX).wk fun D σ H ⟨R, C, E, k⟩ => ⟨R, C, E, fun σ' C' H' c E' => k σ' C' H' c (E'.le l)⟩
theorem jss_rtle {d : PyData} (h : JSs T rest e0 (.rt (.d d) e1)) (l : Le e2 e1) : JSs T rest e0 (.rt (.d d) e2) := fun X hX => (h X hX).wk fun D σ H ⟨R, C, E, k⟩ => ⟨R, C, E, fun v σ' C' H' c E' r => k v σ' C' H' c (E'.le l) r⟩
/-- slot i is known for ever from here on -/
theorem jss_frz {i : Nat} {k0 : Option Addr} (he : env[i]? = some (.o k0 x)) (h : JSs T rest (env.set i (.d x)) oc) : JSs T rest env oc := fun X hX => (h X hX).wk fun D σ H ⟨R, C, E, k⟩ => by
  obtain ⟨C', c, E'⟩ := E.frz he
  exact ⟨R, C', E', k.mono c⟩
/-- what is known of a datum's size -/
theorem jss_len {i : Nat} (he : env[i]? = some (.d x)) (h : lenOk x → JSs T rest env oc) : JSs T rest env oc := fun X hX => by
  by_cases q : lenOk x
  · exact h q X hX
  · exact pss_never.wk fun D σ H ⟨R, C, E, k⟩ => by
      obtain ⟨v, _, r⟩ := E.dat i x he
      exact absurd r.lenOk q
theorem js_ret {d : Re} (h : JE T e e0 e1 d) : JS T (.Return (some e) pos) e0 (.rt d e1) := fun X hX => (ps_ret (h X hX)).wk fun D σ H ⟨R, C, E, k⟩ => ⟨R, C, E, fun v C' H' c E' r => k v σ C' H' c E' r⟩
theorem js_retN : JS T (.Return none pos) env (.rt (.d .none) env) := fun X hX => ps_retN.wk fun D σ H ⟨R, C, E, k⟩ => k _ σ C H (Ex.refl C) E .non
theorem js_pass : JS T (.Pass pos) env (.nx env) := fun X hX => ps_pass.wk fun D σ H ⟨R, C, E, k⟩ => k σ C H (Ex.refl C) E
theorem js_break : JS T (.Break pos) env (.bk env) := fun X hX => ps_break.wk fun D σ H ⟨R, C, E, k⟩ => k σ C H (Ex.refl C) E
theorem js_continue : JS T (.Continue pos) env (.ct env) := fun X hX => ps_continue.wk fun D σ H ⟨R, C, E, k⟩ => k σ C H (Ex.refl C) E
theorem js_expr {r : Re} (h : JE T e e0 e1 r) (hs : ∀ (v : Env) l, swapsWith e none l v = pure false := by intro _ _; rfl) : JS T (.Expr e pos) e0 (.nx e1) := fun X hX => (ps_expr (h X hX) (hs X.env pos.line)).wk fun D σ H ⟨R, C, E, k⟩ => ⟨R, C, E, fun v C' H' c E' _ => k σ C' H' c E'⟩
/-- name = value -/
theorem js_set (i : Nat) {nm : Str} {pos' : Pos} {d : PyData} (hnd : T.N.Nodup) (h : JE T e e0 e1 (.d d)) (hN : T.N[i]? = some nm := by rfl) (hl : locB T.sc nm = true := by rfl) (hf : T.fn nm = true ∨ T.sc.names.lookup nm = some .local := by first | exact .inl rfl | exact .inr rfl) (hs : ∀ (v : Env) l, swapsWith e (some (.Name nm pos')) l v = pure false := by intro _ _; rfl) :
    JS T (.Assign [.Name nm pos'] e pos) e0 (.nx (e1.set i (.d d))) := fun X hX =>
  (ps_set (i := i) (by rw [hX.N]; exact hnd) (by rw [hX.N]; exact hN) (by rw [hX.sc]; exact loc_of hl) (h X hX) (hs X.env pos.line) (by rcases hf with h | h; exact .inl (hX.fn _ h); exact .inr (by rw [hX.sc]; exact h))).wk fun D σ H ⟨R, C, E, k⟩ => ⟨R, C, E, fun v C' H' c E' r => k _ C' H' c (E'.set i r)⟩
theorem js_setO (i : Nat) {nm : Str} {pos' : Pos} {d : PyData} (hnd : T.N.Nodup) (h : JE T e e0 e1 (.o d)) (hN : T.N[i]? = some nm := by rfl) (hl : locB T.sc nm = true := by rfl) (hf : T.fn nm = true ∨ T.sc.names.lookup nm = some .local := by first | exact .inl rfl | exact .inr rfl) (hs : ∀ (v : Env) l, swapsWith e (some (.Name nm pos')) l v = pure false := by intro _ _; rfl) :
    JS T (.Assign [.Name nm pos'] e pos) e0 (.nx (e1.set i (.o none d))) := fun X hX =>
  (ps_set (i := i) (by rw [hX.N]; exact hnd) (by rw [hX.N]; exact hN) (by rw [hX.sc]; exact loc_of hl) (h X hX) (hs X.env pos.line) (by rcases hf with h | h; exact .inl (hX.fn _ h); exact .inr (by rw [hX.sc]; exact h))).wk fun D σ H ⟨R, C, E, k⟩ => ⟨R, C, E, fun v C' H' c E' ⟨p, ev, cp, rp, no, ow⟩ => by
    subst ev
    exact k _ C' H' c (E'.setO i cp rp no ow)⟩
/-- name = [..], the name a local -/
theorem js_setLcG (i : Nat) {nm : Str} {py : Pos} {tg iter elt : Expr} {ifs : List Expr} {scope : Scope} {xs : List PyData} {spos : Pos} (own : List (Str × Nat)) (ev : Nat → Env') (outs : Nat → List PyData) (hi : JI T tg iter e0 e1 xs) (hnd : T.N.Nodup) (ok : blkC T.N T.sc scope own = true) (h0 : ev 0 = e1) (o0 : outs 0 = [])
    (hu : ∀ i, i ≤ xs.length → unk (ev i) (own.map (·.2))) (turn : ∀ i d, xs[i]? = some d → LcTurn T scope tg elt ifs (own.map (·.2)) d (ev i) (ev (i + 1)) (outs i) (outs (i + 1))) (hN : T.N[i]? = some nm := by rfl) (hl : T.sc.names.lookup nm = some .local := by rfl) (hk : T.sc.kind = .function := by rfl) (hpl : (py.line == pos.line) = true := by rfl) (ha : (scope.names.any fun (n, k) => n == nm && (k == .local || k == .cell)) = false := by decide +kernel) (hs : ∀ (v : Env) x, foldedSetIterable iter v x = pure x := by intro _ _; rfl) :
    JS T (.Assign [.Name nm py] (.ListComp elt [⟨tg, iter, ifs, 0⟩] scope pos) spos) e0 (.nx ((ev xs.length).set i (.o none (.list (outs xs.length))))) := fun X hX =>
  (ps_setLc (i := i) (own := own) (wi := tIJ X.K e0 e1 xs) (g := tTgJ (T.blk scope) X.K tg) (tt := tIfsJ (T.blk scope) X.K ifs) (te := tEltJ (T.blk scope) X.K elt) hX.calm (by rw [hX.N]; exact hnd) (by rw [hX.N]; exact hN) (by rw [hX.sc]; exact hl)
    (sw_true (by rw [hX.sc]; exact hk) (by rw [hX.sc]; exact hl) hpl ha) (hi X hX) (by rw [hX.N, hX.sc]; exact blkOk_by ok)
    (fun s H C cl fp => ⟨fun pins s1 σ H1 v u Q I r ⟨js, d, F1, F2, jg, q⟩ => (jg _ (hX.blk scope s H C cl fp)).run pins s1 σ H1 v u Q I r q⟩)
    (fun s H C cl fp => ⟨fun pins s1 σ H1 Q I ⟨F1, F2, c, jt, q⟩ => (jt _ (hX.blk scope s H C cl fp)).run pins s1 σ H1 Q I q⟩)
    (fun s H C cl fp => ⟨fun pins s1 σ H1 Q I ⟨F1, F2, r, je, q⟩ => (je _ (hX.blk scope s H C cl fp)).run pins s1 σ H1 Q I q⟩) (hs X.env)).wk fun D σ H ⟨R, C, E, k⟩ =>
      lc_run hX ev outs h0 o0 hu turn σ H _ ⟨R, C, E, fun v C' H' c E' ⟨p, evv, cp, rp, no, ow⟩ => by
        subst evv
        exact k _ C' H' c (E'.setO i cp rp no ow)⟩
end
end J
namespace J
open PySem L2 PySem.Spec PyProof.Rows
section
variable {T : TC} {a b e : Expr} {es : List Expr} {env e0 e1 e2 e3 : Env'} {pos p : Pos} {x y z : PyData} {ds : List PyData} {K : PySem.W.Frag} {R C C' H H' : Hp} {σ σ' : L2.St} {v : V} {st : Stmt} {rest body A B : List Stmt} {oc : Oc}

/-! ### if -/
theorem js_if {c : Bool} (ht : JT T e e0 e1 c) (ha : c = true → JSs T A e1 oc) (hb : c = false → JSs T B e1 oc) : JS T (.If e A B pos) e0 oc := fun X hX => by
  cases c with
  | true => exact (ps_if (ht X hX) (ha rfl X hX) pss_never).wk fun D σ H ⟨R, C, E, k⟩ => ⟨R, C, E, fun C' H' c E' => ⟨R, C', E', k.mono c⟩⟩
  | false => exact (ps_if (ht X hX) pss_never (hb rfl X hX)).wk fun D σ H ⟨R, C, E, k⟩ => ⟨R, C, E, fun C' H' c E' => ⟨R, C', E', k.mono c⟩⟩
/-- both ways meet -/
theorem js_ifn {L : Type} (E : L → Env') {c : Bool} {l l' : L} (ht : JT T e e0 e1 c) (ha : c = true → ∃ eA, JSs T A e1 (.nx eA) ∧ Le (E l) eA) (hb : c = false → ∃ eB, JSs T B e1 (.nx eB) ∧ Le (E l') eB) : JS T (.If e A B pos) e0 (.nx (E (if c = true then l else l'))) := by
  refine js_if ht (fun h => ?_) (fun h => ?_)
  · obtain ⟨eA, h1, h2⟩ := ha h
    rw [if_pos h]; exact jss_nxle h1 h2
  · obtain ⟨eA, h1, h2⟩ := hb h
    rw [if_neg (by rw [h]; exact Bool.false_ne_true)]; exact jss_nxle h1 h2
/-- a block that returns: its result r, told by cr and er -/
def JB (T : TC) {ρ : Type} (cr : ρ → PyData) (er : ρ → Env') (sts : List Stmt) (env : Env') (r : ρ) : Prop := JSs T sts env (.rt (.d (cr r)) (er r))
section
variable {ρ : Type} {cr : ρ → PyData} {er : ρ → Env'}
theorem jb_ret {r : ρ} (h : JE T e e0 e1 (.d (cr r))) (l : Le (er r) e1) : JB T cr er (.Return (some e) pos :: rest) e0 r := jss_rt (fun X hX => (js_ret h X hX).wk fun D σ H ⟨R, C, E, k⟩ => ⟨R, C, E, fun v σ' C' H' c E' r' => k v σ' C' H' c (E'.le l) r'⟩)
theorem jb_cons {r : ρ} (h : JS T st e0 (.nx e1)) (h' : JB T cr er rest e1 r) : JB T cr er (st :: rest) e0 r := jss_cons h h'
theorem jb_le {r : ρ} (l : Le e0 env) (h : JB T cr er rest e0 r) : JB T cr er rest env r := js_le l h
theorem jb_is {r r' : ρ} (h : JB T cr er rest e0 r) (q : r = r') : JB T cr er rest e0 r' := q ▸ h
/-- if t: .. return, then the rest -/
theorem jb_ifr {c : Bool} {r r' : ρ} (ht : JT T e e0 e1 c) (ha : c = true → JB T cr er A e1 r) (hb : c = false → JB T cr er rest e1 r') : JB T cr er (.If e A [] pos :: rest) e0 (if c = true then r else r') := by
  cases c with
  | true =>
    rw [if_pos rfl]
    exact jss_rt (js_if ht (fun _ => ha rfl) (fun h => by cases h))
  | false =>
    rw [if_neg Bool.false_ne_true]
    exact jss_cons (js_if ht (fun h => by cases h) (fun _ => jss_nil)) (hb rfl)
/-- both ways return -/
theorem jb_if2 {c : Bool} {r r' : ρ} (ht : JT T e e0 e1 c) (ha : c = true → JB T cr er A e1 r) (hb : c = false → JB T cr er B e1 r') : JB T cr er (.If e A B pos :: rest) e0 (if c = true then r else r') := by
  refine jss_rt (js_if ht (fun h => ?_) (fun h => ?_))
  · rw [if_pos h]; exact ha h
  · rw [if_neg (by rw [h]; exact Bool.false_ne_true)]; exact hb h
end

/-! ### loops -/
def LoopGo (oc : Oc) (e : Env') : Prop := ∃ e', Le e e' ∧ (oc = .nx e' ∨ oc = .ct e')
theorem LoopGo.nx {e e' : Env'} (l : Le e e') : LoopGo (.nx e') e := ⟨e', l, .inl rfl⟩
theorem LoopGo.ct {e e' : Env'} (l : Le e e') : LoopGo (.ct e') e := ⟨e', l, .inr rfl⟩
def tBodyJ (T : TC) (K : PySem.W.Frag) (body : List Stmt) : TS := fun D σ H => ∃ E1 oc, JSs T body E1 oc ∧ tSJ K E1 oc D σ H
theorem body_ps {X : Cx} (hX : CT X T) : PSs X body (tBodyJ T X.K body) := ⟨fun pins s σ H D I ⟨E1, oc, h, q⟩ => (h X hX).run pins s σ H D I q⟩
/-- the loop: n whole turns, then the end, a break or a return -/
theorem js_forG {tg iter : Expr} {xs : List PyData} (ev : Nat → Env') (n : Nat) (hi : JI T tg iter e0 e1 xs) (h0 : Le (ev 0) e1) (hn : n ≤ xs.length)
    (turn : ∀ i d, i < n → xs[i]? = some d → ∃ js E1 oc, JG T tg js d (ev i) E1 ∧ JSs T body E1 oc ∧ LoopGo oc (ev (i + 1)))
    (fin : (n = xs.length ∧ oc = .nx (ev n)) ∨ ∃ d js E1 oc', xs[n]? = some d ∧ JG T tg js d (ev n) E1 ∧ JSs T body E1 oc' ∧ ((∃ r e, oc' = .rt r e ∧ oc = .rt r e) ∨ ∃ e, oc' = .bk e ∧ oc = .nx e))
    (hs : ∀ (v : Env) x, foldedSetIterable iter v x = pure x := by intro _ _; rfl) : JS T (.For tg iter body [] pos) e0 oc := fun X hX =>
  (ps_for (g := tTgJ T X.K tg) (tb := tBodyJ T X.K body) hX.pass hX.calm (hi X hX) ⟨fun pins s1 σ H1 v u Q I r ⟨js, d, F1, F2, jg, q⟩ => (jg _ hX).run pins s1 σ H1 v u Q I r q⟩ (body_ps hX) (hs X.env)).wk fun D σ H ⟨R, C, E, k⟩ => ⟨R, C, E, fun J C1 H1 c1 E1 hln io => by
    refine ⟨fun i m σ' H' => i + m = xs.length ∧ i ≤ n ∧ ∃ C', Ex C1 C' ∧ EnvC X.K R C' (ev i) σ' H', ⟨xs.length, by omega, Nat.zero_le _, C1, Ex.refl _, E1.le h0⟩, ?_⟩
    rintro i m σ' H' ⟨him, hin, C', cc, E'⟩
    obtain ⟨st, go⟩ := io C' (ev i) σ' H' cc E'
    by_cases hi : i < n
    · right
      have hx : i < xs.length := by omega
      obtain ⟨g1, g2⟩ := go i xs[i] (List.getElem?_eq_getElem hx)
      refine ⟨g1, fun σ2 H2 => ∃ C2, Ex C1 C2 ∧ EnvC X.K R C2 (ev (i + 1)) σ2 H2, fun σ2 H2 ⟨C2, c2, E2⟩ => ⟨m - 1, by omega, by omega, by omega, C2, c2, E2⟩, fun w H2 hy => ?_⟩
      obtain ⟨C2, c2, E2, n1, n2, n3, rw⟩ := g2 w H2 hy
      obtain ⟨js, F1, oc1, jg, jb, lg⟩ := turn i xs[i] hi (List.getElem?_eq_getElem hx)
      refine ⟨js, xs[i], ev i, F1, jg, R, C2, E2, rw, fun σ3 s3 l3 E3 => ⟨F1, oc1, jb, R, C2, E3, ?_⟩⟩
      obtain ⟨e', le, h | h⟩ := lg
      · subst h
        exact fun σ4 C4 H4 c4 E4 => ⟨C4, (cc.trans c2).trans c4, E4.le le⟩
      · subst h
        exact fun σ4 C4 H4 c4 E4 => ⟨C4, (cc.trans c2).trans c4, E4.le le⟩
    · have ei : i = n := by omega
      subst ei
      rcases fin with ⟨hl, ho⟩ | ⟨d, js, F1, oc', hd, jg, jb, h⟩
      · left
        subst ho
        exact ⟨by rw [hl]; exact st, k σ' C' H' (c1.trans cc) E'⟩
      · right
        obtain ⟨g1, g2⟩ := go i d hd
        refine ⟨g1, fun _ _ => False, fun _ _ h => h.elim, fun w H2 hy => ?_⟩
        obtain ⟨C2, c2, E2, n1, n2, n3, rw⟩ := g2 w H2 hy
        refine ⟨js, d, ev i, F1, jg, R, C2, E2, rw, fun σ3 s3 l3 E3 => ⟨F1, oc', jb, R, C2, E3, ?_⟩⟩
        have cc3 : Ex C C2 := (c1.trans cc).trans c2
        rcases h with ⟨r, e, h1, h2⟩ | ⟨e, h1, h2⟩
        · subst h1; subst h2
          exact fun v σ4 C4 H4 c4 E4 r4 => k v σ4 C4 H4 (cc3.trans c4) E4 r4
        · subst h1; subst h2
          exact fun σ4 C4 H4 c4 E4 => k σ4 C4 H4 (cc3.trans c4) E4⟩
theorem take_get {α : Type} {xs : List α} {i : Nat} {x : α} (h : xs[i]? = some x) : xs.take (i + 1) = xs.take i ++ [x] := by
  rw [List.take_add_one, h]; rfl
/-- a loop that goes through -/
theorem js_for {α L : Type} {enc : α → PyData} {tg iter : Expr} {xs : List α} (E : L → Env') (step : L → α → L) (l0 : L) (hi : JI T tg iter e0 e1 (xs.map enc)) (h0 : Le (E l0) e1)
    (turn : ∀ i x l, xs[i]? = some x → l = (xs.take i).foldl step l0 → ∃ js E1 oc, JG T tg js (enc x) (E l) E1 ∧ JSs T body E1 oc ∧ LoopGo oc (E (step l x)))
    (hs : ∀ (v : Env) x, foldedSetIterable iter v x = pure x := by intro _ _; rfl) : JS T (.For tg iter body [] pos) e0 (.nx (E (xs.foldl step l0))) := by
  refine js_forG (fun i => E ((xs.take i).foldl step l0)) (xs.map enc).length hi (by simpa using h0) (Nat.le_refl _) (fun i d hn hd => ?_) (.inl ⟨rfl, ?_⟩) hs
  · rw [List.getElem?_map] at hd
    cases q : xs[i]? with
    | none => rw [q] at hd; cases hd
    | some x =>
      rw [q] at hd
      cases hd
      obtain ⟨js, E1, oc, h1, h2, h3⟩ := turn i x _ q rfl
      refine ⟨js, E1, oc, h1, h2, ?_⟩
      rw [take_get q, List.foldl_append]
      exact h3
  · rw [List.length_map, List.take_length]
/-- a loop that may return -/
def forR {α L ρ : Type} (step : L → α → L ⊕ ρ) : L → List α → L ⊕ ρ
  | l, [] => .inl l
  | l, x :: xs => match step l x with
    | .inl l' => forR step l' xs
    | .inr r => .inr r
theorem forR_snoc {α L ρ : Type} (step : L → α → L ⊕ ρ) : ∀ (xs : List α) (l : L) (x : α), forR step l (xs ++ [x]) = match forR step l xs with
    | .inl l' => step l' x
    | .inr r => .inr r
  | [], l, x => by
    simp only [List.nil_append, forR]
    cases step l x <;> rfl
  | y :: xs, l, x => by
    simp only [List.cons_append, forR]
    cases step l y with
    | inl l' => exact forR_snoc step xs l' x
    | inr r => rfl
theorem forR_ret {α L ρ : Type} (step : L → α → L ⊕ ρ) : ∀ (xs : List α) (l : L) (r : ρ), forR step l xs = .inr r → ∃ n x l', xs[n]? = some x ∧ forR step l (xs.take n) = .inl l' ∧ step l' x = .inr r
  | [], l, r, h => by simp [forR] at h
  | y :: xs, l, r, h => by
    simp only [forR] at h
    cases q : step l y with
    | inl l' =>
      rw [q] at h
      obtain ⟨n, x, l2, h1, h2, h3⟩ := forR_ret step xs l' r h
      refine ⟨n + 1, x, l2, by simpa using h1, ?_, h3⟩
      simp only [List.take_succ_cons, forR, q]
      exact h2
    | inr r' =>
      rw [q] at h
      cases h
      exact ⟨0, y, l, rfl, rfl, q⟩
theorem forR_take {α L ρ : Type} (step : L → α → L ⊕ ρ) : ∀ (xs : List α) (l l' : L) (n : Nat), forR step l xs = .inl l' → ∃ l2, forR step l (xs.take n) = .inl l2
  | [], l, l', n, h => ⟨l, by rw [List.take_nil]; rfl⟩
  | y :: xs, l, l', 0, h => ⟨l, rfl⟩
  | y :: xs, l, l', n + 1, h => by
    simp only [forR, List.take_succ_cons] at h ⊢
    cases q : step l y with
    | inl l2 => rw [q] at h; exact forR_take step xs l2 l' n h
    | inr r => rw [q] at h; cases h
def ocR {L ρ : Type} (E : L → Env') (cr : ρ → PyData) (er : ρ → Env') : L ⊕ ρ → Oc
  | .inl l => .nx (E l)
  | .inr r => .rt (.d (cr r)) (er r)
theorem js_forR {α L ρ : Type} {enc : α → PyData} {tg iter : Expr} {xs : List α} (cr : ρ → PyData) (er : ρ → Env') (E : L → Env') (step : L → α → L ⊕ ρ) (l0 : L) (hi : JI T tg iter e0 e1 (xs.map enc)) (h0 : Le (E l0) e1)
    (turn : ∀ i x l, xs[i]? = some x → forR step l0 (xs.take i) = .inl l → ∃ js E1 oc, JG T tg js (enc x) (E l) E1 ∧ JSs T body E1 oc ∧ ((∃ l', step l x = .inl l' ∧ LoopGo oc (E l')) ∨ ∃ r, step l x = .inr r ∧ oc = .rt (.d (cr r)) (er r)))
    (hs : ∀ (v : Env) x, foldedSetIterable iter v x = pure x := by intro _ _; rfl) : JS T (.For tg iter body [] pos) e0 (ocR E cr er (forR step l0 xs)) := by
  have main : ∀ n, n ≤ xs.length → (∃ l, forR step l0 (xs.take n) = .inl l) → ∀ i d, i < n → (xs.map enc)[i]? = some d → ∃ js E1 oc, JG T tg js d ((fun i => match forR step l0 (xs.take i) with | .inl l => E l | .inr _ => []) i) E1 ∧ JSs T body E1 oc ∧ LoopGo oc ((fun i => match forR step l0 (xs.take i) with | .inl l => E l | .inr _ => []) (i + 1)) := fun n hn ⟨ln, hl⟩ i d hi hd => by
    rw [List.getElem?_map] at hd
    cases q : xs[i]? with
    | none => rw [q] at hd; cases hd
    | some x =>
      rw [q] at hd
      cases hd
      obtain ⟨l2, h2⟩ := forR_take step (xs.take n) l0 ln i hl
      rw [List.take_take, Nat.min_eq_left (Nat.le_of_lt hi)] at h2
      obtain ⟨l3, h3⟩ := forR_take step (xs.take n) l0 ln (i + 1) hl
      rw [List.take_take, Nat.min_eq_left hi] at h3
      have e3 := h3
      rw [take_get q, forR_snoc, h2] at e3
      obtain ⟨js, E1, oc, k1, k2, k3⟩ := turn i x l2 q h2
      refine ⟨js, E1, oc, by simp only [h2]; exact k1, k2, ?_⟩
      simp only [h3]
      rcases k3 with ⟨l', k4, k5⟩ | ⟨r, k4, _⟩
      · simp only at e3
        rw [k4] at e3; cases e3; exact k5
      · simp only at e3
        rw [k4] at e3; cases e3
  cases q : forR step l0 xs with
  | inl l =>
    refine js_forG (fun i => match forR step l0 (xs.take i) with | .inl l => E l | .inr _ => []) xs.length hi (by simpa [forR] using h0) (by simp) (main xs.length (Nat.le_refl _) ⟨l, by rw [List.take_length]; exact q⟩) (.inl ⟨by simp, ?_⟩) hs
    simp only [List.take_length, q]
    rfl
  | inr r =>
    obtain ⟨n, x, l', h1, h2, h3⟩ := forR_ret step xs l0 r q
    have hn : n < xs.length := (List.getElem?_eq_some_iff.mp h1).1
    refine js_forG (fun i => match forR step l0 (xs.take i) with | .inl l => E l | .inr _ => []) n hi (by simpa [forR] using h0) (by simp; omega) (main n (Nat.le_of_lt hn) ⟨l', h2⟩) (.inr ?_) hs
    obtain ⟨js, E1, oc, k1, k2, k3⟩ := turn n x l' h1 h2
    refine ⟨enc x, js, E1, oc, by rw [List.getElem?_map, h1]; rfl, by simp only [h2]; exact k1, k2, .inl ?_⟩
    rcases k3 with ⟨l2, k4, _⟩ | ⟨r', k4, k5⟩
    · rw [h3] at k4; cases k4
    · rw [h3] at k4; cases k4
      exact ⟨.d (cr r), er r, k5, rfl⟩
section
variable {ρ L : Type} {cr : ρ → PyData} {er : ρ → Env'}
/-- behind a statement that may return -/
def orR {L ρ : Type} (o : L ⊕ ρ) (k : L → ρ) : ρ := match o with
  | .inl l => k l
  | .inr r => r
theorem jb_or {E : L → Env'} {o : L ⊕ ρ} {k : L → ρ} (h : JS T st e0 (ocR E cr er o)) (h' : ∀ l, o = .inl l → JB T cr er rest (E l) (k l)) : JB T cr er (st :: rest) e0 (orR o k) := by
  cases o with
  | inl l => exact jss_cons h (h' l rfl)
  | inr r => exact jss_rt h
/-- blocks that may return: the body of a loop -/
def JM (T : TC) (E : L → Env') (cr : ρ → PyData) (er : ρ → Env') (sts : List Stmt) (env : Env') (o : L ⊕ ρ) : Prop := ∃ oc, JSs T sts env oc ∧ ((∃ l', o = .inl l' ∧ ∃ e', oc = .nx e' ∧ Le (E l') e') ∨ ∃ r, o = .inr r ∧ oc = .rt (.d (cr r)) (er r))
variable {E : L → Env'}
theorem jm_nil {l : L} (h : Le (E l) env) : JM T E cr er [] env (.inl l) := ⟨_, jss_nil, .inl ⟨l, rfl, _, rfl, h⟩⟩
theorem jm_cons {o : L ⊕ ρ} (h : JS T st e0 (.nx e1)) (h' : JM T E cr er rest e1 o) : JM T E cr er (st :: rest) e0 o := by
  obtain ⟨oc, h1, h2⟩ := h'
  exact ⟨oc, jss_cons h h1, h2⟩
theorem jm_b {r : ρ} (h : JB T cr er rest e0 r) : JM T E cr er rest e0 (.inr r) := ⟨_, h, .inr ⟨r, rfl, rfl⟩⟩
theorem jm_le {o : L ⊕ ρ} (l : Le e0 env) (h : JM T E cr er rest e0 o) : JM T E cr er rest env o := by
  obtain ⟨oc, h1, h2⟩ := h
  exact ⟨oc, js_le l h1, h2⟩
theorem jm_is {o o' : L ⊕ ρ} (h : JM T E cr er rest e0 o) (q : o = o') : JM T E cr er rest e0 o' := q ▸ h
theorem jm_ifr {c : Bool} {r : ρ} {o : L ⊕ ρ} (ht : JT T e e0 e1 c) (ha : c = true → JB T cr er A e1 r) (hb : c = false → JM T E cr er rest e1 o) : JM T E cr er (.If e A [] pos :: rest) e0 (if c = true then .inr r else o) := by
  cases c with
  | true =>
    rw [if_pos rfl]
    exact jm_b (jss_rt (js_if ht (fun _ => ha rfl) (fun h => by cases h)))
  | false =>
    rw [if_neg Bool.false_ne_true]
    exact jm_cons (js_if ht (fun h => by cases h) (fun _ => jss_nil)) (hb rfl)
/-- the last statement of a loop's body -/
theorem jm_if2 {c : Bool} {o o' : L ⊕ ρ} (ht : JT T e e0 e1 c) (ha : c = true → JM T E cr er A e1 o) (hb : c = false → JM T E cr er B e1 o') : JM T E cr er [.If e A B pos] e0 (if c = true then o else o') := by
  cases c with
  | true =>
    rw [if_pos rfl]
    obtain ⟨oc, h1, h2⟩ := ha rfl
    refine ⟨oc, ?_, h2⟩
    rcases h2 with ⟨l', _, e', h, _⟩ | ⟨r, _, h⟩
    · subst h; exact jss_cons (js_if ht (fun _ => h1) (fun h => by cases h)) jss_nil
    · subst h; exact jss_rt (js_if ht (fun _ => h1) (fun h => by cases h))
  | false =>
    rw [if_neg Bool.false_ne_true]
    obtain ⟨oc, h1, h2⟩ := hb rfl
    refine ⟨oc, ?_, h2⟩
    rcases h2 with ⟨l', _, e', h, _⟩ | ⟨r, _, h⟩
    · subst h; exact jss_cons (js_if ht (fun h => by cases h) (fun _ => h1)) jss_nil
    · subst h; exact jss_rt (js_if ht (fun h => by cases h) (fun _ => h1))
/-- an if that may return -/
theorem js_ifM {c : Bool} {o o' : L ⊕ ρ} (ht : JT T e e0 e1 c) (ha : c = true → JM T E cr er A e1 o) (hb : c = false → JM T E cr er B e1 o') : JS T (.If e A B pos) e0 (ocR E cr er (if c = true then o else o')) := by
  cases c with
  | true =>
    rw [if_pos rfl]
    obtain ⟨oc, h1, h2⟩ := ha rfl
    rcases h2 with ⟨l', h3, e', h, le⟩ | ⟨r, h3, h⟩
    · subst h; subst h3; exact js_nxle (js_if ht (fun _ => h1) (fun h => by cases h)) le
    · subst h; subst h3; exact js_if ht (fun _ => h1) (fun h => by cases h)
  | false =>
    rw [if_neg Bool.false_ne_true]
    obtain ⟨oc, h1, h2⟩ := hb rfl
    rcases h2 with ⟨l', h3, e', h, le⟩ | ⟨r, h3, h⟩
    · subst h; subst h3; exact js_nxle (js_if ht (fun h => by cases h) (fun _ => h1)) le
    · subst h; subst h3; exact js_if ht (fun h => by cases h) (fun _ => h1)
/-- a statement that may return, within such a block -/
theorem jm_or {L' : Type} {E' : L' → Env'} {o : L' ⊕ ρ} {k : L' → L ⊕ ρ} (h : JS T st e0 (ocR E' cr er o)) (h' : ∀ l, o = .inl l → JM T E cr er rest (E' l) (k l)) : JM T E cr er (st :: rest) e0 (match o with | .inl l => k l | .inr r => .inr r) := by
  cases o with
  | inl l => exact jm_cons h (h' l rfl)
  | inr r => exact jm_b (jss_rt h)
end

/-! ### while -/
def whileR {L ρ : Type} (c : L → Bool) (step : L → L ⊕ ρ) : Nat → L → L ⊕ ρ
  | 0, l => .inl l
  | n + 1, l => if c l = true then (match step l with
    | .inl l' => whileR c step n l'
    | .inr r => .inr r) else .inl l
/-- it ends within n turns -/
def whileEnds {L ρ : Type} (c : L → Bool) (step : L → L ⊕ ρ) : Nat → L → Prop
  | 0, l => c l = false
  | n + 1, l => c l = true → ∀ l', step l = .inl l' → whileEnds c step n l'
/-- what a loop comes to -/
inductive Reach {L ρ : Type} (c : L → Bool) (step : L → L ⊕ ρ) (l0 : L) : L → Prop
  | z : Reach c step l0 l0
  | s {l l' : L} : Reach c step l0 l → c l = true → step l = .inl l' → Reach c step l0 l'
theorem js_whileR {L ρ : Type} {test : Expr} (cr : ρ → PyData) (er : ρ → Env') (E : L → Env') (c : L → Bool) (step : L → L ⊕ ρ) (n : Nat) (l0 : L) (h0 : Le (E l0) env) (ends : whileEnds c step n l0)
    (ht : ∀ l, Reach c step l0 l → JT T test (E l) (E l) (c l))
    (turn : ∀ l, Reach c step l0 l → c l = true → JM T E cr er body (E l) (step l)) : JS T (.While test body [] pos) env (ocR E cr er (whileR c step n l0)) := fun X hX =>
  (ps_while (tc := fun σ H Q => ∃ l, (JT T test (E l) (E l) (c l)) ∧ tTJ X.K (E l) (E l) (c l) σ H Q) (tb := tBodyJ T X.K body) hX.pass ⟨fun pins s σ H Q I ⟨l, h, q⟩ => (h X hX).run pins s σ H Q I q⟩ (body_ps hX)).wk fun D σ H ⟨R, C, E', k⟩ => by
    refine ⟨fun m σ' H' => ∃ l C', Ex C C' ∧ EnvC X.K R C' (E l) σ' H' ∧ Reach c step l0 l ∧ whileEnds c step m l ∧ whileR c step m l = whileR c step n l0, ⟨n, l0, C, Ex.refl C, E'.le h0, .z, ends, rfl⟩, ?_⟩
    rintro m σ' H' ⟨l, C', cc, E1, hr, he, ew⟩
    refine ⟨l, ht l hr, R, C', E1, fun C2 H2 c2 E2 => ?_⟩
    cases q : c l with
    | false =>
      rw [if_neg Bool.false_ne_true]
      have : whileR c step m l = .inl l := by
        cases m with
        | zero => rfl
        | succ m => simp only [whileR, q]; rfl
      rw [← ew, this] at k
      exact k σ' C2 H2 (cc.trans c2) E2
    | true =>
      rw [if_pos rfl]
      cases m with
      | zero => have he' : c l = false := he; rw [he'] at q; cases q
      | succ m =>
        obtain ⟨oc, jb, h⟩ := turn l hr q
        simp only [whileR, q, if_true] at ew
        refine ⟨fun σ3 H3 => ∃ l2 C3, Ex C C3 ∧ EnvC X.K R C3 (E l2) σ3 H3 ∧ Reach c step l0 l2 ∧ whileEnds c step m l2 ∧ whileR c step m l2 = whileR c step n l0, fun σ3 H3 h3 => ⟨m, Nat.lt_succ_self m, h3⟩, E l, oc, jb, R, C2, E2, ?_⟩
        rcases h with ⟨l', hs, e', h, le⟩ | ⟨r, hs, h⟩
        · subst h
          rw [hs] at ew
          exact fun σ4 C4 H4 c4 E4 => ⟨l', C4, (cc.trans c2).trans c4, E4.le le, hr.s q hs, he q l' hs, ew⟩
        · subst h
          rw [hs] at ew
          rw [← ew] at k
          exact fun v σ4 C4 H4 c4 E4 r4 => k v σ4 C4 H4 ((cc.trans c2).trans c4) E4 r4
/-- a while that only goes on -/
def whileL {L : Type} (c : L → Bool) (step : L → L) : Nat → L → L
  | 0, l => l
  | n + 1, l => if c l = true then whileL c step n (step l) else l
theorem whileR_L {L ρ : Type} (c : L → Bool) (step : L → L) : ∀ (n : Nat) (l : L), whileR (ρ := ρ) c (fun l => .inl (step l)) n l = .inl (whileL c step n l)
  | 0, l => rfl
  | n + 1, l => by
    simp only [whileR, whileL]
    split
    · exact whileR_L c step n (step l)
    · rfl
theorem js_while {L : Type} {test : Expr} (E : L → Env') (c : L → Bool) (step : L → L) (n : Nat) (l0 : L) (h0 : Le (E l0) env) (ends : whileEnds (ρ := PyData) c (fun l => .inl (step l)) n l0)
    (ht : ∀ l, Reach (ρ := PyData) c (fun l => .inl (step l)) l0 l → JT T test (E l) (E l) (c l))
    (turn : ∀ l, Reach (ρ := PyData) c (fun l => .inl (step l)) l0 l → c l = true → JM T E (fun d : PyData => d) (fun _ => []) body (E l) (.inl (step l))) : JS T (.While test body [] pos) env (.nx (E (whileL c step n l0))) := by
  have := js_whileR (ρ := PyData) (pos := pos) (fun d => d) (fun _ => []) E c (fun l => .inl (step l)) n l0 h0 ends ht turn
  rw [whileR_L] at this
  exact this
end
end J
namespace J
open PySem L2 PySem.Spec PyProof.Rows
section
variable {T : TC} {a b e : Expr} {es : List Expr} {env e0 e1 e2 e3 : Env'} {pos p : Pos} {x y z : PyData} {ds : List PyData} {K : PySem.W.Frag} {R C C' H H' : Hp} {σ σ' : L2.St} {v : V} {st : Stmt} {rest body : List Stmt} {oc : Oc}

/-! ### lists that change -/
/-- the facts of a method call's arguments -/
structure PlainM (o : Expr) (nm : Str) (apos : Pos) (e : Expr) (es : List Expr) (cpos : Pos) : Prop where
  base : ∀ v : Env, attributeBase o nm v (eval o v) = eval o v
  few : ∀ v : Env, ((backTo cpos (starEach (e :: es) v)).all (fun x => !x.1) && (backToKw cpos (keywordEach [] v)).all (fun x => x.1.isSome)
      && decide ((e :: es).length + ([] : List Keyword).length + (if ([] : List Keyword).isEmpty then 0 else 1) < 30)) = true
  line : (apos.endLine == cpos.line) = true
  hs : ∀ v : Env, starEach (e :: es) v = (false, eval e v) :: starEach es v
  plain : ∀ v : Env, (backTo cpos (starEach es v)).any (·.1) = false
/-- a method of a built-in type that changes the object that slot i owns -/
theorem je_mo {Ty id : String} {nm mt : Str} {r : V → List V → Hp → VK → Prop} {apos np : Pos} (i : Nat) {d d' : PyData} {w : PyData} {k0 : Option Addr} (pa : PlainAttrs Ty) (slot : Slot Ty mt id) (hty : typeOf (.builtin id) = pure (.type "method_descriptor")) (hm : ∀ X, CT X T → MtR X id r)
    (hN : T.N[i]? = some nm) (hv : visB T.sc nm = true) (h0 : ∃ d0, e0[i]? = some (.o k0 d0)) (ha : JA T (e :: es) e0 e1 ds) (he : e1[i]? = some (.o k0 d)) (ty : ∀ C H p, Ow T.K C (H p) d → tyV T.K Ty (.ref p) H)
    (ho : ∀ R C H σ p vs (Q : VK), EnvC T.K R C e1 σ H → σ[i]? = some (some (.ref p)) → C p = none → R p = none → Ow T.K C (H p) d → Rps T.K C vs ds →
      (∀ w' C' H', Ex C C' → EnvC T.K R C' (e1.set i (.o k0 d')) σ H' → Rp T.K C' w' w → Q w' H') → r (.ref p) vs H Q)
    (hp : PlainM (.Name nm np) mt apos e es pos := by exact ⟨fun _ => rfl, fun _ => rfl, rfl, fun _ => rfl, fun _ => rfl⟩) (ty0 : ∀ (H : Hp) p d0, (∃ C, Ow T.K C (H p) d0) → tyV T.K Ty (.ref p) H)
    (hd : (nm == ("__debug__" : Str)) = false := by decide) (hcd : (nm == ("__classdict__" : Str)) = false := by decide) :
    JE T (.Call (.Attribute (.Name nm np) mt apos) (e :: es) [] pos) e0 (e1.set i (.o k0 d')) (.d w) := fun X hX =>
  (pe_bm pa slot hty (hm X hX) (pe_var (i := i) (by rw [hX.N]; exact hN) (by rw [hX.sc]; exact vis_of hv) hd hcd) (ha X hX) (hp.base X.env) (hp.few X.env) hp.line (hp.hs X.env) (hp.plain X.env)).wk fun σ H Q ⟨R, C, E, k⟩ => by
    rw [hX.K] at *
    obtain ⟨d0, h0⟩ := h0
    obtain ⟨p, s0, _, _, _, ow0⟩ := E.own i k0 d0 h0
    refine ⟨.ref p, s0, ty0 H p d0 ⟨C, ow0⟩, R, C, E, fun vs C1 H1 c1 E1 r1 => ?_⟩
    obtain ⟨p', s1, hq, cp, rp, ow⟩ := E1.own i k0 d he
    rw [s0] at s1; cases s1
    exact ho R C1 H1 σ p vs Q E1 s0 cp rp ow r1 fun w' C2 H2 c2 E2 r2 => k w' C2 H2 (c1.trans c2) E2 r2
theorem tyL {K : PySem.W.Frag} {H : Hp} {p : Addr} {xs : List PyData} (h : ∃ C, Ow K C (H p) (.list xs)) : tyV K "list" (.ref p) H := by
  obtain ⟨C, vs, h, _⟩ := h
  exact .inl ⟨rfl, vs, SqL.of h⟩
theorem je_append {nm : Str} {apos np : Pos} (i : Nat) {xs : List PyData} {k0 : Option Addr} (hN : T.N[i]? = some nm := by rfl) (hv : visB T.sc nm = true := by rfl) (h : JE T e e0 e1 (.d x)) (h0 : ∃ xs0, e0[i]? = some (.o k0 (.list xs0)) := by exact ⟨_, rfl⟩) (he : e1[i]? = some (.o k0 (.list xs)) := by rfl) (hl : xs.length < LN)
    (hp : PlainM (.Name nm np) "append" apos e [] pos := by exact ⟨fun _ => rfl, fun _ => rfl, rfl, fun _ => rfl, fun _ => rfl⟩)
    (hd : (nm == ("__debug__" : Str)) = false := by decide) (hcd : (nm == ("__classdict__" : Str)) = false := by decide) :
    JE T (.Call (.Attribute (.Name nm np) "append" apos) [e] [] pos) e0 (e1.set i (.o k0 (.list (xs ++ [x])))) (.d .none) := fun X hX =>
  (pe_bm PySem.F.plainAttrs_list PySem.F.slot_list_append PySem.F.type_list_append mt_append (pe_var (i := i) (by rw [hX.N]; exact hN) (by rw [hX.sc]; exact vis_of hv) hd hcd) (pa_cons (h X hX) pa_nil (hp.hs X.env)) (hp.base X.env) (hp.few X.env) hp.line (hp.hs X.env) (hp.plain X.env)).wk fun σ H Q ⟨R, C, E, k⟩ => by
    obtain ⟨xs0, h0⟩ := h0
    obtain ⟨p, s0, _, _, _, ow0⟩ := E.own i k0 _ h0
    refine ⟨.ref p, s0, tyL ⟨C, ow0⟩, R, C, E, fun v C1 H1 c1 E1 r1 => ?_⟩
    obtain ⟨p', s1, hq, cp, rp, vs, hh, l, rr⟩ := E1.own i k0 _ he
    rw [s0] at s1; cases s1
    refine ⟨p, vs, v, rfl, rfl, hh, lnS' (by rw [rr.len]; exact hl), ?_⟩
    refine k _ C1 _ c1 (E1.mutO he s0 cp rp ⟨vs ++ [v], rfl, ?_, rr.append (.cons r1 .nil)⟩) .non
    have e := rr.len
    have : xs.length < LN := hl
    rw [List.length_append, e]
    show xs.length + 1 ≤ LN
    omega
/-- xs[i] = e -/
theorem js_setIx {nm : Str} {np tp : Pos} {ix : Expr} (j : Nat) {xs : List PyData} {k0 : Option Addr} {i : Int} {m : Nat} (hN : T.N[j]? = some nm := by rfl) (hv : visB T.sc nm = true := by rfl) (h : JE T e e0 e1 (.d x)) (hi : JE T ix e1 e2 (.d (.int i))) (h1 : ∃ xs0, e1[j]? = some (.o k0 (.list xs0)) := by exact ⟨_, rfl⟩) (h2 : e2[j]? = some (.o k0 (.list xs)) := by rfl) (hm : ixN xs.length i = some m)
    (hs : ∀ (v : Env) l, swapsWithSole [.Subscript (.Name nm np) ix tp] e l v = pure false := by intro _ _; rfl) (hw : ∀ v : Env, swappedStores [.Subscript (.Name nm np) ix tp] e v = pure none := by intro _; rfl) (ha1 : ∀ v : Env, (assignEach [.Subscript (.Name nm np) ix tp] v).map (·.2) = [assign (.Subscript (.Name nm np) ix tp) v] := by intro _; rfl)
    (ha : ∀ (env : Env) v, assign (.Subscript (.Name nm np) ix tp) env v = (do
      let ov ← holding [v] (eval (.Name nm np) env)
      let iv ← holding [v, ov] (eval ix env)
      standAt tp
      holding [v, ov, iv] (setItem ov iv v)
      release [v, ov, iv] []) := by intro _ _; rfl)
    (hd : (nm == ("__debug__" : Str)) = false := by decide) (hcd : (nm == ("__classdict__" : Str)) = false := by decide) :
    JS T (.Assign [.Subscript (.Name nm np) ix tp] e pos) e0 (.nx (e2.set j (.o k0 (.list (xs.set m x))))) := fun X hX =>
  (ps_asg (h X hX) (pg_sub (pe_var (i := j) (by rw [hX.N]; exact hN) (by rw [hX.sc]; exact vis_of hv) hd hcd) (hi X hX) set_list (ha X.env)) (hs X.env pos.line) (hw X.env) (ha1 X.env)).wk fun D σ H ⟨R, C, E, k⟩ => ⟨R, C, E, fun v C1 H1 c1 E1 r1 => by
    obtain ⟨xs0, h1⟩ := h1
    obtain ⟨p, s0, _, _, _, _⟩ := E1.own j k0 _ h1
    refine ⟨.ref p, s0, R, C1, E1, fun iv C2 H2 c2 E2 r2 => ?_⟩
    cases r2
    obtain ⟨p', s1, hq, cp, rp, vs, hh, l, rr⟩ := E2.own j k0 _ h2
    rw [s0] at s1; cases s1
    refine ⟨p, vs, i, m, rfl, rfl, hh, by rw [rr.len]; exact hm, ?_⟩
    exact k σ C2 _ (c1.trans c2) (E2.mutO h2 s0 cp rp ⟨vs.set m v, rfl, by rw [List.length_set]; exact l, rr.set m (r1.mono c2)⟩)⟩

/-! ### several targets, a written tuple -/
/-- the values of a written tuple: known for ever, or objects of their own -/
inductive Rrs (K : PySem.W.Frag) (R C H : Hp) (env : Env') (σ : L2.St) : List V → List Re → Prop
  | nil : Rrs K R C H env σ [] []
  | d {v : V} {x : PyData} {vs : List V} {rs : List Re} : Rp K C v x → Rrs K R C H env σ vs rs → Rrs K R C H env σ (v :: vs) (.d x :: rs)
  | o {p : Addr} {x : PyData} {vs : List V} {rs : List Re} : C p = none → R p = none → NotOwn env σ p → Ow K C (H p) x → (∀ (i : Nat) y, rs[i]? = some (.o y) → vs[i]? ≠ some (.ref p)) → Rrs K R C H env σ vs rs → Rrs K R C H env σ (.ref p :: vs) (.o x :: rs)
def tAoJ (K : PySem.W.Frag) (env env' : Env') (rs : List Re) : TA := fun σ H Q => ∃ R C, EnvC K R C env σ H ∧ ∀ vs C' H', Ex C C' → EnvC K R C' env' σ H' → Rrs K R C' H' env' σ vs rs → Q vs H'
def JAo (T : TC) (es : List Expr) (env env' : Env') (rs : List Re) : Prop := ∀ X, CT X T → PA X es (tAoJ X.K env env' rs)
theorem jao_nil : JAo T [] env env [] := fun X hX => pa_nil.wk fun σ H Q ⟨R, C, E, k⟩ => k [] C H (Ex.refl C) E .nil
theorem jao_d {rs : List Re} (h : JE T e e0 e1 (.d x)) (h' : JAo T es e1 e2 rs) (hs : ∀ v : Env, starEach (e :: es) v = (false, eval e v) :: starEach es v := by intro _; rfl) : JAo T (e :: es) e0 e2 (.d x :: rs) := fun X hX =>
  (pa_cons (h X hX) (h' X hX) (hs X.env)).wk fun σ H Q ⟨R, C, E, k⟩ => ⟨R, C, E, fun v C1 H1 c1 E1 r1 => ⟨R, C1, E1, fun vs C2 H2 c2 E2 r2 => k (v :: vs) C2 H2 (c1.trans c2) E2 (.d (r1.mono c2) r2)⟩⟩
/-- with a further object as a part of what stands -/
theorem EnvC.lift {D : Addr} {o : HO} (E0 : EnvC K R C env σ H) (h1 : H D = some o) (h2 : C D = none) (h3 : NotOwn env σ D) : EnvC K (upd R D o) C env σ H := by
  refine ⟨E0.len, E0.cH, fun q u e => ?_, fun q e => ?_, E0.dat, fun j w x e => ?_, E0.apart⟩
  · by_cases h : q = D
    · subst h; rw [upd_same] at e; cases e; exact h1
    · rw [upd_ne h] at e; exact E0.rH _ _ e
  · by_cases h : q = D
    · subst h; exact h2
    · rw [upd_ne h] at e; exact E0.rc _ e
  · obtain ⟨q, k1, k0, k2, k3, k4⟩ := E0.own j w x e
    have hq : q ≠ D := fun h => by subst h; exact h3 j w x e k1
    exact ⟨q, k1, k0, k2, by rw [upd_ne hq]; exact k3, k4⟩
theorem EnvC.unlift {D : Addr} {o : HO} (E0 : EnvC K (upd R D o) C env σ H) (rD : R D = none) : EnvC K R C env σ H ∧ H D = some o ∧ C D = none ∧ NotOwn env σ D := by
  refine ⟨⟨E0.len, E0.cH, fun q u e => ?_, fun q e => ?_, E0.dat, fun j w x e => ?_, E0.apart⟩, E0.rH D o upd_same, E0.rc D (by rw [upd_same]; simp), fun j w x e s1 => ?_⟩
  · by_cases h : q = D
    · subst h; rw [rD] at e; cases e
    · exact E0.rH q u (by rw [upd_ne h]; exact e)
  · by_cases h : q = D
    · subst h; exact absurd rD e
    · exact E0.rc q (by rw [upd_ne h]; exact e)
  · obtain ⟨q, k1, k0, k2, k3, k4⟩ := E0.own j w x e
    have hq : q ≠ D := fun h => by subst h; rw [upd_same] at k3; cases k3
    exact ⟨q, k1, k0, k2, by rw [upd_ne hq] at k3; exact k3, k4⟩
  · obtain ⟨q, k1, k0, k2, k3, k4⟩ := E0.own j w x e
    rw [k1] at s1; cases s1
    rw [upd_same] at k3; cases k3
theorem Rrs.unlift {D : Addr} {o : HO} {vs : List V} {rs : List Re} (h : Rrs K (upd R D o) C H env σ vs rs) : Rrs K R C H env σ vs rs ∧ ∀ (i : Nat) y, rs[i]? = some (.o y) → vs[i]? ≠ some (.ref D) := by
  induction h with
  | nil => exact ⟨.nil, fun i y h => by cases h⟩
  | d h1 _ ih => exact ⟨.d h1 ih.1, fun i y h => by
      cases i with
      | zero => cases h
      | succ i => exact ih.2 i y h⟩
  | @o p x vs rs h1 h2 h3 h4 h5 _ ih =>
    have hp : p ≠ D := fun h => by subst h; rw [upd_same] at h2; cases h2
    refine ⟨.o h1 (by rw [upd_ne hp] at h2; exact h2) h3 h4 h5 ih.1, fun i y h => ?_⟩
    cases i with
    | zero => intro e; cases e; exact hp rfl
    | succ i => exact ih.2 i y h
theorem jao_o {rs : List Re} (h : JE T e e0 e1 (.o x)) (h' : JAo T es e1 e2 rs) (hs : ∀ v : Env, starEach (e :: es) v = (false, eval e v) :: starEach es v := by intro _; rfl) : JAo T (e :: es) e0 e2 (.o x :: rs) := fun X hX =>
  (pa_cons (h X hX) (h' X hX) (hs X.env)).wk fun σ H Q ⟨R, C, E, k⟩ => ⟨R, C, E, fun v C1 H1 c1 E1 ⟨p, ev, cp, rp, no, ow⟩ => by
    subst ev
    cases ho : H1 p with
    | none => rw [ho] at ow; exact absurd rfl ow.there
    | some o =>
      refine ⟨upd R p o, C1, E1.lift ho cp no, fun vs C2 H2 c2 E2 r2 => ?_⟩
      obtain ⟨E3, h3, cp3, no3⟩ := E2.unlift rp
      obtain ⟨r3, n3⟩ := r2.unlift
      exact k _ C2 H2 (c1.trans c2) E3 (.o cp3 rp no3 (by rw [h3, ← ho]; exact ow.mono c2) n3 r3)⟩
def reSl : Re → Sl
  | .d x => .d x | .o x => .o none x | .b _ => .u
/-- the targets' slots set from the left -/
def setAll {α : Type} (l : List α) : List Nat → List α → List α
  | i :: is, x :: xs => setAll (l.set i x) is xs
  | _, _ => l
theorem Rrs.setd {i : Nat} {v : V} {x : PyData} {vs : List V} {rs : List Re} (r : Rrs K R C H env σ vs rs) : Rrs K R C H (env.set i (.d x)) (σ.set i (some v)) vs rs := by
  induction r with
  | nil => exact .nil
  | d h _ ih => exact .d h ih
  | o a b c d e _ ih =>
    refine .o a b (fun j w y e s => ?_) d e ih
    by_cases hj : i = j
    · subst hj
      rw [List.getElem?_set_self'] at e
      cases q : env[i]? <;> rw [q] at e <;> simp at e
    · rw [List.getElem?_set_ne hj] at e s; exact c j w y e s
theorem Rrs.seto {i : Nat} {p : Addr} {x : PyData} {vs : List V} {rs : List Re} (r : Rrs K R C H env σ vs rs) (h5 : ∀ (i : Nat) y, rs[i]? = some (.o y) → vs[i]? ≠ some (.ref p)) : Rrs K R C H (env.set i (.o none x)) (σ.set i (some (.ref p))) vs rs := by
  induction r with
  | nil => exact .nil
  | d h _ ih => exact .d h (ih fun j y hj => h5 (j + 1) y hj)
  | @o q y vs' rs' a b c d e _ ih =>
    have hqp : q ≠ p := fun h => by subst h; exact h5 0 y rfl rfl
    refine .o a b (fun j w z e s => ?_) d e (ih fun j y hj => h5 (j + 1) y hj)
    by_cases hj : i = j
    · subst hj
      rw [List.getElem?_set_self'] at s
      cases q' : σ[i]? with
      | none => rw [q'] at s; cases s
      | some w2 => rw [q'] at s; simp at s; exact hqp s.symm
    · rw [List.getElem?_set_ne hj] at e s; exact c j w z e s
theorem Rrs.newO {t : Addr} {u : HO} {vs : List V} {rs : List Re} (ht : H t = none) (r : Rrs K R C H env σ vs rs) : Rrs K R C (upd H t u) env σ vs rs := by
  induction r with
  | nil => exact .nil
  | d h _ ih => exact .d h ih
  | @o q y vs' rs' a b c d e _ ih =>
    have hp : q ≠ t := fun h => by subst h; exact d.there ht
    exact .o a b c (by rw [upd_ne hp]; exact d) e ih
theorem EnvC.setAll : ∀ (is : List Nat) {vs : List V} {rs : List Re} {env : Env'} {σ : L2.St}, is.length = rs.length → EnvC K R C env σ H → Rrs K R C H env σ vs rs → EnvC K R C (J.setAll env is (rs.map reSl)) (J.setAll σ is (vs.map some)) H
  | [], vs, rs, env, σ, hl, E, r => by
    cases r with
    | nil => exact E
    | d => cases hl
    | o => cases hl
  | i :: is, vs, rs, env, σ, hl, E, r => by
    cases r with
    | nil => cases hl
    | d h r => exact EnvC.setAll is (by simpa using hl) (E.set i h) r.setd
    | o h1 h2 h3 h4 h5 r => exact EnvC.setAll is (by simpa using hl) (E.setO i h1 h2 h3 h4) (r.seto h5)
theorem Rrs.len {vs : List V} {rs : List Re} (h : Rrs K R C H env σ vs rs) : vs.length = rs.length := by
  induction h with
  | nil => rfl
  | d _ _ ih => simp [ih]
  | o _ _ _ _ _ _ ih => simp [ih]
/-- a, b = x, y with plain names -/
theorem js_par2 {n1 n2 : Str} {x1 x2 : Expr} {p1 p2 pt : Pos} {kt k2 pt2} (i j : Nat) {r1 r2 : Re} (hnd : T.N.Nodup) (hi : T.N[i]? = some n1) (hj : T.N[j]? = some n2) (hij : i ≠ j) (l1 : T.sc.names.lookup n1 = some .local) (l2 : T.sc.names.lookup n2 = some .local) (h : JAo T [x1, x2] e0 e1 [r1, r2])
    (hw : ∀ v : Env, v.scope = T.sc → swappedStores [.Tuple [.Name n1 p1, .Name n2 p2] kt pt] (.Tuple [x1, x2] k2 pt2) v = pure (some [n1, n2])) (hs : ∀ (v : Env) l, swapsWithSole [.Tuple [.Name n1 p1, .Name n2 p2] kt pt] (.Tuple [x1, x2] k2 pt2) l v = pure false := by intro _ _; rfl) :
    JS T (.Assign [.Tuple [.Name n1 p1, .Name n2 p2] kt pt] (.Tuple [x1, x2] k2 pt2) pos) e0 (.nx (setAll e1 [i, j] [reSl r1, reSl r2])) := fun X hX =>
  (ps_par (i := i) (j := j) hX.calm (by rw [hX.N]; exact hnd) (by rw [hX.N]; exact hi) (by rw [hX.N]; exact hj) hij (by rw [hX.sc]; exact l1) (by rw [hX.sc]; exact l2) (h X hX) (hw X.env hX.sc) (hs X.env pos.line)).wk fun D σ H ⟨R, C, E, k⟩ => ⟨R, C, E, fun vs C1 H1 c1 E1 r1 => by
    have hl := r1.len
    match vs, hl with
    | [v, w], _ => exact ⟨v, w, rfl, k _ C1 H1 c1 (E1.setAll [i, j] rfl r1)⟩⟩
theorem js_par3 {n1 n2 n3 : Str} {x1 x2 x3 : Expr} {p1 p2 p3 pt : Pos} {kt k2 pt2} (i j m : Nat) {r1 r2 r3 : Re} (hnd : T.N.Nodup) (hi : T.N[i]? = some n1) (hj : T.N[j]? = some n2) (hm : T.N[m]? = some n3) (hij : i ≠ j) (him : i ≠ m) (hjm : j ≠ m) (l1 : T.sc.names.lookup n1 = some .local) (l2 : T.sc.names.lookup n2 = some .local) (l3 : T.sc.names.lookup n3 = some .local) (h : JAo T [x1, x2, x3] e0 e1 [r1, r2, r3])
    (hw : ∀ v : Env, v.scope = T.sc → swappedStores [.Tuple [.Name n1 p1, .Name n2 p2, .Name n3 p3] kt pt] (.Tuple [x1, x2, x3] k2 pt2) v = pure (some [n1, n2, n3])) (hs : ∀ (v : Env) l, swapsWithSole [.Tuple [.Name n1 p1, .Name n2 p2, .Name n3 p3] kt pt] (.Tuple [x1, x2, x3] k2 pt2) l v = pure false := by intro _ _; rfl) :
    JS T (.Assign [.Tuple [.Name n1 p1, .Name n2 p2, .Name n3 p3] kt pt] (.Tuple [x1, x2, x3] k2 pt2) pos) e0 (.nx (setAll e1 [i, j, m] [reSl r1, reSl r2, reSl r3])) := fun X hX =>
  (ps_par3 (i := i) (j := j) (l := m) hX.calm (by rw [hX.N]; exact hnd) (by rw [hX.N]; exact hi) (by rw [hX.N]; exact hj) (by rw [hX.N]; exact hm) hij him hjm (by rw [hX.sc]; exact l1) (by rw [hX.sc]; exact l2) (by rw [hX.sc]; exact l3) (h X hX) (hw X.env hX.sc) (hs X.env pos.line)).wk fun D σ H ⟨R, C, E, k⟩ => ⟨R, C, E, fun vs C1 H1 c1 E1 r1 => by
    have hl := r1.len
    match vs, hl with
    | [u, v, w], _ => exact ⟨u, v, w, rfl, k _ C1 H1 c1 (E1.setAll [i, j, m] rfl r1)⟩⟩
def gSetAll (is : List Nat) : TGs := fun vs σ H Q => vs.length = is.length ∧ Q (setAll σ is (vs.map some)) H
theorem pgs_all_nil {X : Cx} : PGs X [] (gSetAll []) := pgs_nil.wk fun vs σ H Q ⟨h, q⟩ => by
  cases vs with
  | nil => exact ⟨rfl, q⟩
  | cons => cases h
theorem pgs_all_cons {X : Cx} {g : Expr} {gs : List Expr} {i : Nat} {is : List Nat} (h : PG X g (gName i)) (h' : PGs X gs (gSetAll is)) (hs : (assignEach (g :: gs) X.env).map (·.2) = assign g X.env :: (assignEach gs X.env).map (·.2)) : PGs X (g :: gs) (gSetAll (i :: is)) := (pgs_cons h h' hs).wk fun vs σ H Q ⟨hl, q⟩ => by
  cases vs with
  | nil => cases hl
  | cons v vs => exact ⟨v, vs, rfl, by simpa using hl, q⟩
/-- name targets -/
def JNs (T : TC) (gs : List Expr) (is : List Nat) : Prop := ∀ X, CT X T → PGs X gs (gSetAll is)
theorem jns_nil : JNs T [] [] := fun X hX => pgs_all_nil
theorem jns_cons {nm : Str} {gs : List Expr} {is : List Nat} (i : Nat) (hnd : T.N.Nodup) (h' : JNs T gs is) (hN : T.N[i]? = some nm := by rfl) (hl : locB T.sc nm = true := by rfl) (hf : T.fn nm = true ∨ T.sc.names.lookup nm = some .local := by first | exact .inl rfl | exact .inr rfl) (hs : ∀ v : Env, (assignEach (.Name nm p :: gs) v).map (·.2) = assign (.Name nm p) v :: (assignEach gs v).map (·.2) := by intro _; rfl) : JNs T (.Name nm p :: gs) (i :: is) := fun X hX =>
  pgs_all_cons (pg_name (i := i) (by rw [hX.N]; exact hnd) (by rw [hX.N]; exact hN) (by rw [hX.sc]; exact loc_of hl) (by rcases hf with h | h; exact .inl (hX.fn _ h); exact .inr (by rw [hX.sc]; exact h))) (h' X hX) (hs X.env)
theorem js_parN {gs es : List Expr} {pt pt2 : Pos} {kt k2 : Nat} {rs : List Re} (is : List Nat) (hg : JNs T gs is) (h : JAo T es e0 e1 rs) (hl : is.length = rs.length := by rfl) (hn : ∀ v : Env, (assignEach gs v).length = rs.length := by intro _; rfl) (hst : ∀ v : Env, (assignEach gs v).findIdx? (·.1) = none := by intro _; rfl)
    (hw : ∀ v : Env, v.scope = T.sc → swappedStores [.Tuple gs kt pt] (.Tuple es k2 pt2) v = pure none) (hs : ∀ (v : Env) l, swapsWithSole [.Tuple gs kt pt] (.Tuple es k2 pt2) l v = pure false := by intro _ _; rfl) (ha : ∀ v : Env, (assignEach [.Tuple gs kt pt] v).map (·.2) = [assign (.Tuple gs kt pt) v] := by intro _; rfl) (hll : rs.length ≤ LN := by exact Nat.le_of_ble_eq_true rfl) :
    JS T (.Assign [.Tuple gs kt pt] (.Tuple es k2 pt2) pos) e0 (.nx (setAll e1 is (rs.map reSl))) := fun X hX =>
  (ps_asg (pe_tup (h X hX)) (pg_tup hX.calm (hg X hX) (hn X.env) (hst X.env)) (hs X.env pos.line) (hw X.env hX.sc) (ha X.env)).wk fun D σ H ⟨R, C, E, k⟩ => ⟨R, C, E, fun vs C1 H1 c1 E1 r1 => ⟨lnS (by rw [r1.len]; exact hll), fun t ht => by
    refine ⟨t, vs, rfl, .inl (.inl upd_same), r1.len, by rw [r1.len]; exact hl.symm, ?_⟩
    exact k _ C1 _ c1 (EnvC.setAll is hl (E1.newO ht) (r1.newO ht))⟩⟩
/-- a, b = a tuple that is known -/
theorem js_unp {gs : List Expr} {pt : Pos} {kt : Nat} {ds : List PyData} (is : List Nat) (hg : JNs T gs is) (h : JE T e e0 e1 (.d (.tuple ds))) (hl : is.length = ds.length := by rfl) (hn : ∀ v : Env, (assignEach gs v).length = ds.length := by intro _; rfl) (hst : ∀ v : Env, (assignEach gs v).findIdx? (·.1) = none := by intro _; rfl)
    (hw : ∀ v : Env, swappedStores [.Tuple gs kt pt] e v = pure none := by intro _; rfl) (hs : ∀ (v : Env) l, swapsWithSole [.Tuple gs kt pt] e l v = pure false := by intro _ _; rfl) (ha : ∀ v : Env, (assignEach [.Tuple gs kt pt] v).map (·.2) = [assign (.Tuple gs kt pt) v] := by intro _; rfl) :
    JS T (.Assign [.Tuple gs kt pt] e pos) e0 (.nx (setAll e1 is (ds.map .d))) := fun X hX =>
  (ps_asg (h X hX) (pg_tup hX.calm (hg X hX) (hn X.env) (hst X.env)) (hs X.env pos.line) (hw X.env) (ha X.env)).wk fun D σ H ⟨R, C, E, k⟩ => ⟨R, C, E, fun v C1 H1 c1 E1 r1 => by
    cases r1 with
    | tup q l r =>
    refine ⟨_, _, rfl, E1.cH.t q, r.len, by rw [r.len]; exact hl.symm, ?_⟩
    have rr : ∀ {ds : List PyData} {vs : List V}, Rps X.K C1 vs ds → Rrs X.K R C1 H1 e1 σ vs (ds.map .d) := fun {ds} => by
      induction ds with
      | nil => intro vs r; cases r; exact .nil
      | cons d ds ih => intro vs r; cases r with
        | cons h r => exact .d h (ih r)
    have := EnvC.setAll is (by simpa using hl) E1 (rr r)
    rw [List.map_map] at this
    exact k _ C1 H1 c1 this⟩
end
end J
namespace J
open PySem L2 PySem.Spec PyProof.Rows
open AutoSeq1 (wpAny_loadPart')

/-! ### enumerate of a tuple, of a text -/
theorem meets_enumerate_new1B {v : Value} {o : Obj} {H : Heap → Prop} (B : Begins v o H) :
    Meets (Builtin.«enumerate.__new__» ⟨[.type "enumerate", v], []⟩) (fun _ R s => H s.heap ∧
      R (.ok (.ret (.ref (s.heap.push o).objs.size))) { s with heap := (s.heap.push o).push { cls := .type "enumerate", data := .fields #[.none, .bool false, .ref s.heap.objs.size, rawInt 0, .none, .none] } }) :=
  .of_wp fun prog w A R s h => by
    obtain ⟨hp, g, d, tk, os⟩ := s; obtain ⟨h1, h⟩ := h
    have hsub := sub_enumerate
    have q1 : ∀ {A' : Around} {E : Value → Shared → Prop} {Q : Value → Shared → Prop}, Q (.ref hp.objs.size) ⟨hp.push o, g, d, tk, os⟩ → wpAny (model prog w) A' (pyIter v) Q E ⟨hp, g, d, tk, os⟩ :=
      fun q => B.iter prog w _ _ ⟨hp, g, d, tk, os⟩ _ h1 q
    wp_walk using q1
    refine wpAny_stack_any fun st => wpAny_pure ?_
    split
    · rename_i c _ _ _ _ _
      cases (c == Value.type "enumerate")
      · wp_walk using q1
        exact ⟨_, rfl, h⟩
      · wp_walk using q1
        exact ⟨_, rfl, h⟩
    · wp_walk using q1
      exact ⟨_, rfl, h⟩
theorem call_enumerate_B {prog : Program} {w : World} {A : Around} {E : Value → Shared → Prop} {s : Shared} {v : Value} {o : Obj} {H : Heap → Prop} {Q : Value → Shared → Prop} (B : Begins v o H) (h1 : H s.heap)
    (h : ∀ h', IsEnum h' (s.heap.objs.size + 1) s.heap.objs.size 0 .none → h'.get? s.heap.objs.size = some o → h'.objs.size = s.heap.objs.size + 2 →
      (∀ b o, s.heap.get? b = some o → h'.get? b = some o) → Q (.ref (s.heap.objs.size + 1)) { s with heap := h' }) :
    wpAny (model prog w) A (call (.type "enumerate") [v]) Q E s := by
  refine callType_new F.called_enumerate (by decide) (F.typeCall_enumerate_1 _) (F.newCall_enumerate_1 _) (fun obj => F.args_object_init_2 obj _) F.entry_enumerate_new
    (meets_enumerate_new1B B) ⟨h1, ?_⟩
  have hz : (s.heap.push o).objs.size = s.heap.objs.size + 1 := Heap.size_push ..
  show _ ∧ _
  rw [hz]
  have he : IsEnum ((s.heap.push o).push { cls := .type "enumerate", data := .fields #[.none, .bool false, .ref s.heap.objs.size, rawInt 0, .none, .none] }) (s.heap.objs.size + 1) s.heap.objs.size 0 .none := by
    have := Heap.get?_push_size (s.heap.push o) (o := { cls := .type "enumerate", data := .fields #[.none, .bool false, .ref s.heap.objs.size, rawInt 0, .none, .none] }) rfl
    rw [hz] at this; exact this
  refine ⟨⟨_, he, rfl⟩, h _ he (Heap.get?_push_of_some _ (Heap.get?_push_size _ B.free)) (by rw [Heap.size_push, hz]) fun b o x => Heap.get?_push_of_some _ (Heap.get?_push_of_some _ x)⟩
def IteT (K : PySem.W.Frag) (a : Addr) : It :=
  ⟨fun i H => ∃ (xs : List V) (x : V), SqT K H a xs ∧ xs[i]? = some x, fun i H v H' => ∃ T x, v = .ref T ∧ H T = none ∧ H' = upd H T (.tup [.int (i : Nat), x]) ∧ ∀ xs, SqT K H a xs → xs[i]? = some x, fun i H => ∃ xs : List V, SqT K H a xs ∧ xs.length = i⟩
def IteS (z : Str) : It :=
  ⟨fun i _ => i < z.cps.size, fun i H v H' => ∃ T c, v = .ref T ∧ H T = none ∧ H' = upd H T (.tup [.int (i : Nat), .str ⟨#[c]⟩]) ∧ z.cps[i]? = some c, fun i _ => z.cps.size = i⟩
theorem turn_enumT {P : Program} {w : World} {K : PySem.W.Frag} {elts : List Expr} {kk : Nat} {tpos : Pos} (a e it : Addr) :
    Turn P w K (.Tuple elts kk tpos) (IteT K a) [e, it] e (fun i h => (∃ old, IsEnum h e it ((i : Nat) : Int) old) ∧ h.IsTupleIter it a i ∧ e ≠ it) where
  mem := by simp
  obj := fun i h st b hb => by
    obtain ⟨⟨old, he⟩, ⟨o, ho, hc, hd⟩, _⟩ := st
    have e' : b = e ∨ b = it := by simpa using hb
    rcases e' with z | z
    · rw [z]; exact ⟨_, he, fun v q => nomatch q⟩
    · rw [z]; exact ⟨o, ho, fun v q => by rw [hd] at q; cases q⟩
  keep := fun i h h' st k => let ⟨⟨old, he⟩, hi, hne⟩ := st; ⟨⟨old, k e (by simp) _ he⟩, hi.at fun o q => k it (by simp) o q, hne⟩
  item := by
    intro X hP hw hK hc i pins s σ H E I hf st hg
    subst hP hw hK
    obtain ⟨⟨old, he⟩, hit, hne⟩ := st
    obtain ⟨xs, x, hq, hx⟩ := hg
    obtain ⟨its, rv, p, hz⟩ := I.tuple hq
    obtain ⟨u, hu, ru⟩ := rv.get hx
    have hel : e < s.heap.objs.size := Heap.lt_size he
    have hil : it < s.heap.objs.size := by obtain ⟨_, q, _⟩ := hit; exact Heap.lt_size q
    have hai : a ≠ it := fun h => by
      subst h
      obtain ⟨o1, q1, c1, _⟩ := hit
      obtain ⟨o2, q2, c2, _⟩ := p
      rw [q1] at q2; cases q2
      rw [c1] at c2
      injection c2 with c3
      exact absurd c3 (by decide)
    have hae : a ≠ e := fun h => by
      subst h
      obtain ⟨o2, q2, c2, _⟩ := p
      rw [he] at q2; cases q2
      have c2' : Value.type "enumerate" = Value.type "tuple" := c2
      injection c2' with c3
      exact absurd c3 (by decide)
    have hlt : i < its.toArray.size := by have := (List.getElem?_eq_some_iff.mp hu).1; simpa using this
    refine wpAny_pyNext_enum_itemD (Draws.tuple (A := X.A.in1) (I.ok.hd hc) it a hai its.toArray) he ⟨hit, p⟩ hlt hne (show e ∉ [it, a] by simp only [List.mem_cons, List.not_mem_nil, or_false, not_or]; exact ⟨hne, Ne.symm hae⟩) fun y h' tk hP ho hit' hT hsz hk => ?_
    have hy : y = u := by
      have h2 : its[i]? = some y := by simpa using hP
      rw [hu] at h2; exact (Option.some.inj h2).symm
    subst hy
    refine ⟨_, rfl, wpAny_letOwnedTupleGo_enum (s := { s with heap := h', toks := tk + 1 }) ho fun h'' he' sb => ?_⟩
    have hT2 : h''.get? s.heap.objs.size = some { cls := .type "tuple", data := .seq #[.int i tk, y] } := (sb.2 _ (Nat.ne_of_gt hel)).trans hT
    have new : ObjOk X.prog X.w (upd H s.heap.objs.size (.tup [.int (i : Nat), x])) h'' s.heap.objs.size (.tup [.int (i : Nat), x]) :=
      ⟨by show 2 ≤ sizeLine; decide, [.int i tk, y], .cons ⟨_, rfl⟩ (.cons ru .nil), ⟨_, hT2, rfl, _, rfl⟩⟩
    have I1 : Inv X pins σ (upd H s.heap.objs.size (.tup [.int (i : Nat), x])) { s with heap := h'', toks := tk + 1 } :=
      I.turnedNew (ch := [e, it]) (fun b ob hb q => (sb.2 b (fun z => hb (by simp [z]))).trans (hk b ob (fun z => hb (by simp [z])) (fun z => hb (by simp [z])) q)) hf (Nat.le_refl _) new
    refine ⟨.ref s.heap.objs.size, _, I1, rfl, ⟨_, x, rfl, I.hok.fresh (Nat.le_refl _), rfl, fun ys hy => by rw [I.tuple_inj hy hq]; exact hx⟩, ⟨⟨y, ?_⟩, hit'.1.at fun o q => (sb.2 it (Ne.symm hne)).trans q, hne⟩, fun b hb => ?_⟩
    · have e1 : ((i + 1 : Nat) : Int) = (i : Int) + 1 := by omega
      rw [e1]; exact he'
    · have hb' : b < s.heap.objs.size := by
        have e' : b = e ∨ b = it := by simpa using hb
        rcases e' with z | z
        · rw [z]; exact hel
        · rw [z]; exact hil
      rw [upd_ne (Nat.ne_of_lt hb')]
      exact (hf b hb).1
  done := by
    intro X hP hw hK hc i pins s σ H E I hf st hg
    subst hP hw hK
    obtain ⟨⟨old, he⟩, hit, hne⟩ := st
    obtain ⟨xs, hq, hx⟩ := hg
    obtain ⟨its, rv, p, hz⟩ := I.tuple hq
    obtain ⟨f0, f1, f2, f3, f4, f5⟩ := hf it (by simp)
    have hl := rv.length
    have hai : a ≠ it := fun h => by
      subst h
      obtain ⟨o1, q1, c1, _⟩ := hit
      obtain ⟨o2, q2, c2, _⟩ := p
      rw [q1] at q2; cases q2
      rw [c1] at c2
      injection c2 with c3
      exact absurd c3 (by decide)
    refine wpAny_pyNext_enum_endD (Draws.tuple (A := X.A.in1) (I.ok.hd hc) it a hai its.toArray) he ⟨?_, p⟩ fun h' eb => ⟨rfl, I.turned (t' := s.toks) (fun b o hb q => eb b o hb q) f0 f1 f3 f4 f5⟩
    have e1 : its.toArray.size = i := by rw [List.size_toArray]; omega
    rw [e1]; exact hit
  self := fun A i s Q E st h => let ⟨⟨_, he⟩, _⟩ := st; wpAny_pyIter_enum he h
theorem turn_enumS {P : Program} {w : World} {K : PySem.W.Frag} {elts : List Expr} {kk : Nat} {tpos : Pos} (z : Str) (t : Tok) (e it : Addr) :
    Turn P w K (.Tuple elts kk tpos) (IteS z) [e, it] e (fun i h => (∃ old, IsEnum h e it ((i : Nat) : Int) old) ∧ h.IsStrIter it (strIterType z) z t i ∧ e ≠ it) where
  mem := by simp
  obj := fun i h st b hb => by
    obtain ⟨⟨old, he⟩, ⟨o, ho, hc, hd⟩, _⟩ := st
    have e' : b = e ∨ b = it := by simpa using hb
    rcases e' with z | z
    · rw [z]; exact ⟨_, he, fun v q => nomatch q⟩
    · rw [z]; exact ⟨o, ho, fun v q => by rw [hd] at q; cases q⟩
  keep := fun i h h' st k => let ⟨⟨old, he⟩, ⟨o, ho, r⟩, hne⟩ := st; ⟨⟨old, k e (by simp) _ he⟩, ⟨o, k it (by simp) o ho, r⟩, hne⟩
  item := by
    intro X hP hw hK hc i pins s σ H E I hf st hg
    subst hP hw hK
    obtain ⟨⟨old, he⟩, hit, hne⟩ := st
    have hg' : i < z.cps.size := hg
    have hel : e < s.heap.objs.size := Heap.lt_size he
    have hil : it < s.heap.objs.size := by obtain ⟨_, q, _⟩ := hit; exact Heap.lt_size q
    refine wpAny_pyNext_enum_itemD (Draws.text (A := X.A.in1) (I.ok.hd hc) it z t) he hit hg' hne (show e ∉ [it] by simp only [List.mem_cons, List.not_mem_nil, or_false]; exact hne) fun y h' tk hP ho hit' hT hsz hk => ?_
    obtain ⟨c, u, hcc, rfl⟩ := hP
    refine ⟨_, rfl, wpAny_letOwnedTupleGo_enum (s := { s with heap := h', toks := tk + 1 }) ho fun h'' he' sb => ?_⟩
    have hT2 : h''.get? s.heap.objs.size = some { cls := .type "tuple", data := .seq #[.int i tk, .str ⟨#[c]⟩ u] } := (sb.2 _ (Nat.ne_of_gt hel)).trans hT
    have new : ObjOk X.prog X.w (upd H s.heap.objs.size (.tup [.int (i : Nat), .str ⟨#[c]⟩])) h'' s.heap.objs.size (.tup [.int (i : Nat), .str ⟨#[c]⟩]) :=
      ⟨by show 2 ≤ sizeLine; decide, [.int i tk, .str ⟨#[c]⟩ u], .cons ⟨_, rfl⟩ (.cons ⟨_, rfl⟩ .nil), ⟨_, hT2, rfl, _, rfl⟩⟩
    have I1 : Inv X pins σ (upd H s.heap.objs.size (.tup [.int (i : Nat), .str ⟨#[c]⟩])) { s with heap := h'', toks := tk + 1 } :=
      I.turnedNew (ch := [e, it]) (fun b ob hb q => (sb.2 b (fun z => hb (by simp [z]))).trans (hk b ob (fun z => hb (by simp [z])) (fun z => hb (by simp [z])) q)) hf (Nat.le_refl _) new
    refine ⟨.ref s.heap.objs.size, _, I1, rfl, ⟨_, c, rfl, I.hok.fresh (Nat.le_refl _), rfl, hcc⟩, ⟨⟨.str ⟨#[c]⟩ u, ?_⟩, (let ⟨o, ho, r⟩ := hit'; ⟨o, (sb.2 it (Ne.symm hne)).trans ho, r⟩), hne⟩, fun b hb => ?_⟩
    · have e1 : ((i + 1 : Nat) : Int) = (i : Int) + 1 := by omega
      rw [e1]; exact he'
    · have hb' : b < s.heap.objs.size := by
        have e' : b = e ∨ b = it := by simpa using hb
        rcases e' with z | z
        · rw [z]; exact hel
        · rw [z]; exact hil
      rw [upd_ne (Nat.ne_of_lt hb')]
      exact (hf b hb).1
  done := by
    intro X hP hw hK hc i pins s σ H E I hf st hg
    subst hP hw hK
    obtain ⟨⟨old, he⟩, hit, hne⟩ := st
    obtain ⟨f0, f1, f2, f3, f4, f5⟩ := hf it (by simp)
    refine wpAny_pyNext_enum_endD (Draws.text (A := X.A.in1) (I.ok.hd hc) it z t) he ?_ fun h' eb => ⟨rfl, I.turned (t' := s.toks) (fun b o hb q => eb b o hb q) f0 f1 f3 f4 f5⟩
    have hg' : z.cps.size = i := hg
    rw [hg']; exact hit
  self := fun A i s Q E st h => let ⟨⟨_, he⟩, _⟩ := st; wpAny_pyIter_enum he h
def iEnumT (K : PySem.W.Frag) (ta : TA) : TI := fun σ H R => ta σ H fun vs H1 => ∃ a xs, vs = [.ref a] ∧ SqT K H1 a xs ∧ R (IteT K a) H1
def iEnumS (ta : TA) : TI := fun σ H R => ta σ H fun vs H1 => ∃ z, vs = [.str z] ∧ R (IteS z) H1
theorem pi_enumT {X : Cx} {e : Expr} {ta : TA} {p pos tpos : Pos} {elts : List Expr} {kk : Nat} (hg : Gl X "enumerate") (hm : X.mg "enumerate" = none) (ha : PA X [e] ta) (hs : starEach [e] X.env = [(false, eval e X.env)] := by rfl) :
    PI X (.Tuple elts kk tpos) (.Call (.Name "enumerate" p) [e] [] pos) (iEnumT X.K ta) := by
  refine ⟨fun pins s σ H R I h => ?_⟩
  refine Call_ (ld_blt I hg hm boot_enumerate (PyProof.Rows.callWith_type1 (thn (ha.run pos pins s σ H _ I h) fun us s1 ⟨vs, H1, I1, r1, q1⟩ => ?_) hs rfl))
  obtain ⟨a, xs, ex, hq, q⟩ := q1
  subst ex
  cases r1 with
  | cons r rr =>
    cases rr
    cases r
    obtain ⟨its, rv, p', hz⟩ := I1.tuple hq
    refine call_enumerate_B (begins_tuple a its.toArray) p' fun h' he hit hsz hk => wpAny_pyIter_enum he ?_
    have I2 : Inv X pins σ H1 { s1 with heap := h' } := I1.kept (t' := s1.toks) hk
    refine ⟨s1.heap.objs.size + 1, [s1.heap.objs.size + 1, s1.heap.objs.size], _, _, H1, rfl, I2, turn_enumT a (s1.heap.objs.size + 1) s1.heap.objs.size, ⟨⟨.none, he⟩, ⟨_, hit, rfl, rfl⟩, Nat.succ_ne_self _⟩, fun b hb => ?_, q⟩
    have e' : b = s1.heap.objs.size + 1 ∨ b = s1.heap.objs.size := by simpa using hb
    have hle : s1.heap.objs.size ≤ b := by
      rcases e' with z | z
      · rw [z]; exact Nat.le_add_right _ _
      · rw [z]; exact Nat.le_refl _
    exact I1.fpOk hle (I1.hok.fresh hle)
theorem pi_enumS {X : Cx} {e : Expr} {ta : TA} {p pos tpos : Pos} {elts : List Expr} {kk : Nat} (hg : Gl X "enumerate") (hm : X.mg "enumerate" = none) (ha : PA X [e] ta) (hs : starEach [e] X.env = [(false, eval e X.env)] := by rfl) :
    PI X (.Tuple elts kk tpos) (.Call (.Name "enumerate" p) [e] [] pos) (iEnumS ta) := by
  refine ⟨fun pins s σ H R I h => ?_⟩
  refine Call_ (ld_blt I hg hm boot_enumerate (PyProof.Rows.callWith_type1 (thn (ha.run pos pins s σ H _ I h) fun us s1 ⟨vs, H1, I1, r1, q1⟩ => ?_) hs rfl))
  obtain ⟨z, ex, q⟩ := q1
  subst ex
  cases r1 with
  | cons r rr =>
    cases rr
    obtain ⟨t, rfl⟩ := r
    refine call_enumerate_B (begins_text z t) trivial fun h' he hit hsz hk => wpAny_pyIter_enum he ?_
    have I2 : Inv X pins σ H1 { s1 with heap := h' } := I1.kept (t' := s1.toks) hk
    refine ⟨s1.heap.objs.size + 1, [s1.heap.objs.size + 1, s1.heap.objs.size], _, _, H1, rfl, I2, turn_enumS z t (s1.heap.objs.size + 1) s1.heap.objs.size, ⟨⟨.none, he⟩, ⟨_, hit, rfl, rfl⟩, Nat.succ_ne_self _⟩, fun b hb => ?_, q⟩
    have e' : b = s1.heap.objs.size + 1 ∨ b = s1.heap.objs.size := by simpa using hb
    have hle : s1.heap.objs.size ≤ b := by
      rcases e' with z | z
      · rw [z]; exact Nat.le_add_right _ _
      · rw [z]; exact Nat.le_refl _
    exact I1.fpOk hle (I1.hok.fresh hle)
section
variable {T : TC} {a b e : Expr} {es : List Expr} {env e0 e1 e2 e3 : Env'} {pos p tpos : Pos} {kk : Nat} {elts : List Expr} {tg : Expr}
/-- (0, x0), (1, x1), .. -/
def enumD (xs : List PyData) : List PyData := (xs.zipIdx).map fun q => .tuple [.int q.2, q.1]
theorem enumD_get {xs : List PyData} {i : Nat} {d : PyData} (h : (enumD xs)[i]? = some d) : ∃ x, xs[i]? = some x ∧ d = .tuple [.int i, x] := by
  unfold enumD at h
  rw [List.getElem?_map, List.getElem?_zipIdx] at h
  cases q : xs[i]? with
  | none => rw [q] at h; cases h
  | some x => rw [q] at h; simp at h; exact ⟨x, rfl, h.symm⟩
theorem enumD_len (xs : List PyData) : (enumD xs).length = xs.length := by unfold enumD; simp
/-- the pair that such an iterator yields -/
theorem EnvC.pair {K : PySem.W.Frag} {R C H : Hp} {env : Env'} {σ : L2.St} {t : Addr} {u v : V} {x y : PyData} (E : EnvC K R C env σ H) (ht : H t = none) (hu : Rp K C u x) (hv : Rp K C v y) :
    ∃ C2, Ex C C2 ∧ EnvC K R C2 env σ (upd H t (.tup [u, v])) ∧ (∀ D, (upd H t (.tup [u, v])) D = none → H D = none) ∧ (∀ D o, H D = some o → (upd H t (.tup [u, v])) D = some o) ∧ (∀ D o, H D = some o → C D = none → C2 D = none) ∧ Rp K C2 (.ref t) (.tuple [x, y]) := by
  obtain ⟨c, E', r⟩ := E.freshT (ds := [x, y]) ht (by show 2 ≤ LN; decide) (.cons hu (.cons hv .nil))
  refine ⟨_, c, E', fun D h => ?_, fun D o h => ?_, fun D o h hc => ?_, r⟩
  · by_cases q : D = t
    · subst q; rw [upd_same] at h; cases h
    · rw [upd_ne q] at h; exact h
  · rw [upd_ne (ne_of_none h ht)]; exact h
  · rw [upd_ne (ne_of_none h ht)]; exact hc
theorem ji_enumL {xs : List PyData} (hg : glB T.sc "enumerate" = true) (hm : T.mg "enumerate" = none) (h : JE T e e0 e1 (.d (.list xs))) (hs : ∀ v : Env, starEach [e] v = [(false, eval e v)] := by intro _; rfl) : JI T (.Tuple elts kk tpos) (.Call (.Name "enumerate" p) [e] [] pos) e0 e1 (enumD xs) := fun X hX =>
  (pi_enum (gl_of hX hg) (by rw [hX.mg]; exact hm) (pa_cons (h X hX) pa_nil (hs X.env)) (hs X.env)).wk fun σ H Rr' ⟨R, C, E, k⟩ => ⟨R, C, E, fun v C1 H1 c1 E1 r1 => by
    cases r1 with
    | lst q l r =>
    refine ⟨_, _, rfl, SqL.of (E1.cH _ _ q), k _ C1 H1 c1 E1 (by rw [enumD_len, ← r.len]; exact l) fun C2 env σ H2 c2 E2 => ⟨⟨_, SqL.of (E2.cH _ _ (c2 _ _ q)), by rw [enumD_len, r.len]; exact Nat.le_refl _⟩, fun i d hd => ?_⟩⟩
    obtain ⟨x, hx, rfl⟩ := enumD_get hd
    obtain ⟨w, hw, rw⟩ := r.getD hx
    refine ⟨⟨_, w, SqL.of (E2.cH _ _ (c2 _ _ q)), hw⟩, fun y H3 hy => ?_⟩
    obtain ⟨t, u, rfl, ht, rfl, hu⟩ := hy
    have := hu _ (SqL.of (E2.cH _ _ (c2 _ _ q)))
    rw [hw] at this; cases this
    exact E2.pair ht (.int _) (rw.mono c2)⟩
theorem ji_enumT {xs : List PyData} (hg : glB T.sc "enumerate" = true) (hm : T.mg "enumerate" = none) (h : JE T e e0 e1 (.d (.tuple xs))) (hs : ∀ v : Env, starEach [e] v = [(false, eval e v)] := by intro _; rfl) : JI T (.Tuple elts kk tpos) (.Call (.Name "enumerate" p) [e] [] pos) e0 e1 (enumD xs) := fun X hX =>
  (pi_enumT (gl_of hX hg) (by rw [hX.mg]; exact hm) (pa_cons (h X hX) pa_nil (hs X.env)) (hs X.env)).wk fun σ H Rr' ⟨R, C, E, k⟩ => ⟨R, C, E, fun v C1 H1 c1 E1 r1 => by
    cases r1 with
    | tup q l r =>
    refine ⟨_, _, rfl, E1.cH.t q, k _ C1 H1 c1 E1 (by rw [enumD_len, ← r.len]; exact l) fun C2 env σ H2 c2 E2 => ⟨⟨_, E2.cH.t (c2.t q), by rw [enumD_len, r.len]⟩, fun i d hd => ?_⟩⟩
    obtain ⟨x, hx, rfl⟩ := enumD_get hd
    obtain ⟨w, hw, rw⟩ := r.getD hx
    refine ⟨⟨_, w, E2.cH.t (c2.t q), hw⟩, fun y H3 hy => ?_⟩
    obtain ⟨t, u, rfl, ht, rfl, hu⟩ := hy
    have := hu _ (E2.cH.t (c2.t q))
    rw [hw] at this; cases this
    exact E2.pair ht (.int _) (rw.mono c2)⟩
/-- the signs of a text -/
def signs (s : Str) : List Str := s.cps.toList.map fun c => ⟨#[c]⟩
theorem signs_get {s : Str} {i : Nat} {d : PyData} (h : ((signs s).map PyData.str)[i]? = some d) : ∃ c, s.cps[i]? = some c ∧ d = .str ⟨#[c]⟩ ∧ i < s.cps.size := by
  unfold signs at h
  rw [List.getElem?_map, List.getElem?_map] at h
  cases q : s.cps.toList[i]? with
  | none => rw [q] at h; cases h
  | some x =>
    rw [q] at h; simp at h
    have hi := (List.getElem?_eq_some_iff.mp q).1
    exact ⟨x, by simpa using q, h.symm, by simpa using hi⟩
theorem signs_len (s : Str) : (signs s).length = s.length := by unfold signs; simp [Str.length]
theorem ji_str {s : Str} (h : JE T e e0 e1 (.d (.str s))) : JI T tg e e0 e1 ((signs s).map .str) := fun X hX =>
  (pi_str (h X hX)).wk fun σ H Rr' ⟨R, C, E, k⟩ => ⟨R, C, E, fun v C1 H1 c1 E1 r1 => by
    cases r1 with
    | str ok =>
    refine ⟨s, rfl, k _ C1 H1 c1 E1 (by rw [List.length_map, signs_len]; exact ok.2) fun C2 env σ H2 c2 E2 => ⟨by show s.cps.size ≤ _; rw [List.length_map, signs_len]; exact Nat.le_refl _, fun i d hd => ?_⟩⟩
    obtain ⟨c, hc, rfl, hi⟩ := signs_get hd
    refine ⟨hi, fun y H3 hy => ?_⟩
    obtain ⟨rfl, c', hc', rfl⟩ := hy
    rw [hc] at hc'; cases hc'
    exact ⟨C2, Ex.refl C2, E2, fun _ h => h, fun _ _ h => h, fun _ _ _ h => h, .str (sOk_one ok (i := i) (by simpa using hc))⟩⟩
theorem ji_enumS {s : Str} (hg : glB T.sc "enumerate" = true) (hm : T.mg "enumerate" = none) (h : JE T e e0 e1 (.d (.str s))) (hs : ∀ v : Env, starEach [e] v = [(false, eval e v)] := by intro _; rfl) : JI T (.Tuple elts kk tpos) (.Call (.Name "enumerate" p) [e] [] pos) e0 e1 (enumD ((signs s).map .str)) := fun X hX =>
  (pi_enumS (gl_of hX hg) (by rw [hX.mg]; exact hm) (pa_cons (h X hX) pa_nil (hs X.env)) (hs X.env)).wk fun σ H Rr' ⟨R, C, E, k⟩ => ⟨R, C, E, fun v C1 H1 c1 E1 r1 => by
    cases r1 with
    | str ok =>
    refine ⟨s, rfl, k _ C1 H1 c1 E1 (by rw [enumD_len, List.length_map, signs_len]; exact ok.2) fun C2 env σ H2 c2 E2 => ⟨by show s.cps.size = _; rw [enumD_len, List.length_map, signs_len]; rfl, fun i d hd => ?_⟩⟩
    obtain ⟨x, hx, rfl⟩ := enumD_get hd
    obtain ⟨c, hc, rfl, hi⟩ := signs_get hx
    refine ⟨hi, fun y H3 hy => ?_⟩
    obtain ⟨t, c', rfl, ht, rfl, hc'⟩ := hy
    rw [hc] at hc'; cases hc'
    exact E2.pair ht (.int _) (.str (sOk_one ok (i := i) (by simpa using hc)))⟩
/-- zip of two -/
def zipD (xs ys : List PyData) : List PyData := (xs.zip ys).map fun q => .tuple [q.1, q.2]
theorem zipD_get {xs ys : List PyData} {i : Nat} {d : PyData} (h : (zipD xs ys)[i]? = some d) : ∃ x y, xs[i]? = some x ∧ ys[i]? = some y ∧ d = .tuple [x, y] := by
  unfold zipD at h
  rw [List.getElem?_map] at h
  cases q : (xs.zip ys)[i]? with
  | none => rw [q] at h; cases h
  | some z =>
    rw [q] at h; simp at h
    obtain ⟨x, y⟩ := z
    rw [List.getElem?_zip_eq_some] at q
    exact ⟨x, y, q.1, q.2, h.symm⟩
theorem zipD_len (xs ys : List PyData) : (zipD xs ys).length = min xs.length ys.length := by unfold zipD; simp
theorem ji_zipT {xs ys : List PyData} (hg : glB T.sc "zip" = true) (hm : T.mg "zip" = none) (h : JA T [a, b] e0 e1 [.tuple xs, .tuple ys]) (hs : ∀ v : Env, starEach [a, b] v = (false, eval a v) :: starEach [b] v := by intro _; rfl) (hpl : ∀ v : Env, (backTo pos (starEach [b] v)).any (·.1) = false := by intro _; rfl) : JI T (.Tuple elts kk tpos) (.Call (.Name "zip" p) [a, b] [] pos) e0 e1 (zipD xs ys) := fun X hX =>
  (RZ.pi_zipA (gl_of hX hg) (by rw [hX.mg]; exact hm) (h X hX) (hs X.env) (hpl X.env)).wk fun σ H Rr' ⟨R, C, E, k⟩ => ⟨R, C, E, fun vs C1 H1 c1 E1 r1 => by
    cases r1 with
    | cons r1 r2 =>
    cases r2 with
    | cons r2 r3 =>
    cases r3
    cases r1 with
    | tup q1 l1 r1 =>
    cases r2 with
    | tup q2 l2 r2 =>
    refine ⟨_, _, _, _, rfl, .inr ⟨E1.cH.t q1, E1.cH.t q2, k _ C1 H1 c1 E1 (by rw [zipD_len, ← r1.len]; omega) fun C2 env σ H2 c2 E2 => ⟨⟨_, _, E2.cH.t (c2.t q1), E2.cH.t (c2.t q2), by rw [zipD_len, r1.len, r2.len]; omega⟩, fun i d hd => ?_⟩⟩⟩
    obtain ⟨x, y, hx, hy, rfl⟩ := zipD_get hd
    obtain ⟨u, hu, ru⟩ := r1.getD hx
    obtain ⟨w, hw, rw⟩ := r2.getD hy
    refine ⟨⟨_, _, u, w, E2.cH.t (c2.t q1), E2.cH.t (c2.t q2), hu, hw⟩, fun z H3 hz => ?_⟩
    obtain ⟨t, u', w', rfl, ht, rfl, h1, h2⟩ := hz
    have e1 := h1 _ (E2.cH.t (c2.t q1))
    have e2 := h2 _ (E2.cH.t (c2.t q2))
    rw [hu] at e1; cases e1
    rw [hw] at e2; cases e2
    exact E2.pair ht (ru.mono c2) (rw.mono c2)⟩
theorem ji_zipL {xs ys : List PyData} (hg : glB T.sc "zip" = true) (hm : T.mg "zip" = none) (h : JA T [a, b] e0 e1 [.list xs, .list ys]) (hs : ∀ v : Env, starEach [a, b] v = (false, eval a v) :: starEach [b] v := by intro _; rfl) (hpl : ∀ v : Env, (backTo pos (starEach [b] v)).any (·.1) = false := by intro _; rfl) : JI T (.Tuple elts kk tpos) (.Call (.Name "zip" p) [a, b] [] pos) e0 e1 (zipD xs ys) := fun X hX =>
  (RZ.pi_zipA (gl_of hX hg) (by rw [hX.mg]; exact hm) (h X hX) (hs X.env) (hpl X.env)).wk fun σ H Rr' ⟨R, C, E, k⟩ => ⟨R, C, E, fun vs C1 H1 c1 E1 r1 => by
    cases r1 with
    | cons r1 r2 =>
    cases r2 with
    | cons r2 r3 =>
    cases r3
    cases r1 with
    | lst q1 l1 r1 =>
    cases r2 with
    | lst q2 l2 r2 =>
    refine ⟨_, _, _, _, rfl, .inl ⟨SqL.of (E1.cH _ _ q1), SqL.of (E1.cH _ _ q2), k _ C1 H1 c1 E1 (by rw [zipD_len, ← r1.len]; omega) fun C2 env σ H2 c2 E2 => ⟨⟨_, _, SqL.of (E2.cH _ _ (c2 _ _ q1)), SqL.of (E2.cH _ _ (c2 _ _ q2)), by rw [zipD_len, r1.len, r2.len]; omega⟩, fun i d hd => ?_⟩⟩⟩
    obtain ⟨x, y, hx, hy, rfl⟩ := zipD_get hd
    obtain ⟨u, hu, ru⟩ := r1.getD hx
    obtain ⟨w, hw, rw⟩ := r2.getD hy
    refine ⟨⟨_, _, u, w, SqL.of (E2.cH _ _ (c2 _ _ q1)), SqL.of (E2.cH _ _ (c2 _ _ q2)), hu, hw⟩, fun z H3 hz => ?_⟩
    obtain ⟨t, u', w', rfl, ht, rfl, h1, h2⟩ := hz
    have e1 := h1 _ (SqL.of (E2.cH _ _ (c2 _ _ q1)))
    have e2 := h2 _ (SqL.of (E2.cH _ _ (c2 _ _ q2)))
    rw [hu] at e1; cases e1
    rw [hw] at e2; cases e2
    exact E2.pair ht (ru.mono c2) (rw.mono c2)⟩
end
end J
namespace J
open PySem L2 PySem.Spec PyProof.Rows

/-! ### comprehensions over data of one kind -/
section
variable {T : TC} {a b e : Expr} {es : List Expr} {env e0 e1 e2 e3 : Env'} {pos p : Pos} {x y z : PyData} {ds : List PyData} {K : PySem.W.Frag} {R C C' H H' : Hp} {σ σ' : L2.St} {v : V} {st : Stmt} {rest body : List Stmt} {oc : Oc}
variable {α β : Type} {tg iter elt : Expr} {ifs : List Expr} {scope : Scope}
theorem filter_snoc {α : Type} (p : α → Bool) {xs : List α} {i : Nat} {x : α} (h : xs[i]? = some x) : (xs.take (i + 1)).filter p = (xs.take i).filter p ++ (if p x = true then [x] else []) := by
  rw [take_get h, List.filter_append]
  congr 1
  by_cases q : p x = true
  · rw [if_pos q, List.filter_cons_of_pos q]; rfl
  · rw [if_neg q, List.filter_cons_of_neg q]; rfl
/-- what a comprehension whose parts leave the environment is to show -/
structure LcP (T : TC) (scope : Scope) (tg elt : Expr) (ifs : List Expr) (own : List (Str × Nat)) (e1 : Env') (d : PyData) (c : Bool) (w : PyData) : Prop where
  ex : ∃ (js : List Nat) (E1 : Env'), js ⊆ own.map (·.2) ∧ JG (T.blk scope) tg js d e1 E1 ∧ JTs (T.blk scope) ifs E1 E1 c ∧ Le e1 E1 ∧ (c = true → JE (T.blk scope) elt E1 E1 (.d w))
theorem lcp {js : List Nat} {own : List (Str × Nat)} {E1 : Env'} {d w : PyData} {c : Bool} (hjs : js ⊆ own.map (·.2)) (hg : JG (T.blk scope) tg js d e1 E1) (ht : JTs (T.blk scope) ifs E1 E1 c) (hl : Le e1 E1) (he : c = true → JE (T.blk scope) elt E1 E1 (.d w)) : LcP T scope tg elt ifs own e1 d c w := ⟨js, E1, hjs, hg, ht, hl, he⟩
theorem lcp_turn {enc : α → PyData} {xs : List α} {own : List (Str × Nat)} {p : α → Bool} {g : α → PyData} (turn : ∀ x, x ∈ xs → LcP T scope tg elt ifs own e1 (enc x) (p x) (g x)) :
    ∀ i d, (xs.map enc)[i]? = some d → LcTurn T scope tg elt ifs (own.map (·.2)) d e1 e1 (((xs.take i).filter p).map g) (((xs.take (i + 1)).filter p).map g) := fun i d hd => by
  rw [List.getElem?_map] at hd
  cases q : xs[i]? with
  | none => rw [q] at hd; cases hd
  | some x =>
    rw [q] at hd; cases hd
    obtain ⟨js, E1, h1, h2, h3, h4, h5⟩ := (turn x (List.mem_of_getElem? q)).ex
    refine ⟨js, E1, E1, p x, h1, h2, h3, fun hp => ⟨E1, g x, h5 hp, h4, ?_⟩, fun hp => ⟨h4, ?_⟩⟩
    · rw [filter_snoc p q, if_pos hp, List.map_append]; rfl
    · rw [filter_snoc p q, if_neg (by rw [hp]; exact Bool.false_ne_true), List.append_nil]
theorem je_lc {enc : α → PyData} {xs : List α} (own : List (Str × Nat)) (p : α → Bool) (g : α → PyData) (hi : JI T tg iter e0 e1 (xs.map enc)) (hnd : T.N.Nodup) (ok : blkC T.N T.sc scope own = true) (hu : unk e1 (own.map (·.2)))
    (turn : ∀ x, x ∈ xs → LcP T scope tg elt ifs own e1 (enc x) (p x) (g x)) (hs : ∀ (v : Env) x, foldedSetIterable iter v x = pure x := by intro _ _; rfl) : JE T (.ListComp elt [⟨tg, iter, ifs, 0⟩] scope pos) e0 e1 (.o (.list ((xs.filter p).map g))) := by
  have := je_lcG (pos := pos) (elt := elt) (ifs := ifs) (scope := scope) own (fun _ => e1) (fun i => ((xs.take i).filter p).map g) hi hnd ok rfl (by simp) (fun _ _ => hu) (lcp_turn turn) hs
  simpa using this
theorem js_setLc {enc : α → PyData} {xs : List α} (i : Nat) {nm : Str} {py spos : Pos} (own : List (Str × Nat)) (p : α → Bool) (g : α → PyData) (hi : JI T tg iter e0 e1 (xs.map enc)) (hnd : T.N.Nodup) (ok : blkC T.N T.sc scope own = true) (hu : unk e1 (own.map (·.2)))
    (turn : ∀ x, x ∈ xs → LcP T scope tg elt ifs own e1 (enc x) (p x) (g x)) (hN : T.N[i]? = some nm := by rfl) (hl : T.sc.names.lookup nm = some .local := by rfl) (hk : T.sc.kind = .function := by rfl) (hpl : (py.line == pos.line) = true := by rfl) (ha : (scope.names.any fun (n, k) => n == nm && (k == .local || k == .cell)) = false := by decide +kernel) (hs : ∀ (v : Env) x, foldedSetIterable iter v x = pure x := by intro _ _; rfl) :
    JS T (.Assign [.Name nm py] (.ListComp elt [⟨tg, iter, ifs, 0⟩] scope pos) spos) e0 (.nx (e1.set i (.o none (.list ((xs.filter p).map g))))) := by
  have := js_setLcG (py := py) (spos := spos) (pos := pos) (elt := elt) (ifs := ifs) (scope := scope) i own (fun _ => e1) (fun i => ((xs.take i).filter p).map g) hi hnd ok rfl (by simp) (fun _ _ => hu) (lcp_turn turn) hN hl hk hpl ha hs
  simpa using this
/-- name = .. where the name is a cell: an ordinary store -/
theorem sw_false {elt : Expr} {gs : List Comprehension} {scope : Scope} {pos py : Pos} {y : Str} {T : TC} (hy : T.sc.names.lookup y = some .cell) (v : Env) (hv : v.scope = T.sc) (l : Nat) : swapsWith (.ListComp elt gs scope pos) (some (.Name y py)) l v = pure false := by
  have ky : v.kindOf y = some .cell := by unfold Env.kindOf; rw [hv]; exact hy
  unfold swapsWith
  simp only [ky]
  have : ((some NameKind.cell : Option NameKind) == some NameKind.local) = false := by decide
  simp only [this, Bool.and_false, Bool.false_and]
theorem js_setC (i : Nat) {nm : Str} {pos' : Pos} {d : PyData} {elt : Expr} {gs : List Comprehension} {scope : Scope} {lpos : Pos} (hnd : T.N.Nodup) (h : JE T (.ListComp elt gs scope lpos) e0 e1 (.o d)) (hN : T.N[i]? = some nm := by rfl) (hl : T.sc.names.lookup nm = some .cell := by rfl) (hf : T.fn nm = true := by rfl) :
    JS T (.Assign [.Name nm pos'] (.ListComp elt gs scope lpos) pos) e0 (.nx (e1.set i (.o none d))) := fun X hX =>
  (ps_set (i := i) (by rw [hX.N]; exact hnd) (by rw [hX.N]; exact hN) (by rw [hX.sc]; exact .inr hl) (h X hX) (sw_false hl X.env hX.sc pos.line) (.inl (hX.fn _ hf))).wk fun D σ H ⟨R, C, E, k⟩ => ⟨R, C, E, fun v C' H' c E' ⟨p, ev, cp, rp, no, ow⟩ => by
    subst ev
    exact k _ C' H' c (E'.setO i cp rp no ow)⟩

/-! comprehensions whose elements change the environment: a state carried from element to element -/
def mapS {α β S : Type} (f : S → α → β × S) : S → List α → List β × S
  | s, [] => ([], s)
  | s, x :: xs => ((f s x).1 :: (mapS f (f s x).2 xs).1, (mapS f (f s x).2 xs).2)
theorem mapS_snoc {α β S : Type} (f : S → α → β × S) : ∀ (xs : List α) (s : S) (x : α), mapS f s (xs ++ [x]) = ((mapS f s xs).1 ++ [(f (mapS f s xs).2 x).1], (f (mapS f s xs).2 x).2)
  | [], s, x => rfl
  | y :: xs, s, x => by
    simp only [List.cons_append, mapS, mapS_snoc f xs (f s y).2 x]
structure LcD {β S : Type} (T : TC) (scope : Scope) (tg elt : Expr) (own : List (Str × Nat)) (Ev : S → Env') (dec : β → PyData) (d : PyData) (s : S) (r : β × S) : Prop where
  ex : ∃ (js : List Nat) (E1 E2 : Env'), js ⊆ own.map (·.2) ∧ JG (T.blk scope) tg js d (Ev s) E1 ∧ JE (T.blk scope) elt E1 E2 (.d (dec r.1)) ∧ Le (Ev r.2) E2
theorem lcd {β S : Type} {own : List (Str × Nat)} {Ev : S → Env'} {dec : β → PyData} {d : PyData} {s : S} {r : β × S} {js : List Nat} {E1 E2 : Env'} (hjs : js ⊆ own.map (·.2)) (hg : JG (T.blk scope) tg js d (Ev s) E1) (he : JE (T.blk scope) elt E1 E2 (.d (dec r.1))) (hl : Le (Ev r.2) E2) : LcD T scope tg elt own Ev dec d s r := ⟨js, E1, E2, hjs, hg, he, hl⟩
theorem lcd_turn {β S : Type} {enc : α → PyData} {xs : List α} {own : List (Str × Nat)} {Ev : S → Env'} {dec : β → PyData} {f : S → α → β × S} {s0 : S} (turn : ∀ s x, x ∈ xs → LcD T scope tg elt own Ev dec (enc x) s (f s x)) :
    ∀ i d, (xs.map enc)[i]? = some d → LcTurn T scope tg elt [] (own.map (·.2)) d (Ev (mapS f s0 (xs.take i)).2) (Ev (mapS f s0 (xs.take (i + 1))).2) ((mapS f s0 (xs.take i)).1.map dec) ((mapS f s0 (xs.take (i + 1))).1.map dec) := fun i d hd => by
  rw [List.getElem?_map] at hd
  cases q : xs[i]? with
  | none => rw [q] at hd; cases hd
  | some x =>
    rw [q] at hd; cases hd
    obtain ⟨js, E1, E2, h1, h2, h3, h4⟩ := (turn (mapS f s0 (xs.take i)).2 x (List.mem_of_getElem? q)).ex
    rw [take_get q, mapS_snoc]
    exact ⟨js, E1, E1, true, h1, h2, jts_nil, fun _ => ⟨E2, _, h3, h4, by rw [List.map_append]; rfl⟩, fun h => by cases h⟩
theorem je_lcD {β S : Type} {enc : α → PyData} {xs : List α} (own : List (Str × Nat)) (Ev : S → Env') (dec : β → PyData) (f : S → α → β × S) (s0 : S) (hi : JI T tg iter e0 (Ev s0) (xs.map enc)) (hnd : T.N.Nodup) (ok : blkC T.N T.sc scope own = true) (hu : ∀ s, unk (Ev s) (own.map (·.2)))
    (turn : ∀ s x, x ∈ xs → LcD T scope tg elt own Ev dec (enc x) s (f s x)) (hs : ∀ (v : Env) x, foldedSetIterable iter v x = pure x := by intro _ _; rfl) : JE T (.ListComp elt [⟨tg, iter, [], 0⟩] scope pos) e0 (Ev (mapS f s0 xs).2) (.o (.list ((mapS f s0 xs).1.map dec))) := by
  have := je_lcG (pos := pos) (elt := elt) (ifs := []) (scope := scope) own (fun i => Ev (mapS f s0 (xs.take i)).2) (fun i => (mapS f s0 (xs.take i)).1.map dec) hi hnd ok (by simp [mapS]) (by simp [mapS]) (fun _ _ => hu _) (lcd_turn turn) hs
  simpa using this
theorem js_setLcD {β S : Type} {enc : α → PyData} {xs : List α} (i : Nat) {nm : Str} {py spos : Pos} (own : List (Str × Nat)) (Ev : S → Env') (dec : β → PyData) (f : S → α → β × S) (s0 : S) (hi : JI T tg iter e0 (Ev s0) (xs.map enc)) (hnd : T.N.Nodup) (ok : blkC T.N T.sc scope own = true) (hu : ∀ s, unk (Ev s) (own.map (·.2)))
    (turn : ∀ s x, x ∈ xs → LcD T scope tg elt own Ev dec (enc x) s (f s x)) (hN : T.N[i]? = some nm := by rfl) (hl : T.sc.names.lookup nm = some .local := by rfl) (hk : T.sc.kind = .function := by rfl) (hpl : (py.line == pos.line) = true := by rfl) (ha : (scope.names.any fun (n, k) => n == nm && (k == .local || k == .cell)) = false := by decide +kernel) (hs : ∀ (v : Env) x, foldedSetIterable iter v x = pure x := by intro _ _; rfl) :
    JS T (.Assign [.Name nm py] (.ListComp elt [⟨tg, iter, [], 0⟩] scope pos) spos) e0 (.nx ((Ev (mapS f s0 xs).2).set i (.o none (.list ((mapS f s0 xs).1.map dec))))) := by
  have := js_setLcG (py := py) (spos := spos) (pos := pos) (elt := elt) (ifs := []) (scope := scope) i own (fun i => Ev (mapS f s0 (xs.take i)).2) (fun i => (mapS f s0 (xs.take i)).1.map dec) hi hnd ok (by simp [mapS]) (by simp [mapS]) (fun _ _ => hu _) (lcd_turn turn) hN hl hk hpl ha hs
  simpa using this
/-! .. whose tests change it -/
def filS {α β S : Type} (c : S → α → Bool × S) (g : α → β) : S → List α → List β × S
  | s, [] => ([], s)
  | s, x :: xs => ((if (c s x).1 = true then g x :: (filS c g (c s x).2 xs).1 else (filS c g (c s x).2 xs).1), (filS c g (c s x).2 xs).2)
theorem filS_snoc {α β S : Type} (c : S → α → Bool × S) (g : α → β) : ∀ (xs : List α) (s : S) (x : α), filS c g s (xs ++ [x]) = ((filS c g s xs).1 ++ (if (c (filS c g s xs).2 x).1 = true then [g x] else []), (c (filS c g s xs).2 x).2)
  | [], s, x => by simp only [List.nil_append, filS]; rfl
  | y :: xs, s, x => by
    simp only [List.cons_append, filS, filS_snoc c g xs (c s y).2 x]
    split <;> rfl
structure LcF {S : Type} (T : TC) (scope : Scope) (tg elt : Expr) (ifs : List Expr) (own : List (Str × Nat)) (Ev : S → Env') (d : PyData) (s : S) (r : Bool × S) (w : PyData) : Prop where
  ex : ∃ (js : List Nat) (E1 E2 : Env'), js ⊆ own.map (·.2) ∧ JG (T.blk scope) tg js d (Ev s) E1 ∧ JTs (T.blk scope) ifs E1 E2 r.1 ∧ (r.1 = true → JE (T.blk scope) elt E2 E2 (.d w)) ∧ Le (Ev r.2) E2
theorem lcf {S : Type} {own : List (Str × Nat)} {Ev : S → Env'} {d w : PyData} {s : S} {r : Bool × S} {js : List Nat} {E1 E2 : Env'} (hjs : js ⊆ own.map (·.2)) (hg : JG (T.blk scope) tg js d (Ev s) E1) (ht : JTs (T.blk scope) ifs E1 E2 r.1) (he : r.1 = true → JE (T.blk scope) elt E2 E2 (.d w)) (hl : Le (Ev r.2) E2) : LcF T scope tg elt ifs own Ev d s r w := ⟨js, E1, E2, hjs, hg, ht, he, hl⟩
theorem je_lcF {β S : Type} {enc : α → PyData} {xs : List α} (own : List (Str × Nat)) (Ev : S → Env') (dec : β → PyData) (c : S → α → Bool × S) (g : α → β) (s0 : S) (hi : JI T tg iter e0 (Ev s0) (xs.map enc)) (hnd : T.N.Nodup) (ok : blkC T.N T.sc scope own = true) (hu : ∀ s, unk (Ev s) (own.map (·.2)))
    (turn : ∀ s x, x ∈ xs → LcF T scope tg elt ifs own Ev (enc x) s (c s x) (dec (g x))) (hs : ∀ (v : Env) x, foldedSetIterable iter v x = pure x := by intro _ _; rfl) : JE T (.ListComp elt [⟨tg, iter, ifs, 0⟩] scope pos) e0 (Ev (filS c g s0 xs).2) (.o (.list ((filS c g s0 xs).1.map dec))) := by
  have := je_lcG (pos := pos) (elt := elt) (ifs := ifs) (scope := scope) own (fun i => Ev (filS c g s0 (xs.take i)).2) (fun i => (filS c g s0 (xs.take i)).1.map dec) hi hnd ok (by simp [filS]) (by simp [filS]) (fun _ _ => hu _) (fun i d hd => by
    rw [List.getElem?_map] at hd
    cases q : xs[i]? with
    | none => rw [q] at hd; cases hd
    | some x =>
      rw [q] at hd; cases hd
      obtain ⟨js, E1, E2, h1, h2, h3, h4, h5⟩ := (turn (filS c g s0 (xs.take i)).2 x (List.mem_of_getElem? q)).ex
      simp only [take_get q, filS_snoc]
      refine ⟨js, E1, E2, _, h1, h2, h3, fun hc => ⟨E2, _, h4 hc, h5, ?_⟩, fun hc => ⟨h5, ?_⟩⟩
      · rw [if_pos hc, List.map_append]; rfl
      · rw [if_neg (by rw [hc]; exact Bool.false_ne_true), List.append_nil]) hs
  simpa using this

/-! ### least and greatest, sorted -/
theorem readsAll_of {X : Cx} {pins : List (Addr × Obj)} {s : Shared} (I : L2.Inv X pins σ H s) {xs : List PyData} {vs : List V} {us : List Value} (r : Rps X.K C vs xs) (e : Ex C H) (hv : Vals vs us) (hp : pureAll xs = true) : ∃ as, ReadsAll s.heap us xs as :=
  Dp.readsAll I xs vs us ((r.mono e).dps hp) hv
end
end J
namespace J
open PySem L2 PySem.Spec PyProof.Rows PySem.W

/-! ### least, greatest, sorted -/
theorem foldl_pick {α : Type} (f : α → α → Bool) : ∀ (xs : List α) (x : α), xs.foldl (fun a y => if f y a = true then y else a) x ∈ x :: xs
  | [], x => by simp
  | y :: xs, x => by
    have := foldl_pick f xs (if f y x = true then y else x)
    rw [List.foldl_cons]
    rcases List.mem_cons.mp this with h | h
    · rw [h]; split <;> simp
    · exact List.mem_cons_of_mem _ (List.mem_cons_of_mem _ h)
theorem minD_mem (x : PyData) (xs : List PyData) : minD x xs ∈ x :: xs := foldl_pick dataLt xs x
theorem maxD_mem (x : PyData) (xs : List PyData) : maxD x xs ∈ x :: xs := foldl_pick (fun y a => dataLt a y) xs x
theorem isList_of {h : Heap} {a : Addr} {its : Array Value} (p : PlainL h a its) : h.IsList a its := p.isList
section
variable {X : Cx}
/-- the i-th one is the one -/
def rBest (best : PyData → List PyData → PyData) (K : PySem.W.Frag) : List V → Hp → VK → Prop := fun vs H Q => ∃ (a : Addr) (ys : List V) (x : PyData) (xs : List PyData), vs = [.ref a] ∧ (SqL K H a ys ∨ SqT K H a ys) ∧ DpAll K H ys (x :: xs) ∧ AlikeAll (x :: xs) ∧ PyData.depthAll (x :: xs) ≤ 64 ∧
  ∀ (i : Nat) w, ys[i]? = some w → (x :: xs)[i]? = some (best x xs) → Q w H
theorem at_best {h : Heap} {best : PyData → List PyData → PyData} (hb : ∀ x xs, best x xs ∈ x :: xs) {x : PyData} {xs : List PyData} {us : List Value} {as bs : List Addr} {i : Nat} {u : Value} (al : AlikeAll (x :: xs)) (r : ReadsAll h us (x :: xs) as) (hu : us[i]? = some u) (hr : Reads h u (best x xs) bs) : (x :: xs)[i]? = some (best x xs) := by
  obtain ⟨cs, h1, h2, h3, _⟩ := readsAll_at (vs := us) r i u (by simpa using hu)
  have e := alike_unique _ _ u cs bs (al.1 _ h3 _ (hb x xs)) h1 hr
  rw [← e, List.getD_eq_getElem?_getD, List.getElem?_eq_getElem h2]
  rfl
theorem cr_minD (hc : X.calm = true) (hu : X.A.units + 200 < cLine) : CallR X (.builtin "min") (rBest minD X.K) := by
  intro pins s σ H xs us Q I rv h
  obtain ⟨a, ys, x, ds, rfl, hq, hd, al, dp, q⟩ := h
  have eu := Vals.ref1 rv
  subst eu
  have fin : ∀ (its : List Value), Vals ys its → ∀ (i : Nat) v h' tk bs, its.toArray[i]? = some v → Reads h' v (minD x ds) bs → (∀ b o, s.heap.get? b = some o → h'.get? b = some o) → EP X pins σ Q v { s with heap := h', toks := tk } := fun its r i v h' tk bs hv hr hk => by
    obtain ⟨as, ra⟩ := Dp.readsAll I (x :: ds) ys its hd r
    have hv' : its[i]? = some v := by simpa using hv
    have hi := at_best minD_mem al (ReadsAll.keeps hk ra) hv' hr
    have hl : i < ys.length := by rw [r.length]; exact (List.getElem?_eq_some_iff.mp hv').1
    obtain ⟨u, hu', ru⟩ := r.get (List.getElem?_eq_getElem hl)
    rw [hv'] at hu'; cases hu'
    exact ⟨_, H, I.kept (t' := tk) hk, ru, q i _ (List.getElem?_eq_getElem hl) hi⟩
  rcases hq with hq | hq
  · obtain ⟨its, r, pl, hz⟩ := I.list hq
    obtain ⟨as, ra⟩ := Dp.readsAll I (x :: ds) ys its hd r
    exact min_list_data (I.ok.hd hc) pl.isList (by simpa using ra) al (by omega) (fin its r)
  · obtain ⟨its, r, pl, hz⟩ := I.tuple hq
    obtain ⟨as, ra⟩ := Dp.readsAll I (x :: ds) ys its hd r
    exact min_tuple_data (I.ok.hd hc) pl (by simpa using ra) al (by omega) (fin its r)
theorem cr_maxD (hc : X.calm = true) (hu : X.A.units + 200 < cLine) : CallR X (.builtin "max") (rBest maxD X.K) := by
  intro pins s σ H xs us Q I rv h
  obtain ⟨a, ys, x, ds, rfl, hq, hd, al, dp, q⟩ := h
  have eu := Vals.ref1 rv
  subst eu
  have fin : ∀ (its : List Value), Vals ys its → ∀ (i : Nat) v h' tk bs, its.toArray[i]? = some v → Reads h' v (maxD x ds) bs → (∀ b o, s.heap.get? b = some o → h'.get? b = some o) → EP X pins σ Q v { s with heap := h', toks := tk } := fun its r i v h' tk bs hv hr hk => by
    obtain ⟨as, ra⟩ := Dp.readsAll I (x :: ds) ys its hd r
    have hv' : its[i]? = some v := by simpa using hv
    have hi := at_best maxD_mem al (ReadsAll.keeps hk ra) hv' hr
    have hl : i < ys.length := by rw [r.length]; exact (List.getElem?_eq_some_iff.mp hv').1
    obtain ⟨u, hu', ru⟩ := r.get (List.getElem?_eq_getElem hl)
    rw [hv'] at hu'; cases hu'
    exact ⟨_, H, I.kept (t' := tk) hk, ru, q i _ (List.getElem?_eq_getElem hl) hi⟩
  rcases hq with hq | hq
  · obtain ⟨its, r, pl, hz⟩ := I.list hq
    obtain ⟨as, ra⟩ := Dp.readsAll I (x :: ds) ys its hd r
    exact max_list_data (I.ok.hd hc) pl.isList (by simpa using ra) al (by omega) (fin its r)
  · obtain ⟨its, r, pl, hz⟩ := I.tuple hq
    obtain ⟨as, ra⟩ := Dp.readsAll I (x :: ds) ys its hd r
    exact max_tuple_data (I.ok.hd hc) pl (by simpa using ra) al (by omega) (fin its r)
theorem zipR : ∀ {ys : List V} {its : List Value} {ds : List PyData}, Vals ys its → ys.length = ds.length → EachIs (fun (u : Value) (b : V × PyData) => L2.RelV b.1 u) its (ys.zip ds)
  | _, _, _, .nil, _ => .nil
  | _, _, [], .cons _ _, h => by cases h
  | _, _, d :: ds, .cons h1 t, h => .cons h1 (zipR t (by simpa using h))
theorem zipRd {h : Heap} : ∀ {ds : List PyData} {ys : List V} {its : List Value} {as : List Addr}, Vals ys its → ReadsAll h its ds as → EachIs (fun (u : Value) (b : V × PyData) => ∃ as, Reads h u b.2 as) its (ys.zip ds)
  | [], _, _, _, v, r => by cases r; cases v; exact .nil
  | d :: ds, _, _, _, v, r => by
    cases r with
    | cons r1 r2 => cases v with
      | cons v1 v2 => exact .cons ⟨_, r1⟩ (zipRd v2 r2)
theorem eachVals : ∀ {out : List Value} {zs : List (V × PyData)}, EachIs (fun (u : Value) (b : V × PyData) => L2.RelV b.1 u) out zs → Vals (zs.map (·.1)) out
  | _, _, .nil => .nil
  | _, _, .cons h t => .cons h (eachVals t)
theorem depth_mem : ∀ {ds : List PyData} {d : PyData}, d ∈ ds → d.depth ≤ PyData.depthAll ds
  | d :: ds, e, h => by
    rw [PyData.depthAll]
    rcases List.mem_cons.mp h with h | h
    · rw [h]; exact Nat.le_max_left _ _
    · exact Nat.le_trans (depth_mem h) (Nat.le_max_right _ _)
theorem dpAll_len {K : PySem.W.Frag} {H : Hp} : ∀ {ds : List PyData} {vs : List V}, DpAll K H vs ds → vs.length = ds.length
  | [], _, h => by cases h; rfl
  | d :: ds, _, h => by cases h with
    | cons h1 h2 => simp [dpAll_len h2]
/-- sorted: the values in their order by what they read as -/
def rSortD (K : PySem.W.Frag) : List V → Hp → VK → Prop := fun vs H Q => ∃ (a : Addr) (ys : List V) (ds : List PyData), vs = [.ref a] ∧ SqL K H a ys ∧ DpAll K H ys ds ∧ AllAlike ds ∧ Sortable ds ∧ PyData.depthAll ds ≤ 64 ∧
  ∀ p, H p = none → Q (.ref p) (upd H p (.lst (((ys.zip ds).mergeSort (dataLe false (·.2))).map (·.1))))
theorem cr_sortD (hu : X.A.units + 200 < cLine) : CallR X (.builtin "sorted") (rSortD X.K) := by
  intro pins s σ H xs us Q I rv h
  obtain ⟨a, ys, ds, rfl, hq, hd, al, so, dp, q⟩ := h
  have eu := Vals.ref1 rv
  subst eu
  obtain ⟨its, r, pl, hz⟩ := I.list hq
  obtain ⟨as, ra⟩ := Dp.readsAll I ds ys its hd r
  have hlen : ys.length = ds.length := dpAll_len hd
  have e1 : (ys.zip ds).map (·.2) = ds := List.map_snd_zip (by omega)
  have R1 := zipR r hlen
  have R2 := zipRd r ra
  have hdep : ∀ b, b ∈ ys.zip ds → X.A.units + 2 + b.2.depth < cLine := fun b hb => by
    have hm : b.2 ∈ ds := by
      have : b.2 ∈ (ys.zip ds).map (·.2) := List.mem_map.mpr ⟨b, hb, rfl⟩
      rw [e1] at this; exact this
    have := depth_mem hm
    omega
  refine sorted_data (R := fun (u : Value) (b : V × PyData) => RelV b.1 u) (enc := fun b => b.2) (bs := ys.zip ds) pl.isList R1 R2 (by rw [e1]; exact al) (by rw [e1]; exact so) (by rw [List.length_zip]; omega) hdep fun out ho hout => ?_
  obtain ⟨e, he⟩ := sortedAll_at s.heap its out.toArray
  have hv := eachVals hout
  have hn : H (s.heap.objs.size + 1) = none := I.hok.fresh (Nat.le_succ _)
  refine ⟨.ref (s.heap.objs.size + 1), _, I.laid (a := s.heap.objs.size + 1) (o := .lst _) (t' := s.toks) (fun b ob q => sortedAll_old q) (Nat.le_succ _) ?_, rfl, q _ hn⟩
  exact ⟨by rw [List.length_map, List.length_mergeSort, List.length_zip]; omega, out, e, hv, he⟩
end
section
variable {T : TC} {a b e : Expr} {es : List Expr} {env e0 e1 e2 e3 : Env'} {pos p : Pos} {x y z : PyData} {ds : List PyData} {K : PySem.W.Frag} {R C C' H H' : Hp} {σ σ' : L2.St} {v : V}
theorem shN_all {n : Nat} {xs : List PyData} (h : shN (n + 1) (.list xs) = true) : pureAll xs = true ∧ PyData.depthAll xs ≤ n := by
  have h' : ∀ x ∈ xs, shN n x = true := by simpa [shN] using h
  exact ⟨pureAll_of fun x hx => (shN_of (h' x hx)).1, depthAll_le fun x hx => (shN_of (h' x hx)).2⟩
theorem room_units {X : Cx} (hX : CT X T) : X.A.units + 200 < cLine := by have := hX.room.un; omega
theorem best_list {best : PyData → List PyData → PyData} {x : PyData} {xs : List PyData} (al : AlikeAll (x :: xs)) (sh : shN 64 (.list (x :: xs)) = true) : CallOk1 T (rBest best) (.list (x :: xs)) (.d (best x xs)) := fun R C H env σ v Q E hv k => by
  obtain ⟨p, vs, rfl, h1, l1, r1⟩ := rb_lst E hv
  obtain ⟨q1, q2⟩ := shN_all (n := 63) sh
  refine ⟨p, vs, x, xs, rfl, .inl (SqL.of h1), (r1.mono E.cH).dps q1, al, by omega, fun i w hw hi => ?_⟩
  obtain ⟨d, hd, rd⟩ := r1.get hw
  rw [hi] at hd; cases hd
  exact k w C H (Ex.refl C) E rd
theorem best_tup {best : PyData → List PyData → PyData} {x : PyData} {xs : List PyData} (al : AlikeAll (x :: xs)) (sh : shN 64 (.list (x :: xs)) = true) : CallOk1 T (rBest best) (.tuple (x :: xs)) (.d (best x xs)) := fun R C H env σ v Q E hv k => by
  obtain ⟨p, vs, rfl, h1, c1, l1, r1⟩ := rb_tup E hv
  obtain ⟨q1, q2⟩ := shN_all (n := 63) sh
  refine ⟨p, vs, x, xs, rfl, .inr h1, (r1.mono E.cH).dps q1, al, by omega, fun i w hw hi => ?_⟩
  obtain ⟨d, hd, rd⟩ := r1.get hw
  rw [hi] at hd; cases hd
  exact k w C H (Ex.refl C) E rd
/-- the first of the least, by what they read as -/
def pyMin {α : Type} [Inhabited α] (enc : α → PyData) : List α → α
  | [] => default
  | x :: xs => xs.foldl (fun a y => if dataLt (enc y) (enc a) = true then y else a) x
def pyMax {α : Type} [Inhabited α] (enc : α → PyData) : List α → α
  | [] => default
  | x :: xs => xs.foldl (fun a y => if dataLt (enc a) (enc y) = true then y else a) x
def pySort {α : Type} (enc : α → PyData) (xs : List α) : List α := xs.mergeSort (dataLe false enc)
theorem fold_enc {α : Type} (enc : α → PyData) (f : PyData → PyData → Bool) : ∀ (xs : List α) (x : α), enc (xs.foldl (fun a y => if f (enc y) (enc a) = true then y else a) x) = (xs.map enc).foldl (fun a y => if f y a = true then y else a) (enc x)
  | [], _ => rfl
  | y :: xs, x => by
    rw [List.foldl_cons, List.map_cons, List.foldl_cons, fold_enc enc f xs]
    congr 1
    split <;> rfl
theorem pyMin_enc {α : Type} [Inhabited α] (enc : α → PyData) (x : α) (xs : List α) : enc (pyMin enc (x :: xs)) = minD (enc x) (xs.map enc) := fold_enc enc dataLt xs x
theorem pyMax_enc {α : Type} [Inhabited α] (enc : α → PyData) (x : α) (xs : List α) : enc (pyMax enc (x :: xs)) = maxD (enc x) (xs.map enc) := fold_enc enc (fun y a => dataLt a y) xs x
/-- alike, all of them -/
def AlkE {α : Type} (enc : α → PyData) : Prop := (∀ a b, alike (enc a) (enc b) = true) ∧ ∀ a, enc a ≠ .none
theorem AlkE.all {α : Type} {enc : α → PyData} (h : AlkE enc) (xs : List α) : AlikeAll (xs.map enc) := ⟨fun x hx y hy => by
  obtain ⟨a, _, rfl⟩ := List.mem_map.mp hx
  obtain ⟨b, _, rfl⟩ := List.mem_map.mp hy
  exact h.1 a b, fun x hx => by
  obtain ⟨a, _, rfl⟩ := List.mem_map.mp hx
  exact h.2 a⟩
variable {α : Type} [Inhabited α] {enc : α → PyData} {xs : List α}
theorem je_minL (hg : glB T.sc "min" = true) (hm : T.mg "min" = none) (ha : JE T e e0 e1 (.b (.list (xs.map enc)))) (al : AlkE enc) (hne : xs ≠ []) (sh : shN 64 (.list (xs.map enc)) = true := by simp [shN]) (hp : Plain e [] pos := by exact ⟨fun _ => rfl, fun _ => rfl⟩) : JE T (.Call (.Name "min" p) [e] [] pos) e0 e1 (.d (enc (pyMin enc xs))) := by
  cases xs with
  | nil => exact absurd rfl hne
  | cons x xs =>
    rw [pyMin_enc (enc := enc) x xs]
    exact je_bi1 (r := rBest minD) (fun X hX => cr_minD hX.calm (room_units hX)) hg hm (by decide +kernel) ha (best_list (al.all (x :: xs)) sh) hp
theorem je_maxL (hg : glB T.sc "max" = true) (hm : T.mg "max" = none) (ha : JE T e e0 e1 (.b (.list (xs.map enc)))) (al : AlkE enc) (hne : xs ≠ []) (sh : shN 64 (.list (xs.map enc)) = true := by simp [shN]) (hp : Plain e [] pos := by exact ⟨fun _ => rfl, fun _ => rfl⟩) : JE T (.Call (.Name "max" p) [e] [] pos) e0 e1 (.d (enc (pyMax enc xs))) := by
  cases xs with
  | nil => exact absurd rfl hne
  | cons x xs =>
    rw [pyMax_enc (enc := enc) x xs]
    exact je_bi1 (r := rBest maxD) (fun X hX => cr_maxD hX.calm (room_units hX)) hg hm (by decide +kernel) ha (best_list (al.all (x :: xs)) sh) hp
theorem je_minT (hg : glB T.sc "min" = true) (hm : T.mg "min" = none) (ha : JE T e e0 e1 (.b (.tuple (xs.map enc)))) (al : AlkE enc) (hne : xs ≠ []) (sh : shN 64 (.list (xs.map enc)) = true := by simp [shN]) (hp : Plain e [] pos := by exact ⟨fun _ => rfl, fun _ => rfl⟩) : JE T (.Call (.Name "min" p) [e] [] pos) e0 e1 (.d (enc (pyMin enc xs))) := by
  cases xs with
  | nil => exact absurd rfl hne
  | cons x xs =>
    rw [pyMin_enc (enc := enc) x xs]
    exact je_bi1 (r := rBest minD) (fun X hX => cr_minD hX.calm (room_units hX)) hg hm (by decide +kernel) ha (best_tup (al.all (x :: xs)) sh) hp
theorem je_maxT (hg : glB T.sc "max" = true) (hm : T.mg "max" = none) (ha : JE T e e0 e1 (.b (.tuple (xs.map enc)))) (al : AlkE enc) (hne : xs ≠ []) (sh : shN 64 (.list (xs.map enc)) = true := by simp [shN]) (hp : Plain e [] pos := by exact ⟨fun _ => rfl, fun _ => rfl⟩) : JE T (.Call (.Name "max" p) [e] [] pos) e0 e1 (.d (enc (pyMax enc xs))) := by
  cases xs with
  | nil => exact absurd rfl hne
  | cons x xs =>
    rw [pyMax_enc (enc := enc) x xs]
    exact je_bi1 (r := rBest maxD) (fun X hX => cr_maxD hX.calm (room_units hX)) hg hm (by decide +kernel) ha (best_tup (al.all (x :: xs)) sh) hp
omit [Inhabited α] in
theorem rps_pairs {vs : List V} {ds : List PyData} (r : Rps K C vs ds) : ∀ b ∈ vs.zip ds, Rp K C b.1 b.2 := by
  intro b hb
  obtain ⟨i, hi⟩ := List.mem_iff_getElem?.mp hb
  obtain ⟨v, d⟩ := b
  rw [List.getElem?_zip_eq_some] at hi
  obtain ⟨d', h1, h2⟩ := r.get hi.1
  rw [hi.2] at h1; cases h1; exact h2
omit [Inhabited α] in
theorem rps_of_pairs : ∀ {zs : List (V × PyData)}, (∀ b ∈ zs, Rp K C b.1 b.2) → Rps K C (zs.map (·.1)) (zs.map (·.2))
  | [], _ => .nil
  | z :: zs, h => .cons (h z (by simp)) (rps_of_pairs fun b hb => h b (by simp [hb]))
/-- what may be sorted -/
def SrtE {α : Type} (enc : α → PyData) : Prop := (∀ a, ∃ x r, enc a = .tuple (x :: r)) ∨ ∀ a, ∀ xs, enc a ≠ .tuple xs
omit [Inhabited α] in
theorem je_sortL (hg : glB T.sc "sorted" = true) (hm : T.mg "sorted" = none) (ha : JE T e e0 e1 (.b (.list (xs.map enc)))) (al : AlkE enc) (so : SrtE enc) (sh : shN 64 (.list (xs.map enc)) = true := by simp [shN]) (hp : Plain e [] pos := by exact ⟨fun _ => rfl, fun _ => rfl⟩) : JE T (.Call (.Name "sorted" p) [e] [] pos) e0 e1 (.o (.list ((pySort enc xs).map enc))) :=
  je_bi1 (r := rSortD) (fun X hX => cr_sortD (room_units hX)) hg hm (by decide +kernel) ha (fun R C H env σ v Q E hv k => by
    obtain ⟨p, vs, rfl, h1, l1, r1⟩ := rb_lst E hv
    obtain ⟨q1, q2⟩ := shN_all (n := 63) sh
    have aa := al.all xs
    refine ⟨p, vs, xs.map enc, rfl, SqL.of h1, (r1.mono E.cH).dps q1, aa.1, ?_, by omega, fun q hq => ?_⟩
    · rcases so with so | so
      · left; intro d hd
        obtain ⟨a, _, rfl⟩ := List.mem_map.mp hd
        exact so a
      · right; intro d hd
        obtain ⟨a, _, rfl⟩ := List.mem_map.mp hd
        exact ⟨al.2 a, so a⟩
    · have e1 : (vs.zip (xs.map enc)).map (·.2) = xs.map enc := List.map_snd_zip (by rw [r1.len]; exact Nat.le_refl _)
      have key : ((vs.zip (xs.map enc)).mergeSort (dataLe false (·.2))).map (·.2) = (pySort enc xs).map enc := by
        rw [sort_maps (r := dataLe false fun b : V × PyData => b.2) (s := dataLe false fun d => d) (fun b : V × PyData => b.2) (fun _ _ _ _ => rfl), e1]
        unfold pySort
        rw [sort_maps (r := dataLe false enc) (s := dataLe false fun d => d) enc (fun _ _ _ _ => rfl)]
      have rr := rps_of_pairs (zs := (vs.zip (xs.map enc)).mergeSort (dataLe false (·.2))) (K := T.K) (C := C) fun b hb => rps_pairs r1 b (List.mem_mergeSort.mp hb)
      rw [key] at rr
      obtain ⟨E', r⟩ := E.freshO hq (by rw [List.length_map, List.length_mergeSort, List.length_zip]; omega) rr
      exact k _ C _ (Ex.refl C) E' r) hp
end
end J
namespace J
open PySem L2 PySem.Spec PyProof.Rows PySem.W

/-! ### a def by its body -/
def startE (N : List Str) (ds : List PyData) : Env' := ds.map .d ++ List.replicate (N.length - ds.length) .u
def uE (N : List Str) : Env' := List.replicate N.length .u
/-- a named value -/
def Let {α : Type} {ρ : Sort _} (a : α) (k : α → ρ) : ρ := k a
section
variable {P : Program} {w : World} {K : PySem.W.Frag} {mg : Str → Option Value} {base : Heap}
abbrev tc (P : Program) (w : World) (K : PySem.W.Frag) (mg : Str → Option Value) (base : Heap) (N : List Str) (st : Stmt) (k : Nat) : TC := ⟨P, w, K, mg, base, N, defScope st, fun _ => true, k⟩
theorem ct_def {N : List Str} {qual : Str} {st : Stmt} {f : Addr} {cdv : Value} {A : Around} {outer : List Env} {s : Shared} {H : Hp} {E : XK} {k : Nat} (hd : (A.deeper (envOfC qual (defScope st) s.heap.objs.size f cdv)).handled = none) (hr : Room k (A.deeper (envOfC qual (defScope st) s.heap.objs.size f cdv))) :
    CT (cxOf CX0 P w K mg base N qual (defScope st) f cdv A outer s H E).nox (tc P w K mg base N st k) := ⟨rfl, rfl, rfl, rfl, rfl, rfl, rfl, rfl, hr, fun _ _ => rfl, rfl⟩
/-- all that is not in C -/
def frameOf (C H : Hp) : Hp := fun p => match C p with
  | none => H p
  | some _ => none
theorem frameOf_some {C H : Hp} {p : Addr} {o : HO} (h : frameOf C H p = some o) : C p = none ∧ H p = some o := by
  unfold frameOf at h
  cases q : C p with
  | none => rw [q] at h; exact ⟨rfl, h⟩
  | some u => rw [q] at h; cases h
theorem frameOf_of {C H : Hp} {p : Addr} {o : HO} (h : H p = some o) (c : C p = none) : frameOf C H p = some o := by
  unfold frameOf; rw [c]; exact h
theorem start_get {N : List Str} {vs : List V} {i : Nat} {v : V} (h : vs[i]? = some v) : (start N vs)[i]? = some (some v) := by
  unfold L2.start
  have hi := (List.getElem?_eq_some_iff.mp h).1
  rw [List.getElem?_append_left (by simpa using hi), List.getElem?_map, h]; rfl
theorem envC_start {N : List Str} {vs : List V} {ds : List PyData} {C H : Hp} (hl : vs.length ≤ N.length) (r : Rps K C vs ds) (e : Ex C H) : EnvC K (frameOf C H) C (startE N ds) (start N vs) H := by
  have hds := r.len
  have key : ∀ (i : Nat) (s : Sl), (startE N ds)[i]? = some s → s = .u ∨ ∃ d, s = .d d ∧ ds[i]? = some d := fun i s h => by
    unfold startE at h
    by_cases hi : i < ds.length
    · rw [List.getElem?_append_left (by simpa using hi), List.getElem?_map, List.getElem?_eq_getElem hi] at h
      cases h
      exact .inr ⟨_, rfl, List.getElem?_eq_getElem hi⟩
    · rw [List.getElem?_append_right (by simpa using hi), List.getElem?_replicate] at h
      split at h
      · cases h; exact .inl rfl
      · cases h
  refine ⟨?_, e, fun p o h => (frameOf_some h).2, fun p h => ?_, fun i x h => ?_, fun i q x h => ?_, fun i j q q' x y p h => ?_⟩
  · unfold startE L2.start; simp; omega
  · cases q : frameOf C H p with
    | none => exact absurd q h
    | some o => exact (frameOf_some q).1
  · rcases key i _ h with z | ⟨d, z, hd⟩
    · cases z
    · cases z
      obtain ⟨v, hv, rv⟩ := r.getD hd
      exact ⟨v, start_get hv, rv⟩
  · rcases key i _ h with z | ⟨d, z, hd⟩ <;> cases z
  · rcases key i _ h with z | ⟨d, z, hd⟩ <;> cases z
theorem rps_lens {K : PySem.W.Frag} {C : Hp} : ∀ {ds : List PyData} {vs : List V}, Rps K C vs ds → ∀ d ∈ ds, lenOk d
  | [], _, _ => fun d h => by cases h
  | d :: ds, _, .cons h r => fun e he => by
    rcases List.mem_cons.mp he with he | he
    · rw [he]; exact h.lenOk
    · exact rps_lens r e he
theorem fn_ok {A ρ : Type} {x qual : Str} {st : Stmt} {f : Addr} {fd : FuncData} {N ps : List Str} {k : Nat} (F : Fun K x qual st f fd) (S : FnScope N ps (defScope st)) {pre : A → Prop} {args : A → List PyData} (cr : ρ → PyData) (fr : A → ρ) (hlen : ∀ a, (args a).length = ps.length) (hN : ps.length ≤ N.length)
    (hbody : ∀ a, pre a → (∀ d ∈ args a, lenOk d) → JB (tc P w K mg base N st k) cr (fun _ => uE N) (defBody st) (startE N (args a)) (fr a)) : FnOk P w K mg base CX0 (k + 1) f fd ps (SpD K pre args (fun a => cr (fr a))) := by
  refine F.ok S (fun vs H Q E h => ?_) (fun cdv A' outer s H vs Q E hr h => ?_)
  · obtain ⟨a, C, _, _, r, _⟩ := h
    rw [r.len]; exact hlen a
  · obtain ⟨a, C, hp, e, r, kk⟩ := h
    refine ⟨_, hbody a hp (rps_lens r) _ (ct_def hr.hd hr), frameOf C H, C, envC_start (by rw [r.len, hlen a]; exact hN) r e, ?_⟩
    exact fun v σ' C' H' c E' r' => kk v C' H' c E'.cH (fun p o h1 h2 => ⟨E'.rH _ _ (frameOf_of h1 h2), E'.rc p (by rw [frameOf_of h1 h2]; simp)⟩) r'
/-- a def that hands back a new object -/
theorem fn_okF {A : Type} {x qual : Str} {st : Stmt} {f : Addr} {fd : FuncData} {N ps : List Str} {k : Nat} (F : Fun K x qual st f fd) (S : FnScope N ps (defScope st)) {pre : A → Prop} {args : A → List PyData} {res : A → PyData} (hlen : ∀ a, (args a).length = ps.length) (hN : ps.length ≤ N.length)
    (hbody : ∀ a, pre a → (∀ d ∈ args a, lenOk d) → ∃ e, JSs (tc P w K mg base N st k) (defBody st) (startE N (args a)) (.rt (.o (res a)) e)) : FnOk P w K mg base CX0 (k + 1) f fd ps (SpF K pre args res) := by
  refine F.ok S (fun vs H Q E h => ?_) (fun cdv A' outer s H vs Q E hr h => ?_)
  · obtain ⟨a, C, _, _, r, _⟩ := h
    rw [r.len]; exact hlen a
  · obtain ⟨a, C, hp, e, r, kk⟩ := h
    obtain ⟨er, hb⟩ := hbody a hp (rps_lens r)
    refine ⟨_, hb _ (ct_def hr.hd hr), frameOf C H, C, envC_start (by rw [r.len, hlen a]; exact hN) r e, ?_⟩
    rintro v σ' C' H' c E' ⟨p, rfl, cp, rp, no, ow⟩
    refine kk p C' H' c E'.cH (fun p o h1 h2 => ⟨E'.rH _ _ (frameOf_of h1 h2), E'.rc p (by rw [frameOf_of h1 h2]; simp)⟩) ?_ cp ow
    cases q : H p with
    | none => rfl
    | some o =>
      cases q2 : C p with
      | none => rw [frameOf_of q q2] at rp; cases rp
      | some u => rw [c p u q2] at cp; cases cp
/-- a def whose first argument is an object that it changes -/
def startO (N : List Str) (p : Addr) (d : PyData) (ds : List PyData) : Env' := .o (some p) d :: (ds.map .d ++ List.replicate (N.length - 1 - ds.length) .u)
def endO (N : List Str) (p : Addr) (d : PyData) : Env' := .o (some p) d :: List.replicate (N.length - 1) .u
theorem fn_okO {A ρ : Type} {x qual : Str} {st : Stmt} {f : Addr} {fd : FuncData} {N ps : List Str} {k : Nat} (F : Fun K x qual st f fd) (S : FnScope N ps (defScope st)) {pre : A → Prop} {d0 : A → PyData} {args : A → List PyData} (cr : ρ → PyData) (d1 : ρ → PyData) (fr : A → ρ) (hlen : ∀ a, (args a).length + 1 = ps.length) (hN : ps.length ≤ N.length)
    (hbody : ∀ a (p : Addr), pre a → (∀ d ∈ args a, lenOk d) → JB (tc P w K mg base N st k) cr (fun r => endO N p (d1 r)) (defBody st) (startO N p (d0 a) (args a)) (fr a)) : FnOk P w K mg base CX0 (k + 1) f fd ps (SpO K pre d0 (fun a => d1 (fr a)) args (fun a => cr (fr a))) := by
  refine F.ok S (fun vs H Q E h => ?_) (fun cdv A' outer s H vs Q E hr h => ?_)
  · obtain ⟨a, C, p, vs', rfl, _, _, _, _, r, _⟩ := h
    rw [List.length_cons, r.len]; exact hlen a
  · obtain ⟨a, C, p, vs', rfl, hp, e, cp, ow, r, kk⟩ := h
    have hl := hlen a
    have hr' := r.len
    let R : Hp := fun q => if q = p then none else frameOf C H q
    have rS : ∀ {q : Addr} {o : HO}, R q = some o → q ≠ p ∧ C q = none ∧ H q = some o := fun {q o} h => by
      by_cases hq : q = p
      · simp only [R, hq, if_true] at h; cases h
      · simp only [R, if_neg hq] at h
        exact ⟨hq, frameOf_some h⟩
    have rO : ∀ {q : Addr} {o : HO}, q ≠ p → H q = some o → C q = none → R q = some o := fun {q o} h1 h2 h3 => by
      simp only [R, if_neg h1]; exact frameOf_of h2 h3
    have key : ∀ (i : Nat) (s : Sl), (startO N p (d0 a) (args a))[i]? = some s → s = .u ∨ (i = 0 ∧ s = .o (some p) (d0 a)) ∨ ∃ j d, i = j + 1 ∧ s = .d d ∧ (args a)[j]? = some d := fun i s h => by
      cases i with
      | zero => exact .inr (.inl ⟨rfl, by simpa [startO] using h.symm⟩)
      | succ j =>
        simp only [startO, List.getElem?_cons_succ] at h
        by_cases hi : j < (args a).length
        · rw [List.getElem?_append_left (by simpa using hi), List.getElem?_map, List.getElem?_eq_getElem hi] at h
          cases h
          exact .inr (.inr ⟨j, _, rfl, rfl, List.getElem?_eq_getElem hi⟩)
        · rw [List.getElem?_append_right (by simpa using hi), List.getElem?_replicate] at h
          split at h
          · cases h; exact .inl rfl
          · cases h
    have E0 : EnvC K R C (startO N p (d0 a) (args a)) (start N (.ref p :: vs')) H := by
      refine ⟨?_, e, fun q o h => (rS h).2.2, fun q h => ?_, fun i x h => ?_, fun i q x h => ?_, fun i j q q' x y t h1 h2 s1 s2 => ?_⟩
      · unfold startO L2.start; simp; omega
      · cases q' : R q with
        | none => exact absurd q' h
        | some o => exact (rS q').2.1
      · rcases key i _ h with z | ⟨_, z⟩ | ⟨j, d, rfl, z, hd⟩
        · cases z
        · cases z
        · cases z
          obtain ⟨v, hv, rv⟩ := r.getD hd
          exact ⟨v, start_get (by simpa using hv), rv⟩
      · rcases key i _ h with z | ⟨hi, z⟩ | ⟨j, d, rfl, z, hd⟩
        · cases z
        · cases z; subst hi
          exact ⟨p, start_get rfl, fun p' hp' => by cases hp'; rfl, cp, by simp [R], ow⟩
        · cases z
      · rcases key i _ h1 with z | ⟨hi, z⟩ | ⟨_, d, _, z, _⟩
        · cases z
        · rcases key j _ h2 with z | ⟨hj, z⟩ | ⟨_, d, _, z, _⟩
          · cases z
          · rw [hi, hj]
          · cases z
        · cases z
    refine ⟨_, hbody a p hp (rps_lens r) _ (ct_def hr.hd hr), R, C, E0, ?_⟩
    intro v σ' C' H' c E' r'
    obtain ⟨p', _, hq, cp', _, ow'⟩ := E'.own 0 (some p) _ rfl
    have := hq p rfl
    subst this
    exact kk v C' H' c E'.cH (fun q o h0 h1 h2 => ⟨E'.rH _ _ (rO h0 h1 h2), E'.rc q (by rw [rO h0 h1 h2]; simp)⟩) cp' ow' r'
end

/-! ### blocks that go on, by what they carry -/
section
variable {T : TC} {a b e : Expr} {es : List Expr} {env e0 e1 e2 e3 : Env'} {pos p : Pos} {x y z : PyData} {ds : List PyData} {st : Stmt} {rest body A B : List Stmt} {oc : Oc}
def JN (T : TC) {L : Type} (E : L → Env') (sts : List Stmt) (env : Env') (l : L) : Prop := ∃ e', JSs T sts env (.nx e') ∧ Le (E l) e'
section
variable {L : Type} {E : L → Env'}
theorem jn_nil {l : L} (h : Le (E l) env) : JN T E [] env l := ⟨_, jss_nil, h⟩
theorem jn_cons {l : L} (h : JS T st e0 (.nx e1)) (h' : JN T E rest e1 l) : JN T E (st :: rest) e0 l := by
  obtain ⟨e', h1, h2⟩ := h'
  exact ⟨e', jss_cons h h1, h2⟩
theorem jn_let {α : Type} {F : α → Env'} {v : α} {k : α → L} (h : ∀ x, x = v → JN T E rest (F x) (k x)) : JN T E rest (F v) (Let v k) := h v rfl
theorem jn_le {l : L} (h : Le e0 env) (h' : JN T E rest e0 l) : JN T E rest env l := by
  obtain ⟨e', h1, h2⟩ := h'
  exact ⟨e', js_le h h1, h2⟩
theorem jn_frz {l : L} {i : Nat} {k0 : Option Addr} (he : env[i]? = some (.o k0 x)) (h : JN T E rest (env.set i (.d x)) l) : JN T E rest env l := by
  obtain ⟨e', h1, h2⟩ := h
  exact ⟨e', jss_frz he h1, h2⟩
theorem jn_len {l : L} {i : Nat} (he : env[i]? = some (.d x)) (h : lenOk x → JN T E rest env l) : JN T E rest env l := by
  by_cases q : lenOk x
  · exact h q
  · exact ⟨E l, jss_len he fun h => absurd h q, Le.refl _⟩
/-- an if whose ways meet -/
theorem js_ifN {c : Bool} {l l' : L} (ht : JT T e e0 e1 c) (ha : c = true → JN T E A e1 l) (hb : c = false → JN T E B e1 l') : JS T (.If e A B pos) e0 (.nx (E (if c = true then l else l'))) := js_ifn E ht ha hb
theorem js_forN {α : Type} {enc : α → PyData} {tg iter : Expr} {xs : List α} (E : L → Env') (step : L → α → L) (l0 : L) (hi : JI T tg iter e0 e1 (xs.map enc)) (h0 : Le (E l0) e1)
    (turn : ∀ i x l, xs[i]? = some x → l = (xs.take i).foldl step l0 → ∃ js E1, JG T tg js (enc x) (E l) E1 ∧ JN T E body E1 (step l x))
    (hs : ∀ (v : Env) x, foldedSetIterable iter v x = pure x := by intro _ _; rfl) : JS T (.For tg iter body [] pos) e0 (.nx (E (xs.foldl step l0))) := js_for E step l0 hi h0 (fun i x l hx hl => by
  obtain ⟨js, E1, h1, e', h2, h3⟩ := turn i x l hx hl
  exact ⟨js, E1, _, h1, h2, LoopGo.nx h3⟩) hs
theorem js_whileN {test : Expr} (E : L → Env') (c : L → Bool) (step : L → L) (n : Nat) (l0 : L) (h0 : Le (E l0) env) (ends : whileEnds (ρ := PyData) c (fun l => .inl (step l)) n l0)
    (ht : ∀ l, Reach (ρ := PyData) c (fun l => .inl (step l)) l0 l → JT T test (E l) (E l) (c l))
    (turn : ∀ l, Reach (ρ := PyData) c (fun l => .inl (step l)) l0 l → c l = true → JN T E body (E l) (step l)) : JS T (.While test body [] pos) env (.nx (E (whileL c step n l0))) := js_while E c step n l0 h0 ends ht fun l hr hc => by
  obtain ⟨e', h2, h3⟩ := turn l hr hc
  exact ⟨_, h2, .inl ⟨_, rfl, _, rfl, h3⟩⟩
end
section
variable {ρ : Type} {cr : ρ → PyData} {er : ρ → Env'}
theorem jb_let {α : Type} {F : α → Env'} {v : α} {k : α → ρ} (h : ∀ x, x = v → JB T cr er rest (F x) (k x)) : JB T cr er rest (F v) (Let v k) := h v rfl
theorem jb_frz {r : ρ} {i : Nat} {k0 : Option Addr} (he : env[i]? = some (.o k0 x)) (h : JB T cr er rest (env.set i (.d x)) r) : JB T cr er rest env r := jss_frz he h
theorem jb_len {r : ρ} {i : Nat} (he : env[i]? = some (.d x)) (h : lenOk x → JB T cr er rest env r) : JB T cr er rest env r := jss_len he h
variable {L : Type} {E : L → Env'}
theorem jm_let {α : Type} {F : α → Env'} {v : α} {k : α → L ⊕ ρ} (h : ∀ x, x = v → JM T E cr er rest (F x) (k x)) : JM T E cr er rest (F v) (Let v k) := h v rfl
theorem jm_frz {o : L ⊕ ρ} {i : Nat} {k0 : Option Addr} (he : env[i]? = some (.o k0 x)) (h : JM T E cr er rest (env.set i (.d x)) o) : JM T E cr er rest env o := by
  obtain ⟨oc, h1, h2⟩ := h
  exact ⟨oc, jss_frz he h1, h2⟩
theorem jm_len {o : L ⊕ ρ} {i : Nat} (he : env[i]? = some (.d x)) (h : lenOk x → JM T E cr er rest env o) : JM T E cr er rest env o := by
  by_cases q : lenOk x
  · exact h q
  · cases o with
    | inl l => exact ⟨.nx (E l), jss_len he fun h => absurd h q, .inl ⟨l, rfl, _, rfl, Le.refl _⟩⟩
    | inr r => exact ⟨.rt (.d (cr r)) (er r), jss_len he fun h => absurd h q, .inr ⟨r, rfl, rfl⟩⟩
theorem js_forM {α : Type} {enc : α → PyData} {tg iter : Expr} {xs : List α} (E : L → Env') (step : L → α → L ⊕ ρ) (l0 : L) (hi : JI T tg iter e0 e1 (xs.map enc)) (h0 : Le (E l0) e1)
    (turn : ∀ i x l, xs[i]? = some x → forR step l0 (xs.take i) = .inl l → ∃ js E1, JG T tg js (enc x) (E l) E1 ∧ JM T E cr er body E1 (step l x))
    (hs : ∀ (v : Env) x, foldedSetIterable iter v x = pure x := by intro _ _; rfl) : JS T (.For tg iter body [] pos) e0 (ocR E cr er (forR step l0 xs)) := js_forR cr er E step l0 hi h0 (fun i x l hx hl => by
  obtain ⟨js, E1, h1, oc, h2, h3⟩ := turn i x l hx hl
  refine ⟨js, E1, oc, h1, h2, ?_⟩
  rcases h3 with ⟨l', h4, e', h5, h6⟩ | h3
  · subst h5; exact .inl ⟨l', h4, LoopGo.nx h6⟩
  · exact .inr h3) hs
end
theorem le_nil : Le [] [] := Le.refl _
theorem le_r {s : Sl} {a b : Env'} (h : Le a b) : Le (s :: a) (s :: b) := ⟨by simp [h.1], fun i t e => by
  cases i with
  | zero => exact .inr e
  | succ i => exact h.2 i t (by simpa using e)⟩
theorem le_u {s : Sl} {a b : Env'} (h : Le a b) : Le (.u :: a) (s :: b) := ⟨by simp [h.1], fun i t e => by
  cases i with
  | zero => simp at e; exact .inl e.symm
  | succ i => exact h.2 i t (by simpa using e)⟩
theorem js_frz {i : Nat} {k0 : Option Addr} (h : JS T st e0 (.nx e1)) (he : e1[i]? = some (.o k0 x)) : JS T st e0 (.nx (e1.set i (.d x))) := fun X hX => (h X hX).wk fun D σ H ⟨R, C, E, k⟩ => ⟨R, C, E, fun σ' C' H' c E' => by
  obtain ⟨C2, c2, E2⟩ := E'.frz he
  exact k σ' C2 H' (c.trans c2) E2⟩
end
end J
namespace J
open PySem L2 PySem.Spec PyProof.Rows PySem.W

/-! ### the kinds of data -/
@[reducible] def eN : Unit → PyData := fun _ => .none
@[reducible] def eL {α : Type} (f : α → PyData) : List α → PyData := fun xs => .list (xs.map f)
@[reducible] def eT {α : Type} (f : α → PyData) : List α → PyData := fun xs => .tuple (xs.map f)
@[reducible] def eP1 {α : Type} (f : α → PyData) : α → PyData := fun a => .tuple [f a]
@[reducible] def eP2 {α β : Type} (f : α → PyData) (g : β → PyData) : α × β → PyData := fun p => .tuple [f p.1, g p.2]
@[reducible] def eP3 {α β γ : Type} (f : α → PyData) (g : β → PyData) (h : γ → PyData) : α × β × γ → PyData := fun p => .tuple [f p.1, g p.2.1, h p.2.2]
@[reducible] def eP4 {α β γ δ : Type} (f : α → PyData) (g : β → PyData) (h : γ → PyData) (i : δ → PyData) : α × β × γ × δ → PyData := fun p => .tuple [f p.1, g p.2.1, h p.2.2.1, i p.2.2.2]
@[reducible] def eP5 {α β γ δ ε : Type} (f : α → PyData) (g : β → PyData) (h : γ → PyData) (i : δ → PyData) (j : ε → PyData) : α × β × γ × δ × ε → PyData := fun p => .tuple [f p.1, g p.2.1, h p.2.2.1, i p.2.2.2.1, j p.2.2.2.2]
@[reducible] def eP6 {α β γ δ ε ζ : Type} (f : α → PyData) (g : β → PyData) (h : γ → PyData) (i : δ → PyData) (j : ε → PyData) (k : ζ → PyData) : α × β × γ × δ × ε × ζ → PyData := fun p => .tuple [f p.1, g p.2.1, h p.2.2.1, i p.2.2.2.1, j p.2.2.2.2.1, k p.2.2.2.2.2]
@[reducible] def eO {α : Type} (f : α → PyData) : Option α → PyData := fun o => match o with
  | none => .none
  | some a => f a
section
variable {α β γ δ ε ζ : Type} {f : α → PyData} {g : β → PyData} {h : γ → PyData} {i : δ → PyData} {j : ε → PyData} {k : ζ → PyData} {n : Nat}
/-- no dict, not deep -/
def ShE (n : Nat) {α : Type} (f : α → PyData) : Prop := ∀ a, shN n (f a) = true
theorem sh_int : ShE n PyData.int := fun a => by cases n <;> rfl
theorem sh_bool : ShE n PyData.bool := fun a => by cases n <;> rfl
theorem sh_str : ShE n PyData.str := fun a => by cases n <;> rfl
theorem sh_n : ShE n eN := fun a => by cases n <;> rfl
theorem sh_l (F : ShE n f) : ShE (n + 1) (eL f) := fun xs => by
  show (xs.map f).all (shN n) = true
  rw [List.all_map, List.all_eq_true]
  exact fun x _ => F x
theorem sh_t (F : ShE n f) : ShE (n + 1) (eT f) := fun xs => by
  show (xs.map f).all (shN n) = true
  rw [List.all_map, List.all_eq_true]
  exact fun x _ => F x
theorem sh_o (F : ShE n f) : ShE n (eO f) := fun o => by
  cases o with
  | none => cases n <;> rfl
  | some a => exact F a
theorem sh_p1 (F : ShE n f) : ShE (n + 1) (eP1 f) := fun p => by simp [shN, F p]
theorem sh_p2 (F : ShE n f) (G : ShE n g) : ShE (n + 1) (eP2 f g) := fun p => by simp [shN, F p.1, G p.2]
theorem sh_p3 (F : ShE n f) (G : ShE n g) (H : ShE n h) : ShE (n + 1) (eP3 f g h) := fun p => by simp [shN, F p.1, G p.2.1, H p.2.2]
theorem sh_p4 (F : ShE n f) (G : ShE n g) (H : ShE n h) (I : ShE n i) : ShE (n + 1) (eP4 f g h i) := fun p => by simp [shN, F p.1, G p.2.1, H p.2.2.1, I p.2.2.2]
theorem sh_p5 (F : ShE n f) (G : ShE n g) (H : ShE n h) (I : ShE n i) (J : ShE n j) : ShE (n + 1) (eP5 f g h i j) := fun p => by simp [shN, F p.1, G p.2.1, H p.2.2.1, I p.2.2.2.1, J p.2.2.2.2]
theorem sh_p6 (F : ShE n f) (G : ShE n g) (H : ShE n h) (I : ShE n i) (J : ShE n j) (K : ShE n k) : ShE (n + 1) (eP6 f g h i j k) := fun p => by simp [shN, F p.1, G p.2.1, H p.2.2.1, I p.2.2.2.1, J p.2.2.2.2.1, K p.2.2.2.2.2]
/-- == says whether the things are the same -/
def EqE {α : Type} [DecidableEq α] (f : α → PyData) : Prop := ∀ a b, PyData.eqv (f a) (f b) = decide (a = b)
theorem eqe_int : EqE PyData.int := fun a b => by simp only [PyData.eqv]; exact Bool.beq_eq_decide_eq a b
theorem eqe_bool : EqE PyData.bool := fun a b => by simp only [PyData.eqv]; exact Bool.beq_eq_decide_eq a b
theorem eqe_str : EqE PyData.str := fun a b => by simp only [PyData.eqv]; exact Bool.beq_eq_decide_eq a b
theorem eqe_n : EqE eN := fun a b => rfl
variable [DecidableEq α] [DecidableEq β] [DecidableEq γ] [DecidableEq δ] [DecidableEq ε] [DecidableEq ζ]
theorem eqvAll_map (F : EqE f) : ∀ xs ys : List α, PyData.eqvAll (xs.map f) (ys.map f) = decide (xs = ys)
  | [], [] => by simp [PyData.eqvAll]
  | [], _ :: _ => by simp [PyData.eqvAll]
  | _ :: _, [] => by simp [PyData.eqvAll]
  | x :: xs, y :: ys => by
    rw [List.map_cons, List.map_cons, PyData.eqvAll, F x y, eqvAll_map F xs ys, Bool.eq_iff_iff]
    simp
theorem eqe_l (F : EqE f) : EqE (eL f) := fun xs ys => by simp only [PyData.eqv]; exact eqvAll_map F xs ys
theorem eqe_t (F : EqE f) : EqE (eT f) := fun xs ys => by simp only [PyData.eqv]; exact eqvAll_map F xs ys
theorem eqe_p1 (F : EqE f) : EqE (eP1 f) := fun p q => by
  rw [Bool.eq_iff_iff]; simp [PyData.eqv, PyData.eqvAll, F _ _]
theorem eqe_p2 (F : EqE f) (G : EqE g) : EqE (eP2 f g) := fun p q => by
  rw [Bool.eq_iff_iff]; simp [PyData.eqv, PyData.eqvAll, F _ _, G _ _, Prod.ext_iff]
theorem eqe_p3 (F : EqE f) (G : EqE g) (H : EqE h) : EqE (eP3 f g h) := fun p q => by
  rw [Bool.eq_iff_iff]; simp [PyData.eqv, PyData.eqvAll, F _ _, G _ _, H _ _, Prod.ext_iff]
theorem eqe_p4 (F : EqE f) (G : EqE g) (H : EqE h) (I : EqE i) : EqE (eP4 f g h i) := fun p q => by
  rw [Bool.eq_iff_iff]; simp [PyData.eqv, PyData.eqvAll, F _ _, G _ _, H _ _, I _ _, Prod.ext_iff]
theorem eqe_p5 (F : EqE f) (G : EqE g) (H : EqE h) (I : EqE i) (J : EqE j) : EqE (eP5 f g h i j) := fun p q => by
  rw [Bool.eq_iff_iff]; simp [PyData.eqv, PyData.eqvAll, F _ _, G _ _, H _ _, I _ _, J _ _, Prod.ext_iff]
theorem eqe_p6 (F : EqE f) (G : EqE g) (H : EqE h) (I : EqE i) (J : EqE j) (K : EqE k) : EqE (eP6 f g h i j k) := fun p q => by
  rw [Bool.eq_iff_iff]; simp [PyData.eqv, PyData.eqvAll, F _ _, G _ _, H _ _, I _ _, J _ _, K _ _, Prod.ext_iff]
/-- .. where None is a thing of its own -/
theorem eqe_o (F : EqE f) (hn : ∀ a, PyData.eqv .none (f a) = false ∧ PyData.eqv (f a) .none = false) : EqE (eO f) := fun p q => by
  cases p with
  | none => cases q with
    | none => rfl
    | some b => simpa using (hn b).1
  | some a => cases q with
    | none => simpa using (hn a).2
    | some b => simpa using F a b
omit [DecidableEq α] [DecidableEq β] [DecidableEq γ] [DecidableEq δ] [DecidableEq ε] [DecidableEq ζ]
/-- comparable with one another -/
theorem alk_int : AlkE PyData.int := ⟨fun a b => rfl, fun a => by simp⟩
theorem alk_bool : AlkE PyData.bool := ⟨fun a b => rfl, fun a => by simp⟩
theorem alk_str : AlkE PyData.str := ⟨fun a b => rfl, fun a => by simp⟩
theorem alk_all (F : AlkE f) : ∀ xs ys : List α, alikeAll (xs.map f) (ys.map f) = true
  | [], [] => rfl
  | [], _ :: _ => rfl
  | _ :: _, [] => rfl
  | x :: xs, y :: ys => by
    rw [List.map_cons, List.map_cons, alikeAll, F.1 x y, alk_all F xs ys]; rfl
theorem alk_l (F : AlkE f) : AlkE (eL f) := ⟨fun xs ys => by rw [alike]; exact alk_all F xs ys, fun a => by simp⟩
theorem alk_t (F : AlkE f) : AlkE (eT f) := ⟨fun xs ys => by rw [alike]; exact alk_all F xs ys, fun a => by simp⟩
theorem alk_p1 (F : AlkE f) : AlkE (eP1 f) := ⟨fun p q => by simp [alike, alikeAll, F.1], fun a => by simp⟩
theorem alk_p2 (F : AlkE f) (G : AlkE g) : AlkE (eP2 f g) := ⟨fun p q => by simp [alike, alikeAll, F.1, G.1], fun a => by simp⟩
theorem alk_p3 (F : AlkE f) (G : AlkE g) (H : AlkE h) : AlkE (eP3 f g h) := ⟨fun p q => by simp [alike, alikeAll, F.1, G.1, H.1], fun a => by simp⟩
theorem alk_p4 (F : AlkE f) (G : AlkE g) (H : AlkE h) (I : AlkE i) : AlkE (eP4 f g h i) := ⟨fun p q => by simp [alike, alikeAll, F.1, G.1, H.1, I.1], fun a => by simp⟩
theorem alk_p5 (F : AlkE f) (G : AlkE g) (H : AlkE h) (I : AlkE i) (J : AlkE j) : AlkE (eP5 f g h i j) := ⟨fun p q => by simp [alike, alikeAll, F.1, G.1, H.1, I.1, J.1], fun a => by simp⟩
theorem srt_p1 : SrtE (eP1 f) := .inl fun p => ⟨_, _, rfl⟩
theorem srt_p2 : SrtE (eP2 f g) := .inl fun p => ⟨_, _, rfl⟩
theorem srt_p3 : SrtE (eP3 f g h) := .inl fun p => ⟨_, _, rfl⟩
theorem srt_p4 : SrtE (eP4 f g h i) := .inl fun p => ⟨_, _, rfl⟩
theorem srt_int : SrtE PyData.int := .inr fun p xs => by simp
theorem srt_str : SrtE PyData.str := .inr fun p xs => by simp
theorem srt_l : SrtE (eL f) := .inr fun p xs => by simp
/-- flat things -/
def FlE {α : Type} (f : α → PyData) : Prop := ∀ a, flatD (f a) = true
theorem fl_int : FlE PyData.int := fun _ => rfl
theorem fl_bool : FlE PyData.bool := fun _ => rfl
theorem fl_str : FlE PyData.str := fun _ => rfl
theorem fl_o (F : FlE f) : FlE (eO f) := fun o => by
  cases o with
  | none => rfl
  | some a => exact F a
end

/-! ### the rules, for data of a kind -/
/-- the item at a place, as Python counts -/
def gI {α : Type} [Inhabited α] (xs : List α) (i : Int) : α := (atI xs i).getD default
def inR (n : Nat) (i : Int) : Prop := -(n : Int) ≤ i ∧ i < n
theorem atI_inR {α : Type} {xs : List α} {i : Int} (h : inR xs.length i) : ∃ x, atI xs i = some x := by
  unfold atI ixN
  obtain ⟨h1, h2⟩ := h
  by_cases h0 : 0 ≤ i
  · rw [if_pos h0, if_pos (by omega)]
    exact ⟨_, List.getElem?_eq_getElem (show i.toNat < xs.length by omega)⟩
  · rw [if_neg h0, if_pos h1]
    exact ⟨_, List.getElem?_eq_getElem (show (i + xs.length).toNat < xs.length by omega)⟩
theorem atI_map {α β : Type} (f : α → β) (xs : List α) (i : Int) : atI (xs.map f) i = (atI xs i).map f := by
  unfold atI
  rw [List.length_map]
  cases ixN xs.length i with
  | none => rfl
  | some j => simp
theorem gI_at {α : Type} [Inhabited α] {f : α → PyData} {xs : List α} {i : Int} (h : inR xs.length i) : atI (xs.map f) i = some (f (gI xs i)) := by
  obtain ⟨x, hx⟩ := atI_inR h
  rw [atI_map, hx]
  unfold gI
  rw [hx]; rfl
/-- a list with the item at a place set -/
def setI {α : Type} (xs : List α) (i : Int) (x : α) : List α := match ixN xs.length i with
  | some m => xs.set m x
  | none => xs
theorem setI_ix {α : Type} {xs : List α} {i : Int} (h : inR xs.length i) : ∃ m, ixN xs.length i = some m := by
  unfold ixN
  obtain ⟨h1, h2⟩ := h
  by_cases h0 : 0 ≤ i
  · rw [if_pos h0, if_pos (by omega)]; exact ⟨_, rfl⟩
  · rw [if_neg h0, if_pos h1]; exact ⟨_, rfl⟩
/-- the sign at a place -/
def gS (s : Str) (i : Int) : Str := ⟨#[gI s.cps.toList i]⟩
/-- (0, x0), (1, x1), .. -/
def enumL {α : Type} (xs : List α) : List (Int × α) := xs.zipIdx.map fun q => ((q.2 : Int), q.1)
theorem zipIdx_map' {α β : Type} (f : α → β) : ∀ (xs : List α) (n : Nat), (xs.map f).zipIdx n = (xs.zipIdx n).map fun q => (f q.1, q.2)
  | [], _ => rfl
  | x :: xs, n => by simp only [List.map_cons, List.zipIdx_cons, zipIdx_map' f xs (n + 1)]
theorem enumD_map {α : Type} (f : α → PyData) (xs : List α) : enumD (xs.map f) = (enumL xs).map (eP2 PyData.int f) := by
  unfold enumD enumL
  rw [zipIdx_map', List.map_map, List.map_map]; rfl
theorem zipD_map {α β : Type} (f : α → PyData) (g : β → PyData) (xs : List α) (ys : List β) : zipD (xs.map f) (ys.map g) = (xs.zip ys).map (eP2 f g) := by
  unfold zipD
  rw [List.zip_map, List.map_map]; rfl
section
variable {T : TC} {a b e : Expr} {es : List Expr} {env e0 e1 e2 e3 : Env'} {pos p : Pos} {kk : Nat} {tpos : Pos} {elts : List Expr} {α β : Type} {enc : α → PyData} {dec : β → PyData} {xs ys : List α} {zs : List β}
theorem je_lenL' (hg : glB T.sc "len" = true) (hm : T.mg "len" = none) (ha : JE T e e0 e1 (.b (.list (xs.map enc)))) (hp : Plain e [] pos := by exact ⟨fun _ => rfl, fun _ => rfl⟩) : JE T (.Call (.Name "len" p) [e] [] pos) e0 e1 (.d (.int xs.length)) := by
  have := je_lenL (pos := pos) (p := p) hg hm ha hp
  rw [List.length_map] at this; exact this
theorem je_lenT' (hg : glB T.sc "len" = true) (hm : T.mg "len" = none) (ha : JE T e e0 e1 (.b (.tuple (xs.map enc)))) (hp : Plain e [] pos := by exact ⟨fun _ => rfl, fun _ => rfl⟩) : JE T (.Call (.Name "len" p) [e] [] pos) e0 e1 (.d (.int xs.length)) := by
  have := je_lenT (pos := pos) (p := p) hg hm ha hp
  rw [List.length_map] at this; exact this
theorem je_ixL' [Inhabited α] {i : Int} (h : JE2 T a b e0 e2 (.list (xs.map enc)) (.int i)) (hr : inR xs.length i) (hs : PlainIx b := by intro _ _; rfl) : JE T (.Subscript a b pos) e0 e2 (.d (enc (gI xs i))) := je_ixL h (gI_at hr) hs
theorem je_ixT' [Inhabited α] {i : Int} (h : JE2 T a b e0 e2 (.tuple (xs.map enc)) (.int i)) (hr : inR xs.length i) (hs : PlainIx b := by intro _ _; rfl) : JE T (.Subscript a b pos) e0 e2 (.d (enc (gI xs i))) := je_ixT h (gI_at hr) hs
theorem je_ixS' {s : Str} {i : Int} (h : JE2 T a b e0 e2 (.str s) (.int i)) (hr : inR s.length i) (hs : PlainIx b := by intro _ _; rfl) : JE T (.Subscript a b pos) e0 e2 (.d (.str (gS s i))) := by
  have hr' : inR s.cps.toList.length i := by simpa [Str.length] using hr
  obtain ⟨x, hx⟩ := atI_inR hr'
  have := je_ixS (pos := pos) h hx hs
  have e : gS s i = ⟨#[x]⟩ := by unfold gS gI; rw [hx]; rfl
  rw [e]; exact this
theorem je_slL' {lo hi : Option Int} {l u : Option Expr} {p2 : Pos} (h : JE T a e0 e1 (.d (.list (xs.map enc)))) (hl : JO T l e1 e2 lo) (hu : JO T u e2 e3 hi) : JE T (.Subscript a (.Slice l u none p2) pos) e0 e3 (.o (.list ((cutL xs lo hi).map enc))) := by
  rw [← cutL_map]; exact je_slL h hl hu
theorem je_slLb' {lo hi : Option Int} {l u : Option Expr} {p2 : Pos} (h : JE T a e0 e1 (.b (.list (xs.map enc)))) (hl : JO T l e1 e1 lo) (hu : JO T u e1 e1 hi) : JE T (.Subscript a (.Slice l u none p2) pos) e0 e1 (.o (.list ((cutL xs lo hi).map enc))) := by
  rw [← cutL_map]; exact je_slLb h hl hu
theorem je_slT' {lo hi : Option Int} {l u : Option Expr} {p2 : Pos} (h : JE T a e0 e1 (.d (.tuple (xs.map enc)))) (hl : JO T l e1 e2 lo) (hu : JO T u e2 e3 hi) : JE T (.Subscript a (.Slice l u none p2) pos) e0 e3 (.d (.tuple ((cutL xs lo hi).map enc))) := by
  rw [← cutL_map]; exact je_slT h hl hu
theorem je_catL' (h : JE2 T a b e0 e2 (.list (xs.map enc)) (.list (ys.map enc))) (hl : xs.length + ys.length ≤ LN) : JE T (.BinOp a .Add b pos) e0 e2 (.o (.list ((xs ++ ys).map enc))) := by
  rw [List.map_append]; exact je_catL h (by simpa using hl)
theorem je_catT' (h : JE2 T a b e0 e2 (.tuple (xs.map enc)) (.tuple (ys.map enc))) (hl : xs.length + ys.length ≤ LN) : JE T (.BinOp a .Add b pos) e0 e2 (.d (.tuple ((xs ++ ys).map enc))) := by
  rw [List.map_append]; exact je_catT h (by simpa using hl)
theorem je_append' {nm : Str} {apos np : Pos} (i : Nat) {x : α} {k0 : Option Addr} (h : JE T e e0 e1 (.d (enc x))) (hl : xs.length < LN) (hN : T.N[i]? = some nm := by rfl) (hv : visB T.sc nm = true := by rfl) (h0 : ∃ xs0, e0[i]? = some (.o k0 (.list xs0)) := by exact ⟨_, rfl⟩) (he : e1[i]? = some (.o k0 (.list (xs.map enc))) := by rfl)
    (hp : PlainM (.Name nm np) "append" apos e [] pos := by exact ⟨fun _ => rfl, fun _ => rfl, rfl, fun _ => rfl, fun _ => rfl⟩)
    (hd : (nm == ("__debug__" : Str)) = false := by decide) (hcd : (nm == ("__classdict__" : Str)) = false := by decide) :
    JE T (.Call (.Attribute (.Name nm np) "append" apos) [e] [] pos) e0 (e1.set i (.o k0 (.list ((xs ++ [x]).map enc)))) (.d .none) := by
  rw [List.map_append]; exact je_append i hN hv h h0 he (by simpa using hl) hp hd hcd
theorem js_setIx' {nm : Str} {np tp : Pos} {ix : Expr} (j : Nat) {k0 : Option Addr} {i : Int} {x : α} (h : JE T e e0 e1 (.d (enc x))) (hi : JE T ix e1 e2 (.d (.int i))) (hr : inR xs.length i) (hN : T.N[j]? = some nm := by rfl) (hv : visB T.sc nm = true := by rfl) (h1 : ∃ xs0, e1[j]? = some (.o k0 (.list xs0)) := by exact ⟨_, rfl⟩) (h2 : e2[j]? = some (.o k0 (.list (xs.map enc))) := by rfl)
    (hs : ∀ (v : Env) l, swapsWithSole [.Subscript (.Name nm np) ix tp] e l v = pure false := by intro _ _; rfl) (hw : ∀ v : Env, swappedStores [.Subscript (.Name nm np) ix tp] e v = pure none := by intro _; rfl) (ha1 : ∀ v : Env, (assignEach [.Subscript (.Name nm np) ix tp] v).map (·.2) = [assign (.Subscript (.Name nm np) ix tp) v] := by intro _; rfl)
    (ha : ∀ (env : Env) v, assign (.Subscript (.Name nm np) ix tp) env v = (do
      let ov ← holding [v] (eval (.Name nm np) env)
      let iv ← holding [v, ov] (eval ix env)
      standAt tp
      holding [v, ov, iv] (setItem ov iv v)
      release [v, ov, iv] []) := by intro _ _; rfl)
    (hd : (nm == ("__debug__" : Str)) = false := by decide) (hcd : (nm == ("__classdict__" : Str)) = false := by decide) :
    JS T (.Assign [.Subscript (.Name nm np) ix tp] e pos) e0 (.nx (e2.set j (.o k0 (.list ((setI xs i x).map enc))))) := by
  obtain ⟨m, hm⟩ := setI_ix hr
  have e : (setI xs i x).map enc = (xs.map enc).set m (enc x) := by unfold setI; rw [hm]; exact List.map_set
  rw [e]
  exact js_setIx j hN hv h hi h1 h2 (by rw [List.length_map]; exact hm) hs hw ha1 ha hd hcd
theorem cj_eqE [DecidableEq α] {x y : α} (h : JE2 T a b e0 e2 (enc x) (enc y)) (sh : ShE 64 enc) (eq : EqE enc) : CJ T .Eq a b e0 e2 (decide (x = y)) := by
  have := cj_eqD h (sh x) (sh y)
  rw [eq x y] at this; exact this
theorem cj_neE [DecidableEq α] {x y : α} (h : JE2 T a b e0 e2 (enc x) (enc y)) (sh : ShE 64 enc) (eq : EqE enc) : CJ T .NotEq a b e0 e2 (!decide (x = y)) := by
  have := cj_neD h (sh x) (sh y)
  rw [eq x y] at this; exact this
theorem any_eqE [DecidableEq α] (eq : EqE enc) (x : α) (ys : List α) : ((ys.map enc).any fun z => PyData.eqv z (enc x)) = decide (x ∈ ys) := by
  rw [List.any_map, Bool.eq_iff_iff, List.any_eq_true]
  simp only [Function.comp_apply, eq _ _, decide_eq_true_eq]
  exact ⟨fun ⟨y, h1, h2⟩ => h2 ▸ h1, fun h => ⟨x, h, rfl⟩⟩
theorem cj_inL' [DecidableEq α] {x : α} (h : JE2 T a b e0 e2 (enc x) (.list (ys.map enc))) (sh : ShE 63 enc) (sh' : ShE 64 enc) (eq : EqE enc) (hm : behindInMarks .In b = false := by rfl) : CJ T .In a b e0 e2 (decide (x ∈ ys)) := by
  have s1 := sh' x
  have := cj_inL h s1 (sh_l sh ys) hm
  rw [any_eqE eq] at this; exact this
theorem cj_notInL' [DecidableEq α] {x : α} (h : JE2 T a b e0 e2 (enc x) (.list (ys.map enc))) (sh : ShE 63 enc) (sh' : ShE 64 enc) (eq : EqE enc) (hm : behindInMarks .NotIn b = false := by rfl) : CJ T .NotIn a b e0 e2 (!decide (x ∈ ys)) := by
  have := cj_notInL h (sh' x) (sh_l sh ys) hm
  rw [any_eqE eq] at this; exact this
theorem cj_inT' [DecidableEq α] {x : α} (h : JE2 T a b e0 e2 (enc x) (.tuple (ys.map enc))) (fl : FlE enc) (eq : EqE enc) (hm : behindInMarks .In b = false := by rfl) : CJ T .In a b e0 e2 (decide (x ∈ ys)) := by
  have := cj_inT h (fl x) (by rw [List.all_map, List.all_eq_true]; exact fun y _ => fl y) hm
  rw [any_eqE eq] at this; exact this
theorem cj_notInT' [DecidableEq α] {x : α} (h : JE2 T a b e0 e2 (enc x) (.tuple (ys.map enc))) (fl : FlE enc) (eq : EqE enc) (hm : behindInMarks .NotIn b = false := by rfl) : CJ T .NotIn a b e0 e2 (!decide (x ∈ ys)) := by
  have := cj_notInT h (fl x) (by rw [List.all_map, List.all_eq_true]; exact fun y _ => fl y) hm
  rw [any_eqE eq] at this; exact this
theorem ji_enumL' (hg : glB T.sc "enumerate" = true) (hm : T.mg "enumerate" = none) (h : JE T e e0 e1 (.d (.list (xs.map enc)))) (hs : ∀ v : Env, starEach [e] v = [(false, eval e v)] := by intro _; rfl) : JI T (.Tuple elts kk tpos) (.Call (.Name "enumerate" p) [e] [] pos) e0 e1 ((enumL xs).map (eP2 PyData.int enc)) := by
  rw [← enumD_map]; exact ji_enumL hg hm h hs
theorem ji_enumT' (hg : glB T.sc "enumerate" = true) (hm : T.mg "enumerate" = none) (h : JE T e e0 e1 (.d (.tuple (xs.map enc)))) (hs : ∀ v : Env, starEach [e] v = [(false, eval e v)] := by intro _; rfl) : JI T (.Tuple elts kk tpos) (.Call (.Name "enumerate" p) [e] [] pos) e0 e1 ((enumL xs).map (eP2 PyData.int enc)) := by
  rw [← enumD_map]; exact ji_enumT hg hm h hs
theorem ji_enumS' {s : Str} (hg : glB T.sc "enumerate" = true) (hm : T.mg "enumerate" = none) (h : JE T e e0 e1 (.d (.str s))) (hs : ∀ v : Env, starEach [e] v = [(false, eval e v)] := by intro _; rfl) : JI T (.Tuple elts kk tpos) (.Call (.Name "enumerate" p) [e] [] pos) e0 e1 ((enumL (signs s)).map (eP2 PyData.int PyData.str)) := by
  rw [← enumD_map]; exact ji_enumS hg hm h hs
theorem ji_zipL' (hg : glB T.sc "zip" = true) (hm : T.mg "zip" = none) (h : JA T [a, b] e0 e1 [.list (xs.map enc), .list (zs.map dec)]) (hs : ∀ v : Env, starEach [a, b] v = (false, eval a v) :: starEach [b] v := by intro _; rfl) (hpl : ∀ v : Env, (backTo pos (starEach [b] v)).any (·.1) = false := by intro _; rfl) : JI T (.Tuple elts kk tpos) (.Call (.Name "zip" p) [a, b] [] pos) e0 e1 ((xs.zip zs).map (eP2 enc dec)) := by
  rw [← zipD_map]; exact ji_zipL hg hm h hs hpl
theorem ji_zipT' (hg : glB T.sc "zip" = true) (hm : T.mg "zip" = none) (h : JA T [a, b] e0 e1 [.tuple (xs.map enc), .tuple (zs.map dec)]) (hs : ∀ v : Env, starEach [a, b] v = (false, eval a v) :: starEach [b] v := by intro _; rfl) (hpl : ∀ v : Env, (backTo pos (starEach [b] v)).any (·.1) = false := by intro _; rfl) : JI T (.Tuple elts kk tpos) (.Call (.Name "zip" p) [a, b] [] pos) e0 e1 ((xs.zip zs).map (eP2 enc dec)) := by
  rw [← zipD_map]; exact ji_zipT hg hm h hs hpl
variable {tg iter elt : Expr} {ifs : List Expr} {scope : Scope}
/-- [elt for tg in iter], elements of one kind -/
theorem je_lc0 (own : List (Str × Nat)) (g : α → β) (hi : JI T tg iter e0 e1 (xs.map enc)) (hnd : T.N.Nodup) (ok : blkC T.N T.sc scope own = true) (hu : unk e1 (own.map (·.2)))
    (turn : ∀ x, x ∈ xs → LcP T scope tg elt [] own e1 (enc x) true (dec (g x))) (hs : ∀ (v : Env) x, foldedSetIterable iter v x = pure x := by intro _ _; rfl) : JE T (.ListComp elt [⟨tg, iter, [], 0⟩] scope pos) e0 e1 (.o (.list ((xs.map g).map dec))) := by
  have := je_lc (pos := pos) own (fun _ => true) (fun x => dec (g x)) hi hnd ok hu turn hs
  rw [show xs.filter (fun _ => true) = xs from List.filter_eq_self.mpr (fun _ _ => rfl)] at this
  rw [List.map_map]; exact this
theorem je_lc1 (own : List (Str × Nat)) (p : α → Bool) (g : α → β) (hi : JI T tg iter e0 e1 (xs.map enc)) (hnd : T.N.Nodup) (ok : blkC T.N T.sc scope own = true) (hu : unk e1 (own.map (·.2)))
    (turn : ∀ x, x ∈ xs → LcP T scope tg elt ifs own e1 (enc x) (p x) (dec (g x))) (hs : ∀ (v : Env) x, foldedSetIterable iter v x = pure x := by intro _ _; rfl) : JE T (.ListComp elt [⟨tg, iter, ifs, 0⟩] scope pos) e0 e1 (.o (.list (((xs.filter p).map g).map dec))) := by
  have := je_lc (pos := pos) own p (fun x => dec (g x)) hi hnd ok hu turn hs
  rw [List.map_map]; exact this
theorem js_lc0 (i : Nat) {nm : Str} {py spos : Pos} (own : List (Str × Nat)) (g : α → β) (hi : JI T tg iter e0 e1 (xs.map enc)) (hnd : T.N.Nodup) (ok : blkC T.N T.sc scope own = true) (hu : unk e1 (own.map (·.2)))
    (turn : ∀ x, x ∈ xs → LcP T scope tg elt [] own e1 (enc x) true (dec (g x))) (hN : T.N[i]? = some nm := by rfl) (hl : T.sc.names.lookup nm = some .local := by rfl) (hk : T.sc.kind = .function := by rfl) (hpl : (py.line == pos.line) = true := by rfl) (ha : (scope.names.any fun (n, k) => n == nm && (k == .local || k == .cell)) = false := by decide +kernel) (hs : ∀ (v : Env) x, foldedSetIterable iter v x = pure x := by intro _ _; rfl) :
    JS T (.Assign [.Name nm py] (.ListComp elt [⟨tg, iter, [], 0⟩] scope pos) spos) e0 (.nx (e1.set i (.o none (.list ((xs.map g).map dec))))) := by
  have := js_setLc (pos := pos) (py := py) (spos := spos) i own (fun _ => true) (fun x => dec (g x)) hi hnd ok hu turn hN hl hk hpl ha hs
  rw [show xs.filter (fun _ => true) = xs from List.filter_eq_self.mpr (fun _ _ => rfl)] at this
  rw [List.map_map]; exact this
theorem js_lc1 (i : Nat) {nm : Str} {py spos : Pos} (own : List (Str × Nat)) (p : α → Bool) (g : α → β) (hi : JI T tg iter e0 e1 (xs.map enc)) (hnd : T.N.Nodup) (ok : blkC T.N T.sc scope own = true) (hu : unk e1 (own.map (·.2)))
    (turn : ∀ x, x ∈ xs → LcP T scope tg elt ifs own e1 (enc x) (p x) (dec (g x))) (hN : T.N[i]? = some nm := by rfl) (hl : T.sc.names.lookup nm = some .local := by rfl) (hk : T.sc.kind = .function := by rfl) (hpl : (py.line == pos.line) = true := by rfl) (ha : (scope.names.any fun (n, k) => n == nm && (k == .local || k == .cell)) = false := by decide +kernel) (hs : ∀ (v : Env) x, foldedSetIterable iter v x = pure x := by intro _ _; rfl) :
    JS T (.Assign [.Name nm py] (.ListComp elt [⟨tg, iter, ifs, 0⟩] scope pos) spos) e0 (.nx (e1.set i (.o none (.list (((xs.filter p).map g).map dec))))) := by
  have := js_setLc (pos := pos) (py := py) (spos := spos) i own p (fun x => dec (g x)) hi hnd ok hu turn hN hl hk hpl ha hs
  rw [List.map_map]; exact this
/-- is None -/
theorem isN_eO {o : Option α} (h : ∀ a, isNoneD (enc a) = false) : isNoneD (eO enc o) = o.isNone := by
  cases o with
  | none => rfl
  | some a => exact h a
end
end J
namespace J
open PySem L2 PySem.Spec PyProof.Rows

/-! ### the draws -/
def iabs (x : Int) : Int := if x < 0 then -x else x
theorem iabs_nn (x : Int) : 0 ≤ iabs x := by unfold iabs; split <;> omega
structure Dr where
  ns : List Int
  i : Nat
  x : Int
  st : Int
@[reducible] def drD (d : Dr) : PyData := .list [.list (d.ns.map .int), .int d.i, .int d.x, .int d.st]
def nxtM (d : Dr) (many : Int) : Dr ⊕ (Int × Dr) :=
  if decide ((d.i : Int) < d.ns.length) = true then
    Let (iabs (gI d.ns d.i)) fun cell =>
    Let (⟨d.ns, d.i + 1, d.x, d.st⟩ : Dr) fun d =>
    if decide ((10 : Int) ^ 18 ≤ cell) = true then .inr (Int.fmod cell many, ⟨d.ns, d.i, Int.fdiv cell many, d.st⟩)
    else .inl ⟨d.ns, d.i, d.x, Int.fmod (d.st * 48271 + cell + 11) 2147483647⟩
  else .inl ⟨d.ns, d.i, d.x, Int.fmod (d.st * 48271 + 12345) 2147483647⟩
def nxt (d : Dr) (many : Int) : Int × Dr :=
  if decide (0 < d.x) = true then
    Let (Int.fmod d.x many) fun found =>
    Let (⟨d.ns, d.i, Int.fdiv d.x many, d.st⟩ : Dr) fun d => (found, d)
  else orR (nxtM d many) fun d => (Int.fmod (Int.fdiv (Int.fmod (d.st * 69621) 2147483629) 7) many, d)
theorem nxtM_l {d d' : Dr} {many : Int} (h : nxtM d many = .inl d') : d'.ns = d.ns ∧ (d'.i = d.i ∨ d'.i = d.i + 1) := by
  unfold nxtM at h
  simp only [Let] at h
  by_cases c1 : (d.i : Int) < d.ns.length
  · by_cases c2 : (1000000000000000000 : Int) ≤ iabs (gI d.ns d.i)
    · simp [c1, c2] at h
    · simp [c1, c2] at h; rw [← h]; exact ⟨rfl, .inr rfl⟩
  · simp [c1] at h; rw [← h]; exact ⟨rfl, .inl rfl⟩
theorem nxtM_r {d : Dr} {many : Int} {r : Int × Dr} (h : nxtM d many = .inr r) : (∃ c, r.1 = Int.fmod c many) ∧ r.2.ns = d.ns ∧ r.2.i = d.i + 1 := by
  unfold nxtM at h
  simp only [Let] at h
  by_cases c1 : (d.i : Int) < d.ns.length
  · by_cases c2 : (1000000000000000000 : Int) ≤ iabs (gI d.ns d.i)
    · simp [c1, c2] at h; rw [← h]; exact ⟨⟨_, rfl⟩, rfl, rfl⟩
    · simp [c1, c2] at h
  · simp [c1] at h
theorem nxt_c (d : Dr) (many : Int) : (∃ c, (nxt d many).1 = Int.fmod c many) ∧ (nxt d many).2.ns = d.ns ∧ ((nxt d many).2.i = d.i ∨ (nxt d many).2.i = d.i + 1) := by
  unfold nxt
  by_cases c : 0 < d.x
  · simp [c, Let]; exact ⟨_, rfl⟩
  · simp only [c, decide_false, Bool.false_eq_true, if_false]
    cases h : nxtM d many with
    | inl l => have := nxtM_l h; exact ⟨⟨_, rfl⟩, this⟩
    | inr r => have := nxtM_r h; exact ⟨this.1, this.2.1, .inr this.2.2⟩
theorem nxt_lo {d : Dr} {many : Int} (h : 0 < many) : 0 ≤ (nxt d many).1 := by
  obtain ⟨c, q⟩ := (nxt_c d many).1
  rw [q]; exact Int.fmod_nonneg_of_pos _ h
theorem nxt_hi {d : Dr} {many : Int} (h : 0 < many) : (nxt d many).1 < many := by
  obtain ⟨c, q⟩ := (nxt_c d many).1
  rw [q]; exact Int.fmod_lt_of_pos _ h
/-- what _law_same asks of data -/
def sameD : PyData → PyData → Bool
  | .list xs, .list ys => decide (xs.length = ys.length) && sameAll xs ys
  | .tuple xs, .tuple ys => decide (xs.length = ys.length) && sameAll xs ys
  | .none, .none => true
  | .int i, .int j => decide (i = j)
  | .bool i, .bool j => i == j
  | .str i, .str j => decide (i = j)
  | _, _ => false
where sameAll : List PyData → List PyData → Bool
  | [], _ => true
  | _, [] => true
  | x :: xs, y :: ys => sameD x y && sameAll xs ys
def drN (many : Int) : Prop := 0 < many ∧ many < 1073741824
abbrev drPre (a : Dr × Int) : Prop := drN a.2
abbrev SpDraw (K : PySem.W.Frag) : Sp := SpF K (fun _ : List Int => True) (fun ns => [.dict [(.none, .list (ns.map .int))]]) (fun ns => drD ⟨ns, 0, 0, 17⟩)
abbrev SpNext (K : PySem.W.Frag) : Sp := SpO K drPre (fun a => drD a.1) (fun a => drD (nxt a.1 a.2).2) (fun a => [.int a.2]) (fun a => .int (nxt a.1 a.2).1)
end J
namespace J
open PySem L2 PySem.Spec PyProof.Rows
section
variable {T : TC} {a b e : Expr} {es : List Expr} {env e0 e1 e2 e3 : Env'} {pos p p1 p2 p3 : Pos} {x y z : PyData} {ds : List PyData} {K : PySem.W.Frag} {R C C' H H' : Hp} {σ : L2.St} {v : V}
/-! ### isinstance of built-in types -/
theorem b_list : bootBuiltins "list" = some (.type "list") := by decide +kernel
theorem b_tuple : bootBuiltins "tuple" = some (.type "tuple") := by decide +kernel
theorem b_bool : bootBuiltins "bool" = some (.type "bool") := by decide +kernel
theorem b_str : bootBuiltins "str" = some (.type "str") := by decide +kernel
theorem b_int : bootBuiltins "int" = some (.type "int") := by decide +kernel
def tyD : PyData → String
  | .none => "NoneType" | .bool _ => "bool" | .int _ => "int" | .str _ => "str" | .list _ => "list" | .tuple _ => "tuple" | .dict _ => "dict"
def noDc : PyData → Bool
  | .dict _ => false | _ => true
theorem tyx_sqT {a : Addr} {vs : List V} (h : SqT K H a vs) : TyX K H (.ref a) (.type "tuple") := by
  rcases h with h | ⟨o, its, n, h1, h2, _⟩
  · rcases h with h | ⟨o, h⟩
    · exact .base (.tup h)
    · exact .fTuple h
  · exact .kTuple h1 h2
theorem tyx {x : PyData} (h : Rp K H v x) (hn : noDc x = true) : TyX K H v (.type (tyD x)) := by
  cases h with
  | non => exact .base .non
  | bl b => exact .base (.bl b)
  | int i => exact .base (.int i)
  | str _ => exact .base (.str _)
  | lst e _ _ => exact .base (.lst e)
  | tup q _ _ => exact tyx_sqT q
  | scr _ _ _ => cases hn
  | dK _ _ _ => cases hn
  | dT _ _ _ => cases hn
theorem je_isi {id : String} {nm : Str} {c : Bool} (hg : glB T.sc "isinstance" = true) (hm : T.mg "isinstance" = none) (hg1 : glB T.sc nm = true) (hm1 : T.mg nm = none) (hv1 : bootBuiltins nm = some (.type id)) (ha : JE T e e0 e1 (.d x))
    (hk : kitB (tyD x) id = some c) (hn : noDc x = true := by rfl) (hp : Plain e [.Name nm p1] pos := by exact ⟨fun _ => rfl, fun _ => rfl⟩) (hs : ∀ v : Env, starEach [.Name nm p1] v = [(false, eval (.Name nm p1) v)] := by intro _; rfl) (h1 : nm ≠ "__name__" := by decide) (h2 : (nm == ("__debug__" : Str)) = false := by decide) :
    JE T (.Call (.Name "isinstance" p) [e, .Name nm p1] [] pos) e0 e1 (.d (.bool c)) := fun X hX =>
  (pe_callB call_isi (gl_of hX hg) (by rw [hX.mg]; exact hm) boot_isinstance (pa_cons (ha X hX) (pa_cons (pe_bltn (v := V.ty id) (gl_of hX hg1) (by rw [hX.mg]; exact hm1) hv1 rfl h1 h2) pa_nil (hs X.env)) (hp.he X.env)) (by decide) (by decide) (hp.he X.env) (hp.hp X.env)).wk fun σ H Q ⟨R, C, E, k⟩ => by
    rw [hX.K] at *
    refine ⟨R, C, E, fun v C1 H1 c1 E1 r1 => ?_⟩
    exact ⟨v, .ty id, _, _, c, rfl, .ty id, tyx (r1.mono E1.cH) hn, kit_ty hk, k _ C1 H1 c1 E1 (.bl c)⟩
theorem je_isi2 {id1 id2 : String} {n1 n2 : Str} {b1 b2 : Bool} {tk : Nat} {tp : Pos} (hg : glB T.sc "isinstance" = true) (hm : T.mg "isinstance" = none) (hg1 : glB T.sc n1 = true) (hm1 : T.mg n1 = none) (hv1 : bootBuiltins n1 = some (.type id1)) (hg2 : glB T.sc n2 = true) (hm2 : T.mg n2 = none) (hv2 : bootBuiltins n2 = some (.type id2)) (ha : JE T e e0 e1 (.d x))
    (hk1 : kitB (tyD x) id1 = some b1) (hk2 : kitB (tyD x) id2 = some b2) (hn : noDc x = true := by rfl) (hp : Plain e [.Tuple [.Name n1 p1, .Name n2 p2] tk tp] pos := by exact ⟨fun _ => rfl, fun _ => rfl⟩) (hs : ∀ v : Env, starEach [.Tuple [.Name n1 p1, .Name n2 p2] tk tp] v = [(false, eval (.Tuple [.Name n1 p1, .Name n2 p2] tk tp) v)] := by intro _; rfl)
    (hs1 : ∀ v : Env, starEach [.Name n1 p1, .Name n2 p2] v = (false, eval (.Name n1 p1) v) :: starEach [.Name n2 p2] v := by intro _; rfl) (hs2 : ∀ v : Env, starEach [.Name n2 p2] v = [(false, eval (.Name n2 p2) v)] := by intro _; rfl)
    (h1 : n1 ≠ "__name__" := by decide) (h2 : (n1 == ("__debug__" : Str)) = false := by decide) (h3 : n2 ≠ "__name__" := by decide) (h4 : (n2 == ("__debug__" : Str)) = false := by decide) :
    JE T (.Call (.Name "isinstance" p) [e, .Tuple [.Name n1 p1, .Name n2 p2] tk tp] [] pos) e0 e1 (.d (.bool (b1 || b2))) := fun X hX =>
  (pe_callB call_isiT (gl_of hX hg) (by rw [hX.mg]; exact hm) boot_isinstance (pa_cons (ha X hX) (pa_cons (pe_tup (pa_cons (pe_bltn (v := V.ty id1) (gl_of hX hg1) (by rw [hX.mg]; exact hm1) hv1 rfl h1 h2) (pa_cons (pe_bltn (v := V.ty id2) (gl_of hX hg2) (by rw [hX.mg]; exact hm2) hv2 rfl h3 h4) pa_nil (hs2 X.env)) (hs1 X.env))) pa_nil (hs X.env)) (hp.he X.env)) (by decide) (by decide) (hp.he X.env) (hp.hp X.env)).wk fun σ H Q ⟨R, C, E, k⟩ => by
    rw [hX.K] at *
    refine ⟨R, C, E, fun v C1 H1 c1 E1 r1 => ⟨lnS (Nat.le_of_ble_eq_true rfl), fun t ht => ?_⟩⟩
    have E2 := E1.new (o := .tup [.ty id1, .ty id2]) ht
    have c3 : Ex C1 (upd C1 t (.tup [.ty id1, .ty id2])) := Ex.new (E1.cN ht)
    refine ⟨v, t, [.ty id1, .ty id2], _, [.type id1, .type id2], b1 || b2, rfl, upd_same, .cons (.ty id1) (.cons (.ty id2) .nil), tyx ((r1.mono c3).mono E2.cH) hn, ?_, k _ _ _ (Ex.trans c1 c3) E2 (.bl _)⟩
    refine kitAny_cons (kit_ty hk1) (fun q => ?_) fun q => by rw [q]; rfl
    refine kitAny_cons (kit_ty hk2) (fun q' => ?_) fun q' => by rw [q, q']; rfl
    rw [q, q']; exact kitAny_nil
/-! ### calls, by what they give -/
variable {mm : Str}
theorem je_call' {A : Type} {nm : Str} {k : Nat} {f : Addr} {fd : FuncData} {ps : List Str} {pre : A → Prop} {args : A → List PyData} {res : A → PyData} {d : PyData} (F : FnOk T.P T.w T.K T.mg T.base CX0 k f fd ps (SpD T.K pre args res)) (a : A) (hm : T.mg nm = some (.ref f)) (kp : PySem.W.keepIn T.K (.ref f) = true) (bi : Binds T.K fd ps [])
    (ha : JA T (e :: es) e0 e1 (args a)) (hpre : pre a) (hg : glB T.sc nm = true := by rfl) (hk : k ≤ T.k := by exact Nat.le_of_ble_eq_true rfl) (hq : res a = d := by rfl) (hp : Plain e es pos := by exact ⟨fun _ => rfl, fun _ => rfl⟩) (hdb : (nm == ("__debug__" : Str)) = false := by decide) : JE T (.Call (.Name nm p) (e :: es) [] pos) e0 e1 (.d d) :=
  hq ▸ je_call F a hm kp bi hg hk ha hpre hp hdb
theorem je_callF' {A : Type} {nm : Str} {k : Nat} {f : Addr} {fd : FuncData} {ps : List Str} {pre : A → Prop} {args : A → List PyData} {res : A → PyData} {d : PyData} (F : FnOk T.P T.w T.K T.mg T.base CX0 k f fd ps (SpF T.K pre args res)) (a : A) (hm : T.mg nm = some (.ref f)) (kp : PySem.W.keepIn T.K (.ref f) = true) (bi : Binds T.K fd ps [])
    (ha : JA T (e :: es) e0 e1 (args a)) (hpre : pre a) (hg : glB T.sc nm = true := by rfl) (hk : k ≤ T.k := by exact Nat.le_of_ble_eq_true rfl) (hq : res a = d := by rfl) (hp : Plain e es pos := by exact ⟨fun _ => rfl, fun _ => rfl⟩) (hdb : (nm == ("__debug__" : Str)) = false := by decide) : JE T (.Call (.Name nm p) (e :: es) [] pos) e0 e1 (.o d) :=
  hq ▸ je_callF F a hm kp bi hg hk ha hpre hp hdb
theorem je_callO' {A : Type} {nm x : Str} {k : Nat} (i : Nat) {f : Addr} {fd : FuncData} {ps : List Str} {pre : A → Prop} {d0 d1 : A → PyData} {args : A → List PyData} {res : A → PyData} {k0 : Option Addr} {px : Pos} {d : PyData} (F : FnOk T.P T.w T.K T.mg T.base CX0 k f fd ps (SpO T.K pre d0 d1 args res)) (a : A) (hm : T.mg nm = some (.ref f)) (kp : PySem.W.keepIn T.K (.ref f) = true) (bi : Binds T.K fd ps [])
    (ha : JA T es e0 e1 (args a)) (hpre : pre a) (hi : e1[i]? = some (.o k0 (d0 a)) := by rfl) (hi0 : ∃ d, e0[i]? = some (.o k0 d) := by exact ⟨_, rfl⟩) (hq : res a = d := by rfl) (he : e1.set i (.o k0 (d1 a)) = e2 := by rfl) (hg : glB T.sc nm = true := by rfl) (hk : k ≤ T.k := by exact Nat.le_of_ble_eq_true rfl) (hN : T.N[i]? = some x := by rfl) (hv : visB T.sc x = true := by rfl) (hp : Plain (.Name x px) es pos := by exact ⟨fun _ => rfl, fun _ => rfl⟩) (hdb : (nm == ("__debug__" : Str)) = false := by decide)
    (hd : (x == ("__debug__" : Str)) = false := by decide) (hcd : (x == ("__classdict__" : Str)) = false := by decide) : JE T (.Call (.Name nm p) (.Name x px :: es) [] pos) e0 e2 (.d d) := by
  subst hq; subst he
  exact je_callO F a hm kp bi hg hk hN hv hi0 ha hi hpre hp hdb hd hcd
/-! ### ifs that are known -/
section
variable {ρ : Type} {cr : ρ → PyData} {er : ρ → Env'} {A B rest : List Stmt}
theorem jb_no {r : ρ} (ht : JT T e e0 e1 false) (h : JB T cr er rest e1 r) : JB T cr er (.If e A [] pos :: rest) e0 r :=
  jb_is (jb_ifr (r := r) ht (fun h => by cases h) (fun _ => h)) rfl
theorem jb_yes {r : ρ} (ht : JT T e e0 e1 true) (h : JB T cr er A e1 r) : JB T cr er (.If e A [] pos :: rest) e0 r :=
  jb_is (jb_ifr (r' := r) ht (fun _ => h) (fun h => by cases h)) rfl
theorem jb_noc {r : ρ} {c : Bool} (ht : JT T e e0 e1 c) (hc : c = false) (h : JB T cr er rest e1 r) : JB T cr er (.If e A [] pos :: rest) e0 r := by
  subst hc; exact jb_no ht h
theorem jb_yesc {r : ρ} {c : Bool} (ht : JT T e e0 e1 c) (hc : c = true) (h : JB T cr er A e1 r) : JB T cr er (.If e A [] pos :: rest) e0 r := by
  subst hc; exact jb_yes ht h
end
end
/-- pairs of data that _law_same can be asked about, with the nesting of the second -/
inductive SameP : Nat → PyData → PyData → Prop
  | non {n : Nat} : SameP n .none .none
  | non1 {n : Nat} {y : PyData} : noDc y = true → SameP n .none y
  | non2 {n : Nat} {x : PyData} : noDc x = true → SameP n x .none
  | int {n : Nat} (i j : Int) : SameP n (.int i) (.int j)
  | bool {n : Nat} (i j : Bool) : SameP n (.bool i) (.bool j)
  | str {n : Nat} (i j : Str) : SameP n (.str i) (.str j)
  | lst {n : Nat} {xs ys : List PyData} : (∀ (i : Nat) x y, xs[i]? = some x → ys[i]? = some y → SameP n x y) → SameP (n + 1) (.list xs) (.list ys)
  | tup {n : Nat} {xs ys : List PyData} : (∀ (i : Nat) x y, xs[i]? = some x → ys[i]? = some y → SameP n x y) → SameP (n + 1) (.tuple xs) (.tuple ys)
abbrev SpSame (K : PySem.W.Frag) (n : Nat) : Sp := SpD K (fun a : PyData × PyData => SameP n a.1 a.2) (fun a => [a.1, a.2]) (fun a => .bool (sameD a.1 a.2))
instance : Inhabited PyData := ⟨.none⟩
theorem gI_some {α : Type} [Inhabited α] {xs : List α} {i : Int} (h : inR xs.length i) : atI xs i = some (gI xs i) := by
  obtain ⟨x, hx⟩ := atI_inR h
  unfold gI; rw [hx]; rfl
theorem gI_nat {α : Type} [Inhabited α] (xs : List α) (k : Nat) : gI xs (k : Int) = xs.getD k default := by
  unfold gI
  by_cases h : k < xs.length
  · have : atI xs (k : Int) = some xs[k] := by
      unfold atI ixN
      simp [h]
    rw [this]; simp [h]
  · have : atI xs (k : Int) = none := by
      unfold atI ixN
      simp [h]
    rw [this]; simp [h]
theorem gI_getE {α : Type} [Inhabited α] {xs : List α} {i : Int} (h : 0 ≤ i ∧ i < xs.length) : xs[i.toNat]? = some (gI xs i) := by
  have := gI_nat xs i.toNat
  rw [show ((i.toNat : Nat) : Int) = i by omega] at this
  rw [this, List.getD_eq_getElem?_getD, List.getElem?_eq_getElem (show i.toNat < xs.length by omega)]; rfl
theorem rgI_zero (n : Nat) : rgI 0 n = (List.range n).map fun (i : Nat) => (i : Int) := by
  unfold rgI; simp
theorem sameAll_map : ∀ (xs ys : List PyData), xs.length = ys.length → sameD.sameAll xs ys = ((rgI 0 ys.length).map fun k => sameD (gI xs k) (gI ys k)).all id
  | [], ys, h => by
    have : ys = [] := List.length_eq_zero_iff.mp h.symm
    subst this; simp [sameD.sameAll, rgI]
  | x :: xs, [], h => by simp at h
  | x :: xs, y :: ys, h => by
    rw [sameD.sameAll, sameAll_map xs ys (by simpa using h), List.length_cons, rgI_zero, rgI_zero, List.range_succ_eq_map]
    simp only [List.map_map, List.map_cons, List.all_cons, Function.comp_def, gI_nat]
    simp [Function.comp_def]
theorem rgI_mem {lo hi k : Int} (h : k ∈ rgI lo hi) : lo ≤ k ∧ k < hi := by
  unfold rgI at h
  obtain ⟨i, hi, rfl⟩ := List.mem_map.mp h
  have := List.mem_range.mp hi
  omega
theorem sameD_list (xs ys : List PyData) : (if (!decide ((xs.length : Int) = ys.length)) = true then false else sameD.sameAll xs ys) = sameD (.list xs) (.list ys) := by
  have e : decide ((xs.length : Int) = ys.length) = decide (xs.length = ys.length) := by rw [decide_eq_decide]; omega
  rw [sameD, e]; cases decide (xs.length = ys.length) <;> rfl
theorem sameD_tuple (xs ys : List PyData) : (if (!decide ((xs.length : Int) = ys.length)) = true then false else sameD.sameAll xs ys) = sameD (.tuple xs) (.tuple ys) := by
  have e : decide ((xs.length : Int) = ys.length) = decide (xs.length = ys.length) := by rw [decide_eq_decide]; omega
  rw [sameD, e]; cases decide (xs.length = ys.length) <;> rfl
theorem of_nec {m n : Nat} (h : (!decide ((m : Int) = n)) = false) : m = n := by
  have : (m : Int) = n := by simpa using h
  omega
theorem noDc_cases {x : PyData} (h : noDc x = true) : x = .none ∨ (∃ b, x = .bool b) ∨ (∃ b, x = .int b) ∨ (∃ b, x = .str b) ∨ (∃ b, x = .list b) ∨ (∃ b, x = .tuple b) := by
  cases x <;> first | (simp; done) | cases h
end J
namespace J
open PySem L2 PySem.Spec PyProof.Rows
section
variable {T : TC} {a b e : Expr} {es : List Expr} {env e0 e1 e2 e3 : Env'} {pos p p1 p2 p3 : Pos} {x y z : PyData} {ds : List PyData} {K : PySem.W.Frag} {R C C' H H' : Hp} {σ : L2.St} {v : V} {α β γ : Type} {enc : α → PyData} {dec : β → PyData}
/-! ### values told ahead -/
theorem let_ok {α : Type} {v : α} {k : α → Prop} (h : Let v k) (x : α) (e : x = v) : k x := e ▸ h
section
variable {ρ L : Type} {cr : ρ → PyData} {er : ρ → Env'} {E : L → Env'} {rest : List Stmt}
theorem jb_pre {α : Type} {v : α} {k : α → ρ} (h : ∀ x, x = v → JB T cr er rest env (k x)) : JB T cr er rest env (Let v k) := h v rfl
theorem jn_pre {α : Type} {v : α} {k : α → L} (h : ∀ x, x = v → JN T E rest env (k x)) : JN T E rest env (Let v k) := h v rfl
theorem jm_pre {α : Type} {v : α} {k : α → L ⊕ ρ} (h : ∀ x, x = v → JM T E cr er rest env (k x)) : JM T E cr er rest env (Let v k) := h v rfl
def orJ {L' : Type} (o : L' ⊕ ρ) (k : L' → L ⊕ ρ) : L ⊕ ρ := match o with
  | .inl l => k l
  | .inr r => .inr r
variable {st : Stmt}
theorem jm_orJ {L' : Type} {E' : L' → Env'} {o : L' ⊕ ρ} {k : L' → L ⊕ ρ} (h : JS T st e0 (ocR E' cr er o)) (h' : ∀ l, o = .inl l → JM T E cr er rest (E' l) (k l)) : JM T E cr er (st :: rest) e0 (orJ o k) := by
  have := jm_or h h'
  cases o <;> exact this
end
theorem lcd_let {S : Type} {scope : Scope} {tg elt : Expr} {own : List (Str × Nat)} {Ev : S → Env'} {d : PyData} {s : S} {α : Type} {w : α} {k : α → β × S} (h : ∀ x, x = w → LcD T scope tg elt own Ev dec d s (k x)) : LcD T scope tg elt own Ev dec d s (Let w k) := h w rfl
/-! ### None or a value -/
theorem je_isNo {o : Option α} {j pos'} (ha : JE T a e0 e1 (.b (eO enc o))) (h : ∀ a, isNoneD (enc a) = false := by intro _; rfl) : JE T (.Compare a [.Is] [.Constant .none j pos'] pos) e0 e1 (.d (.bool o.isNone)) := by
  rw [← isN_eO h]; exact je_isN ha
theorem je_notNo {o : Option α} {j pos'} (ha : JE T a e0 e1 (.b (eO enc o))) (h : ∀ a, isNoneD (enc a) = false := by intro _; rfl) : JE T (.Compare a [.IsNot] [.Constant .none j pos'] pos) e0 e1 (.d (.bool (!o.isNone))) := by
  rw [← isN_eO h]; exact je_notN ha
theorem jt_isNo {o : Option α} {j pos'} (ha : JE T a e0 e1 (.b (eO enc o))) (h : ∀ a, isNoneD (enc a) = false := by intro _; rfl) : JT T (.Compare a [.Is] [.Constant .none j pos'] pos) e0 e1 o.isNone := by
  rw [← isN_eO h]; exact jt_isN ha
theorem jt_notNo {o : Option α} {j pos'} (ha : JE T a e0 e1 (.b (eO enc o))) (h : ∀ a, isNoneD (enc a) = false := by intro _; rfl) : JT T (.Compare a [.IsNot] [.Constant .none j pos'] pos) e0 e1 (!o.isNone) := by
  rw [← isN_eO h]; exact jt_notN ha
/-- the value of what is not None -/
def unO [Inhabited α] (o : Option α) : α := o.getD default
theorem je_un [Inhabited α] {o : Option α} (ha : JE T a e0 e1 (.d (eO enc o))) (h : o.isSome = true) : JE T a e0 e1 (.d (enc (unO o))) := by
  cases o with
  | none => cases h
  | some x => exact ha
/-! ### truth of lists -/
theorem jt_tL {xs : List α} (h : JE T e e0 e1 (.b (.list (xs.map enc)))) (he : ∀ (v : Env) whole, isTrue e v whole = (do let v ← whole; standAt e.pos; holding [v] (truthy v)) := by intro _ _; rfl) : JT T e e0 e1 (!xs.isEmpty) := by
  have := jt_t h rfl he
  simp only [truD, List.isEmpty_map] at this
  exact this
theorem jt_tT {xs : List α} (h : JE T e e0 e1 (.b (.tuple (xs.map enc)))) (he : ∀ (v : Env) whole, isTrue e v whole = (do let v ← whole; standAt e.pos; holding [v] (truthy v)) := by intro _ _; rfl) : JT T e e0 e1 (!xs.isEmpty) := by
  have := jt_t h rfl he
  simp only [truD, List.isEmpty_map] at this
  exact this
/-! ### list(range(..)) -/
theorem rgV_rgI (lo hi : Int) : Rps K C (rgV lo hi) ((rgI lo hi).map .int) := by
  have : rgV lo hi = (rgI lo hi).map V.int := by unfold rgV rgI; rw [List.map_map]; rfl
  rw [this]; exact Rps.ints
def rg1 (n : Int) : Prop := -(2 ^ 62) ≤ n ∧ n ≤ 16777216
def rg2 (m n : Int) : Prop := -(2 ^ 62) ≤ m ∧ m < 2 ^ 62 ∧ -(2 ^ 62) ≤ n ∧ n < 2 ^ 62 ∧ n - m ≤ 16777216
theorem je_listRg1 {n : Int} (hg : glB T.sc "list" = true) (hm : T.mg "list" = none) (hg' : glB T.sc "range" = true) (hm' : T.mg "range" = none) (h : JE T a e0 e1 (.d (.int n))) (hn : rg1 n)
    (hs : ∀ v : Env, starEach [a] v = [(false, eval a v)] := by intro _; rfl) (hs' : ∀ v : Env, starEach [.Call (.Name "range" p2) [a] [] p3] v = [(false, eval (.Call (.Name "range" p2) [a] [] p3) v)] := by intro _; rfl) : JE T (.Call (.Name "list" p) [.Call (.Name "range" p2) [a] [] p3] [] pos) e0 e1 (.o (.list ((rgI 0 n).map .int))) := fun X hX =>
  (pe_listRg hX.calm (gl_of hX hg) (by rw [hX.mg]; exact hm) (prg_1 (gl_of hX hg') (by rw [hX.mg]; exact hm') (h X hX) (hs X.env)) (hs' X.env)).wk fun σ H Q ⟨R, C, E, k⟩ => ⟨R, C, E, fun v C1 H1 c1 E1 r1 => by
    cases r1
    obtain ⟨h1, h2⟩ := hn
    refine ⟨n, rfl, ⟨by omega, by omega, h1, by omega, by omega⟩, fun q hq => ?_⟩
    obtain ⟨E2, r⟩ := E1.freshO hq (by rw [rgV_length]; show _ ≤ 16777216; omega) (rgV_rgI 0 n)
    exact k _ C1 _ c1 E2 r⟩
theorem je_listRg2 {m n : Int} (hg : glB T.sc "list" = true) (hm : T.mg "list" = none) (hg' : glB T.sc "range" = true) (hm' : T.mg "range" = none) (h : JE T a e0 e1 (.d (.int m))) (h' : JE T b e1 e2 (.d (.int n))) (hn : rg2 m n)
    (hs : ∀ v : Env, starEach [a, b] v = (false, eval a v) :: starEach [b] v := by intro _; rfl) (hsb : ∀ v : Env, starEach [b] v = (false, eval b v) :: starEach [] v := by intro _; rfl) (hpp : ∀ v : Env, (backTo p3 (starEach [b] v)).any (·.1) = false := by intro _; rfl) (hs' : ∀ v : Env, starEach [.Call (.Name "range" p2) [a, b] [] p3] v = [(false, eval (.Call (.Name "range" p2) [a, b] [] p3) v)] := by intro _; rfl) : JE T (.Call (.Name "list" p) [.Call (.Name "range" p2) [a, b] [] p3] [] pos) e0 e2 (.o (.list ((rgI m n).map .int))) := fun X hX =>
  (pe_listRg hX.calm (gl_of hX hg) (by rw [hX.mg]; exact hm) (prg_2 (gl_of hX hg') (by rw [hX.mg]; exact hm') (h X hX) (h' X hX) (hs X.env) (hsb X.env) (hpp X.env)) (hs' X.env)).wk fun σ H Q ⟨R, C, E, k⟩ => ⟨R, C, E, fun v C1 H1 c1 E1 r1 => ⟨R, C1, E1, fun v2 C2 H2 c2 E2 r2 => by
    cases r1; cases r2
    obtain ⟨h1, h2, h3, h4, h5⟩ := hn
    refine ⟨m, n, rfl, rfl, ⟨by omega, by omega, h3, by omega, by omega⟩, fun q hq => ?_⟩
    obtain ⟨E3, r⟩ := E2.freshO hq (by rw [rgV_length]; show _ ≤ 16777216; omega) (rgV_rgI m n)
    exact k _ C2 _ (c1.trans c2) E3 r⟩⟩
/-! ### own defs of the text -/
structure Own (K : PySem.W.Frag) (mg : Str → Option Value) (nm : Str) (st : Stmt) (ps : List Str) (f : Addr) (fd : FuncData) : Prop where
  F : Fun K nm nm st f fd
  m : mg nm = some (.ref f)
  b : Binds K fd ps []
/-- the law's own promise -/
def spLawJ (K : PySem.W.Frag) : Sp := fun vs H Q _ => ∃ (a : Addr) (ns : List Int), vs = [.ref a] ∧ SqL K H a (ns.map V.int) ∧ ns.length ≤ 63 ∧ ∀ H', Q (.bl true) H'
theorem law_top {P : Program} {w : World} {mg : Str → Option Value} {base : Heap} {k : Nat} {f : Addr} {fd : FuncData} {m : List Int → Bool} {pre : List Int → Prop}
    (F : FnOk P w K mg base CX0 k f fd ["script"] (SpD K pre (fun ns => [.dict [(.none, .list (ns.map .int))]]) (fun ns => .bool (m ns)))) (hm : ∀ ns : List Int, ns.length ≤ 63 → pre ns ∧ m ns = true) : FnOk P w K mg base CX0 k f fd ["script"] (spLawJ K) :=
  F.imp fun vs H Q E ⟨a, ns, h1, h2, h3, q⟩ => by
    subst h1
    refine ⟨ns, H, (hm ns h3).1, Ex.refl H, .cons (.scr h2 (by rw [List.length_map]; show _ ≤ 16777216; omega) Rps.ints) .nil, fun v C' H' _ _ _ r => ?_⟩
    have r : Rp K C' v (.bool (m ns)) := r
    rw [(hm ns h3).2] at r
    cases r
    exact q H'
theorem walkJ {l : PySem.W.OpenLaw} {q : Program} {loose : List Str} {XP : (Str → Option Value) → Heap → Prop} {YP : World → Heap → Prop} {d : DefRec} {K : Params → PySem.W.Frag} {k : Nat} (hn : l.most = some 63) (hdf : d.params.defaults = []) (hr : Room k callerA)
    (hY : ∀ (w : World) (h : Heap), YP w h → (K w.params).In h)
    (F : ∀ (w : World) (mg : Str → Option Value) (fa : Addr) (h : Heap), (K w.params).In h → h.Ns mainGlobals mg → mg d.name = some (.ref fa) →
      ∃ fd : FuncData, (∀ (s : Shared) (u : Value), BindsTo s fd ⟨[u], []⟩ [("script", u)]) ∧ ∀ base : Heap, (K w.params).In base → base.Ns mainGlobals mg → FnOk l.prog w (K w.params) mg base CX0 k fa fd ["script"] (spLawJ (K w.params))) :
    PySem.W.WalkO q loose XP YP l.row.toRowW d [] (fun f vs => PySem.call f vs) :=
  L2.walk_of (n := 63) (k := k) (x := "script") (CX := fun _ => CX0) (sp := fun w => spLawJ (K w.params)) hn (by decide) hdf hr hY F (fun _ _ a ns hl _ hS => ⟨a, ns, rfl, hS, hl, fun _ => rfl⟩) fun _ _ _ _ _ z => z
end
end J
namespace J
open PySem L2 PySem.Spec PyProof.Rows
/-! ### what _law_same says of data of one kind -/
section
variable {α β γ δ ε ζ : Type} {f : α → PyData} {g : β → PyData} {h : γ → PyData} {i : δ → PyData} {j : ε → PyData} {k : ζ → PyData} {n : Nat}
theorem sameP_up {x y : PyData} {m : Nat} (h : SameP m x y) : ∀ {n : Nat}, m ≤ n → SameP n x y := by
  induction h with
  | non => intro n hn; exact .non
  | non1 h => intro n hn; exact .non1 h
  | non2 h => intro n hn; exact .non2 h
  | int i j => intro n hn; exact .int i j
  | bool i j => intro n hn; exact .bool i j
  | str i j => intro n hn; exact .str i j
  | lst h ih =>
    intro n hn
    obtain ⟨m, rfl⟩ : ∃ m, n = m + 1 := ⟨n - 1, by omega⟩
    exact .lst fun i x y h1 h2 => ih i x y h1 h2 (by omega)
  | tup h ih =>
    intro n hn
    obtain ⟨m, rfl⟩ : ∃ m, n = m + 1 := ⟨n - 1, by omega⟩
    exact .tup fun i x y h1 h2 => ih i x y h1 h2 (by omega)
def SpE (f : α → PyData) (n : Nat) : Prop := ∀ a b, SameP n (f a) (f b)
theorem sp_int : SpE PyData.int n := fun a b => .int a b
theorem sp_bool : SpE PyData.bool n := fun a b => .bool a b
theorem sp_str : SpE PyData.str n := fun a b => .str a b
theorem SpE.all (F : SpE f n) (xs ys : List α) : ∀ (i : Nat) x y, (xs.map f)[i]? = some x → (ys.map f)[i]? = some y → SameP n x y := fun i x y h1 h2 => by
  rw [List.getElem?_map] at h1 h2
  cases q1 : xs[i]? with
  | none => rw [q1] at h1; cases h1
  | some a =>
    cases q2 : ys[i]? with
    | none => rw [q2] at h2; cases h2
    | some b => rw [q1] at h1; rw [q2] at h2; cases h1; cases h2; exact F a b
theorem sp_l (F : SpE f n) : SpE (eL f) (n + 1) := fun a b => .lst (F.all a b)
theorem sp_t (F : SpE f n) : SpE (eT f) (n + 1) := fun a b => .tup (F.all a b)
theorem sp_o (F : SpE f n) (hn : ∀ a, noDc (f a) = true) : SpE (eO f) n := fun a b => by
  cases a with
  | none => cases b with
    | none => exact .non
    | some b => exact .non1 (hn b)
  | some a => cases b with
    | none => exact .non2 (hn a)
    | some b => exact F a b
def SameL (n : Nat) : List PyData → List PyData → Prop
  | [], _ => True
  | _ :: _, [] => True
  | x :: xs, y :: ys => SameP n x y ∧ SameL n xs ys
theorem SameL.get : ∀ {xs ys : List PyData}, SameL n xs ys → ∀ (i : Nat) x y, xs[i]? = some x → ys[i]? = some y → SameP n x y
  | [], _, _ => fun i x y h => by simp at h
  | _ :: _, [], _ => fun i x y _ h => by simp at h
  | a :: xs, b :: ys, h => fun i x y h1 h2 => by
    cases i with
    | zero => simp at h1 h2; subst h1; subst h2; exact h.1
    | succ i => exact SameL.get h.2 i x y (by simpa using h1) (by simpa using h2)
theorem sp_p1 (F : SpE f n) : SpE (eP1 f) (n + 1) := fun a b => .tup (SameL.get ⟨F _ _, trivial⟩)
theorem sp_p2 (F : SpE f n) (G : SpE g n) : SpE (eP2 f g) (n + 1) := fun a b => .tup (SameL.get ⟨F _ _, G _ _, trivial⟩)
theorem sp_p3 (F : SpE f n) (G : SpE g n) (H : SpE h n) : SpE (eP3 f g h) (n + 1) := fun a b => .tup (SameL.get ⟨F _ _, G _ _, H _ _, trivial⟩)
theorem sp_p4 (F : SpE f n) (G : SpE g n) (H : SpE h n) (I : SpE i n) : SpE (eP4 f g h i) (n + 1) := fun a b => .tup (SameL.get ⟨F _ _, G _ _, H _ _, I _ _, trivial⟩)
theorem sp_p5 (F : SpE f n) (G : SpE g n) (H : SpE h n) (I : SpE i n) (J : SpE j n) : SpE (eP5 f g h i j) (n + 1) := fun a b => .tup (SameL.get ⟨F _ _, G _ _, H _ _, I _ _, J _ _, trivial⟩)
theorem sp_p6 (F : SpE f n) (G : SpE g n) (H : SpE h n) (I : SpE i n) (J : SpE j n) (K : SpE k n) : SpE (eP6 f g h i j k) (n + 1) := fun a b => .tup (SameL.get ⟨F _ _, G _ _, H _ _, I _ _, J _ _, K _ _, trivial⟩)
variable [DecidableEq α] [DecidableEq β] [DecidableEq γ] [DecidableEq δ] [DecidableEq ε] [DecidableEq ζ]
def SmE {α : Type} [DecidableEq α] (f : α → PyData) : Prop := ∀ a b, sameD (f a) (f b) = decide (a = b)
theorem sm_int : SmE PyData.int := fun a b => by simp [sameD]
theorem sm_bool : SmE PyData.bool := fun a b => by simp [sameD, Bool.beq_eq_decide_eq]
theorem sm_str : SmE PyData.str := fun a b => by simp [sameD]
theorem sm_all (F : SmE f) : ∀ xs ys : List α, (decide ((xs.map f).length = (ys.map f).length) && sameD.sameAll (xs.map f) (ys.map f)) = decide (xs = ys)
  | [], [] => by simp [sameD.sameAll]
  | [], y :: ys => by simp
  | x :: xs, [] => by simp
  | x :: xs, y :: ys => by
    have ih := sm_all F xs ys
    simp only [List.length_map] at ih
    rw [List.map_cons, List.map_cons, sameD.sameAll, F, List.length_cons, List.length_cons]
    simp only [List.length_map, Nat.succ.injEq, List.cons.injEq, Nat.add_right_cancel_iff]
    rw [Bool.decide_and, ← ih]
    cases decide (x = y) <;> cases decide (xs.length = ys.length) <;> simp
theorem sm_l (F : SmE f) : SmE (eL f) := fun a b => by
  show sameD (.list _) (.list _) = _
  rw [sameD]; exact sm_all F a b
theorem sm_t (F : SmE f) : SmE (eT f) := fun a b => by
  show sameD (.tuple _) (.tuple _) = _
  rw [sameD]; exact sm_all F a b
theorem sm_o (F : SmE f) (hn : ∀ a, sameD .none (f a) = false ∧ sameD (f a) .none = false) : SmE (eO f) := fun a b => by
  cases a with
  | none => cases b with
    | none => simp [sameD]
    | some b => simp [(hn b).1]
  | some a => cases b with
    | none => simp [(hn a).2]
    | some b => rw [show eO f (some a) = f a from rfl, show eO f (some b) = f b from rfl, F]; simp
theorem sm_p1 (F : SmE f) : SmE (eP1 f) := fun a b => by
  show sameD (.tuple _) (.tuple _) = _
  rw [sameD]; simp [sameD.sameAll, F _ _]
theorem sm_p2 (F : SmE f) (G : SmE g) : SmE (eP2 f g) := fun a b => by
  show sameD (.tuple _) (.tuple _) = _
  rw [sameD]; simp [sameD.sameAll, F _ _, G _ _, Prod.ext_iff]
theorem sm_p3 (F : SmE f) (G : SmE g) (H : SmE h) : SmE (eP3 f g h) := fun a b => by
  show sameD (.tuple _) (.tuple _) = _
  rw [sameD]; simp [sameD.sameAll, F _ _, G _ _, H _ _, Prod.ext_iff]
theorem sm_p4 (F : SmE f) (G : SmE g) (H : SmE h) (I : SmE i) : SmE (eP4 f g h i) := fun a b => by
  show sameD (.tuple _) (.tuple _) = _
  rw [sameD]; simp [sameD.sameAll, F _ _, G _ _, H _ _, I _ _, Prod.ext_iff]
theorem sm_p5 (F : SmE f) (G : SmE g) (H : SmE h) (I : SmE i) (J : SmE j) : SmE (eP5 f g h i j) := fun a b => by
  show sameD (.tuple _) (.tuple _) = _
  rw [sameD]; simp [sameD.sameAll, F _ _, G _ _, H _ _, I _ _, J _ _, Prod.ext_iff]
theorem sm_p6 (F : SmE f) (G : SmE g) (H : SmE h) (I : SmE i) (J : SmE j) (K : SmE k) : SmE (eP6 f g h i j k) := fun a b => by
  show sameD (.tuple _) (.tuple _) = _
  rw [sameD]; simp [sameD.sameAll, F _ _, G _ _, H _ _, I _ _, J _ _, K _ _, Prod.ext_iff]
omit [DecidableEq β] [DecidableEq γ] [DecidableEq δ] [DecidableEq ε] [DecidableEq ζ] in
theorem same_q (F : SmE f) (a b : α) : PyData.bool (sameD (f a) (f b)) = .bool (decide (a = b)) := by rw [F a b]
end
/-! ### results that have a name -/
section
variable {T : TC} {a b e : Expr} {es : List Expr} {env e0 e1 e2 e3 : Env'} {pos p : Pos} {α β γ : Type} {tg iter elt : Expr} {scope : Scope}
theorem je_lcDq {β S : Type} {enc : α → PyData} {xs : List α} (m : List β × S) (own : List (Str × Nat)) (Ev : S → Env') (dec : β → PyData) (f : S → α → β × S) (s0 : S) (hm : m = mapS f s0 xs) (hi : JI T tg iter e0 (Ev s0) (xs.map enc)) (hnd : T.N.Nodup) (ok : blkC T.N T.sc scope own = true) (hu : ∀ s, unk (Ev s) (own.map (·.2)))
    (turn : ∀ s x, x ∈ xs → LcD T scope tg elt own Ev dec (enc x) s (f s x)) (hs : ∀ (v : Env) x, foldedSetIterable iter v x = pure x := by intro _ _; rfl) : JE T (.ListComp elt [⟨tg, iter, [], 0⟩] scope pos) e0 (Ev m.2) (.o (.list (m.1.map dec))) := by
  subst hm; exact je_lcD own Ev dec f s0 hi hnd ok hu turn hs
theorem js_setLcDq {β S : Type} {enc : α → PyData} {xs : List α} (m : List β × S) (i : Nat) {nm : Str} {py spos : Pos} (own : List (Str × Nat)) (Ev : S → Env') (dec : β → PyData) (f : S → α → β × S) (s0 : S) (hm : m = mapS f s0 xs) (hi : JI T tg iter e0 (Ev s0) (xs.map enc)) (hnd : T.N.Nodup) (ok : blkC T.N T.sc scope own = true) (hu : ∀ s, unk (Ev s) (own.map (·.2)))
    (turn : ∀ s x, x ∈ xs → LcD T scope tg elt own Ev dec (enc x) s (f s x)) (hN : T.N[i]? = some nm := by rfl) (hl : T.sc.names.lookup nm = some .local := by rfl) (hk : T.sc.kind = .function := by rfl) (hpl : (py.line == pos.line) = true := by rfl) (ha : (scope.names.any fun (n, k) => n == nm && (k == .local || k == .cell)) = false := by decide +kernel) (hs : ∀ (v : Env) x, foldedSetIterable iter v x = pure x := by intro _ _; rfl) :
    JS T (.Assign [.Name nm py] (.ListComp elt [⟨tg, iter, [], 0⟩] scope pos) spos) e0 (.nx ((Ev m.2).set i (.o none (.list (m.1.map dec))))) := by
  subst hm; exact js_setLcD i own Ev dec f s0 hi hnd ok hu turn hN hl hk hpl ha hs
theorem je_ifsq {α : Type} (r : α) (enc : α → PyData) (Ev : α → Env') {t : Expr} {c : Bool} {u w : α} (hr : r = if c = true then u else w) (ht : JT T t e0 e1 c) (ha : c = true → JE T a e1 (Ev u) (.d (enc u))) (hb : c = false → JE T b e1 (Ev w) (.d (enc w))) : JE T (.IfExp t a b pos) e0 (Ev r) (.d (enc r)) := by
  subst hr; exact je_ifs enc Ev ht ha hb
end
end J
namespace J
open PySem L2 PySem.Spec PyProof.Rows PySem.W
/-! ### plain laws: order of data -/
theorem snocInd {α : Type} {P : List α → Prop} (h0 : P []) (h1 : ∀ xs x, P xs → P (xs ++ [x])) : ∀ xs, P xs := fun xs => by
  have : ∀ n (xs : List α), xs.length = n → P xs := by
    intro n
    induction n with
    | zero => intro xs h; rw [List.length_eq_zero_iff.mp h]; exact h0
    | succ n ih =>
      intro xs h
      have hne : xs ≠ [] := by intro q; subst q; simp at h
      rw [← List.dropLast_concat_getLast hne]
      exact h1 _ _ (ih _ (by rw [List.length_dropLast]; omega))
  exact this _ xs rfl
def ltB {α : Type} (f : α → PyData) (a b : α) : Bool := dataLt (f a) (f b)
theorem dataLe_eq {α : Type} (f : α → PyData) (a b : α) : dataLe false f a b = !ltB f b a := rfl
theorem ltB_int (a b : Int) : ltB PyData.int a b = decide (a < b) := dataLt_int a b
theorem dataLt_irrefl (d : PyData) : dataLt d d = false := (listOrd itemOrd).irrefl (keyToks d)
theorem ltB_p2 {α β : Type} [DecidableEq α] [DecidableEq β] {f : α → PyData} {g : β → PyData} (F : AlkE f) (G : AlkE g) (Fe : EqE f) (Ge : EqE g) (p q : α × β) : ltB (eP2 f g) p q = if p.1 = q.1 then ltB g p.2 q.2 else ltB f p.1 q.1 := by
  show dataLt (.tuple _) (.tuple _) = _
  rw [dataLt_tuple]
  by_cases h : p.1 = q.1
  · rw [if_pos h, dataLt_all_yes (F.1 _ _) (by rw [Fe]; simp [h])]
    by_cases h2 : p.2 = q.2
    · rw [dataLt_all_yes (G.1 _ _) (by rw [Ge]; simp [h2])]
      unfold ltB; rw [h2]
      have e1 : lexLt itemOrd (keyToksAll []) (keyToksAll []) = false := by
        unfold keyToksAll; rw [lex_one]; simp [itemLt]
      rw [e1]
      exact (dataLt_irrefl _).symm
    · rw [dataLt_all_no (G.1 _ _) (by rw [Ge]; simp [h2])]; rfl
  · rw [if_neg h, dataLt_all_no (F.1 _ _) (by rw [Fe]; simp [h])]; rfl
/-- lists of one kind, compared place by place -/
def ltLs {α : Type} [DecidableEq α] (f : α → PyData) : List α → List α → Bool
  | [], [] => false
  | [], _ :: _ => true
  | _ :: _, [] => false
  | x :: xs, y :: ys => if x = y then ltLs f xs ys else ltB f x y
theorem lex_ltLs {α : Type} [DecidableEq α] {f : α → PyData} (F : AlkE f) (Fe : EqE f) : ∀ xs ys : List α, lexLt itemOrd (keyToksAll (xs.map f)) (keyToksAll (ys.map f)) = ltLs f xs ys
  | [], [] => by
    show lexLt itemOrd (keyToksAll []) (keyToksAll []) = false
    exact (listOrd itemOrd).irrefl (keyToksAll [])
  | [], y :: ys => by
    show lexLt itemOrd (keyToksAll []) (keyToksAll (f y :: ys.map f)) = true
    rw [toks_all_cons]; unfold keyToksAll
    rw [lex_atom (by simp), lex_one]; simp [itemLt]
  | x :: xs, [] => by
    show lexLt itemOrd (keyToksAll (f x :: xs.map f)) (keyToksAll []) = false
    rw [toks_all_cons]; unfold keyToksAll
    rw [lex_atom (by simp), lex_one]; simp [itemLt]
  | x :: xs, y :: ys => by
    show lexLt itemOrd (keyToksAll (f x :: xs.map f)) (keyToksAll (f y :: ys.map f)) = _
    unfold ltLs
    by_cases h : x = y
    · rw [if_pos h, dataLt_all_yes (F.1 _ _) (by rw [Fe]; simp [h]), lex_ltLs F Fe xs ys]
    · rw [if_neg h, dataLt_all_no (F.1 _ _) (by rw [Fe]; simp [h])]; rfl
theorem ltB_t {α : Type} [DecidableEq α] {f : α → PyData} (F : AlkE f) (Fe : EqE f) (xs ys : List α) : ltB (eT f) xs ys = ltLs f xs ys := by
  show dataLt (.tuple _) (.tuple _) = _
  rw [dataLt_tuple, lex_ltLs F Fe]
theorem ltB_l {α : Type} [DecidableEq α] {f : α → PyData} (F : AlkE f) (Fe : EqE f) (xs ys : List α) : ltB (eL f) xs ys = ltLs f xs ys := by
  show dataLt (.list _) (.list _) = _
  rw [dataLt_list, lex_ltLs F Fe]
/-! ### sorted -/
theorem ltB_irr {α : Type} (f : α → PyData) (a : α) : ltB f a a = false := dataLt_irrefl _
theorem dataLe_total {α : Type} (f : α → PyData) : TotalLe (dataLe false f) := sortLe_total _ _ _
theorem pySort_perm {α : Type} (f : α → PyData) (xs : List α) : (pySort f xs).Perm xs := List.mergeSort_perm _ _
theorem pySort_mem {α : Type} {f : α → PyData} {xs : List α} {x : α} : x ∈ pySort f xs ↔ x ∈ xs := (pySort_perm f xs).mem_iff
theorem pySort_len {α : Type} (f : α → PyData) (xs : List α) : (pySort f xs).length = xs.length := (pySort_perm f xs).length_eq
theorem pySort_sorted {α : Type} (f : α → PyData) (xs : List α) : (pySort f xs).Pairwise fun a b => ltB f b a = false :=
  (sort_pairwise (dataLe_total f) xs).imp fun h => by rw [dataLe_eq] at h; simpa using h
/-- an order like that of the others keeps what is sorted -/
theorem pySort_map {α β : Type} {f : α → PyData} {g : β → PyData} (h : α → β) (xs : List α) (hh : ∀ a ∈ xs, ∀ b ∈ xs, ltB f a b = ltB g (h a) (h b)) : (pySort f xs).map h = pySort g (xs.map h) :=
  List.map_mergeSort fun a ha b hb => by rw [dataLe_eq, dataLe_eq, hh b hb a ha]
/-! ### loops that look for something -/
theorem forR_find {α ρ L : Type} {step : L → α → L ⊕ ρ} {p : α → Bool} {g : α → ρ} (l0 : L) (h : ∀ x, step l0 x = if p x = true then .inr (g x) else .inl l0) : ∀ xs : List α, forR step l0 xs = match xs.find? p with
    | some x => .inr (g x)
    | none => .inl l0
  | [] => rfl
  | x :: xs => by
    rw [forR, h x, List.find?_cons]
    cases q : p x with
    | true => rfl
    | false =>
      simp only [Bool.false_eq_true, if_false]
      exact forR_find l0 h xs
/-- the first that fits, kept -/
theorem foldl_first {α β : Type} (p : α → Bool) (g : α → β) : ∀ (xs : List α) (o : Option β), xs.foldl (fun o x => if (o.isNone && p x) = true then some (g x) else o) o = o.or ((xs.find? p).map g)
  | [], o => by simp
  | x :: xs, o => by
    rw [List.foldl_cons, foldl_first p g xs, List.find?_cons]
    cases o with
    | some b => simp
    | none => cases q : p x <;> simp [q]
/-! ### whole numbers -/
theorem rgI_mem_iff {lo hi k : Int} : k ∈ rgI lo hi ↔ lo ≤ k ∧ k < hi := by
  unfold rgI
  rw [List.mem_map]
  constructor
  · rintro ⟨i, h, rfl⟩; have := List.mem_range.mp h; omega
  · rintro ⟨h1, h2⟩; exact ⟨(k - lo).toNat, List.mem_range.mpr (by omega), by omega⟩
theorem rgI_nil {lo hi : Int} (h : hi ≤ lo) : rgI lo hi = [] := by
  unfold rgI; rw [show (hi - lo).toNat = 0 by omega]; rfl
theorem rgI_snoc {lo hi : Int} (h : lo ≤ hi) : rgI lo (hi + 1) = rgI lo hi ++ [hi] := by
  unfold rgI
  rw [show (hi + 1 - lo).toNat = (hi - lo).toNat + 1 by omega, List.range_succ, List.map_append]
  simp; omega
theorem rgI_cons {lo hi : Int} (h : lo < hi) : rgI lo hi = lo :: rgI (lo + 1) hi := by
  unfold rgI
  rw [show (hi - lo).toNat = (hi - (lo + 1)).toNat + 1 by omega, List.range_succ_eq_map, List.map_cons, List.map_map]
  simp only [Int.natCast_zero, Int.add_zero, List.cons.injEq, true_and]
  apply List.map_congr_left
  intro a _
  simp only [Function.comp_apply]
  omega
theorem gI_mem {α : Type} [Inhabited α] {xs : List α} {i : Int} (h : inR xs.length i) : gI xs i ∈ xs := by
  have := gI_some h
  unfold atI at this
  cases q : ixN xs.length i with
  | none => rw [q] at this; cases this
  | some j => rw [q] at this; exact List.mem_of_getElem? this
/-- the things at all places -/
theorem map_gI {α : Type} [Inhabited α] (xs : List α) : (rgI 0 xs.length).map (gI xs) = xs := by
  rw [rgI_zero, List.map_map]
  apply List.ext_getElem?
  intro i
  rw [List.getElem?_map]
  by_cases h : i < xs.length
  · rw [List.getElem?_range h]
    simp [gI_nat, h]
  · rw [List.getElem?_eq_none (by simpa using h), List.getElem?_eq_none (by simpa using h)]; rfl
theorem enumL_eq {α : Type} [Inhabited α] (xs : List α) : enumL xs = (rgI 0 xs.length).map fun k => (k, gI xs k) := by
  rw [rgI_zero, List.map_map]
  unfold enumL
  apply List.ext_getElem?
  intro i
  rw [List.getElem?_map, List.getElem?_map]
  by_cases h : i < xs.length
  · rw [List.getElem?_range h]
    simp [gI_nat, h]
  · rw [List.getElem?_eq_none (by simpa using h), List.getElem?_eq_none (by simpa using h)]; rfl
theorem drN_lit {n : Int} (h1 : 0 < n) (h2 : n < 1073741824) : drN n := ⟨h1, h2⟩
end J
namespace J
open PySem L2 PySem.Spec PyProof.Rows PySem.W
/-! ### plain laws: all sets of names, in order -/
section
variable {α : Type}
def stp (l : List (List α)) (x : α) : List (List α) := l ++ l.map fun s => s ++ [x]
def allS (names : List α) : List (List α) := names.foldl stp [[]]
abbrev encS (f : α → PyData) : Int × List α → PyData := eP2 PyData.int (eT f)
def srtS (f : α → PyData) (l : List (List α)) : List (List α) := (pySort (encS f) (l.map fun s => ((s.length : Int), s))).map fun q => q.2
def lsets (f : α → PyData) (names : List α) : List (List α) := srtS f (allS names)
theorem stp_mem {l : List (List α)} {x : α} {s : List α} : s ∈ stp l x ↔ s ∈ l ∨ ∃ t ∈ l, s = t ++ [x] := by
  unfold stp; simp [List.mem_append, List.mem_map, eq_comm]
theorem allS_snoc (names : List α) (x : α) : allS (names ++ [x]) = stp (allS names) x := by
  unfold allS; rw [List.foldl_append]; rfl
theorem srtS_mem {f : α → PyData} {l : List (List α)} {s : List α} : s ∈ srtS f l ↔ s ∈ l := by
  unfold srtS pySort
  simp only [List.mem_map, List.mem_mergeSort]
  constructor
  · rintro ⟨q, ⟨t, ht, rfl⟩, rfl⟩; exact ht
  · intro h; exact ⟨_, ⟨s, h, rfl⟩, rfl⟩
theorem allS_sub (names : List α) : ∀ s ∈ allS names, s.Sublist names := by
  induction names using J.snocInd with
  | h0 => intro s hs; simp [allS] at hs; subst hs; exact List.Sublist.refl _
  | h1 xs x ih =>
    intro s hs
    rw [allS_snoc, stp_mem] at hs
    rcases hs with hs | ⟨t, ht, rfl⟩
    · exact (ih s hs).trans (List.sublist_append_left _ _)
    · exact (ih t ht).append (List.Sublist.refl _)
theorem allS_self (names : List α) : names ∈ allS names := by
  induction names using J.snocInd with
  | h0 => simp [allS]
  | h1 xs x ih => rw [allS_snoc, stp_mem]; exact .inr ⟨xs, ih, rfl⟩
theorem allS_nil (names : List α) : [] ∈ allS names := by
  induction names using J.snocInd with
  | h0 => simp [allS]
  | h1 xs x ih => rw [allS_snoc, stp_mem]; exact .inl ih
theorem allS_len (names : List α) : (allS names).length = 2 ^ names.length := by
  induction names using J.snocInd with
  | h0 => rfl
  | h1 xs x ih => rw [allS_snoc]; unfold stp; simp [ih, Nat.pow_succ]; omega
theorem allS_all (names s : List α) (h : s.Sublist names) : s ∈ allS names := by
  revert s
  induction names using J.snocInd with
  | h0 => intro s h; simp [allS]; exact List.sublist_nil.mp h
  | h1 xs x ih =>
    intro s h
    rw [allS_snoc, stp_mem]
    obtain ⟨a, b, rfl, ha, hb⟩ := List.sublist_append_iff.mp h
    cases b with
    | nil => rw [List.append_nil]; exact .inl (ih a ha)
    | cons y b =>
      have hb0 : b = [] := by
        have h1 := hb.length_le
        rw [List.length_cons, List.length_singleton] at h1
        exact List.length_eq_zero_iff.mp (by omega)
      subst hb0
      have : y = x := by simpa using hb.subset (List.mem_singleton.mpr rfl : y ∈ [y])
      subst this
      exact .inr ⟨a, ih a ha, rfl⟩
theorem lsets_mem {f : α → PyData} {names s : List α} : s ∈ lsets f names ↔ s.Sublist names := by
  unfold lsets; rw [srtS_mem]; exact ⟨allS_sub _ _, allS_all _ _⟩
theorem lsets_self (f : α → PyData) (names : List α) : names ∈ lsets f names := lsets_mem.mpr (List.Sublist.refl _)
theorem lsets_len (f : α → PyData) (names : List α) : (lsets f names).length = 2 ^ names.length := by
  unfold lsets srtS; rw [List.length_map, pySort_len, List.length_map, allS_len]
theorem allS_map {β : Type} (h : α → β) (names : List α) : allS (names.map h) = (allS names).map (List.map h) := by
  induction names using J.snocInd with
  | h0 => rfl
  | h1 xs x ih =>
    rw [List.map_append, List.map_singleton, allS_snoc, ih, allS_snoc]
    unfold stp
    simp [List.map_append, List.map_map, Function.comp_def]
/-- the sets of names at rising places -/
theorem lsets_map {β : Type} [DecidableEq α] [DecidableEq β] {f : α → PyData} {g : β → PyData} (F : AlkE f) (Fe : EqE f) (G : AlkE g) (Ge : EqE g) (h : α → β) (names : List α) (inj : ∀ a ∈ names, ∀ b ∈ names, h a = h b → a = b) (hf : ∀ a ∈ names, ∀ b ∈ names, ltB f a b = ltB g (h a) (h b)) : lsets g (names.map h) = (lsets f names).map (List.map h) := by
  have lts : ∀ s t : List α, (∀ a ∈ s, a ∈ names) → (∀ a ∈ t, a ∈ names) → ltLs f s t = ltLs g (s.map h) (t.map h) := by
    intro s
    induction s with
    | nil => intro t _ _; cases t <;> rfl
    | cons a s ih =>
      intro t hs ht
      cases t with
      | nil => rfl
      | cons b t =>
        have ha := hs a (by simp)
        have hb := ht b (by simp)
        simp only [List.map_cons, ltLs]
        rw [ih t (fun x hx => hs x (by simp [hx])) (fun x hx => ht x (by simp [hx]))]
        by_cases q : a = b
        · subst q; simp
        · have : h a ≠ h b := fun h => q (inj a ha b hb h)
          rw [if_neg q, if_neg this, hf a ha b hb]
  unfold lsets
  rw [allS_map]
  unfold srtS
  rw [List.map_map, List.map_map]
  have := pySort_map (f := encS f) (g := encS g) (fun q : Int × List α => (q.1, q.2.map h)) ((allS names).map fun s => ((s.length : Int), s)) (fun a ha b hb => by
    obtain ⟨s, hs, rfl⟩ := List.mem_map.mp ha
    obtain ⟨t, ht, rfl⟩ := List.mem_map.mp hb
    rw [ltB_p2 alk_int (alk_t F) eqe_int (eqe_t Fe), ltB_p2 alk_int (alk_t G) eqe_int (eqe_t Ge), ltB_t F Fe, ltB_t G Ge]
    simp only
    rw [lts s t (fun x hx => (allS_sub _ _ hs).subset hx) (fun x hx => (allS_sub _ _ ht).subset hx)])
  rw [List.map_map] at this
  have e : ((fun q : Int × List α => (q.1, q.2.map h)) ∘ fun s : List α => ((s.length : Int), s)) = ((fun s : List β => ((s.length : Int), s)) ∘ List.map h) := by
    funext s; simp
  rw [e] at this
  rw [← this, List.map_map]
  rfl
theorem allS_one [DecidableEq α] (names : List α) : (allS names).count [] = 1 := by
  induction names using J.snocInd with
  | h0 => rfl
  | h1 xs x ih =>
    rw [allS_snoc]; unfold stp
    rw [List.count_append, ih]
    have : (List.map (fun s => s ++ [x]) (allS xs)).count [] = 0 := by
      rw [List.count_eq_zero]; simp
    omega
theorem srtS_perm (f : α → PyData) (l : List (List α)) : (srtS f l).Perm l := by
  unfold srtS
  have := (pySort_perm (encS f) (l.map fun s => ((s.length : Int), s))).map (fun q : Int × List α => q.2)
  rw [List.map_map] at this
  have e : ((fun q : Int × List α => q.2) ∘ fun s : List α => ((s.length : Int), s)) = id := rfl
  rw [e, List.map_id] at this
  exact this
/-- the smallest one ahead -/
theorem lsets_head [DecidableEq α] {f : α → PyData} (F : AlkE f) (Fe : EqE f) (names : List α) : ∃ r, lsets f names = [] :: r ∧ ∀ s ∈ r, s ≠ [] := by
  have hp := srtS_perm f (allS names)
  have hs := pySort_sorted (encS f) ((allS names).map fun s => ((s.length : Int), s))
  have hc := hp.count_eq []
  rw [allS_one] at hc
  have hn : [] ∈ srtS f (allS names) := srtS_mem.mpr (allS_nil _)
  have hq : ∀ q ∈ pySort (encS f) ((allS names).map fun s => ((s.length : Int), s)), q.1 = q.2.length := fun q hq => by
    rw [pySort_mem] at hq
    obtain ⟨s, _, rfl⟩ := List.mem_map.mp hq
    rfl
  unfold lsets
  unfold srtS at hc hn ⊢
  cases e : pySort (encS f) ((allS names).map fun s => ((s.length : Int), s)) with
  | nil => rw [e] at hn; cases hn
  | cons p r =>
    rw [e] at hs hc hn hq
    have hp0 : p.2 = [] := by
      rcases List.mem_cons.mp hn with h | h
      · exact h.symm
      · obtain ⟨q, hqr, hq0⟩ := List.mem_map.mp h
        have := (List.pairwise_cons.mp hs).1 q hqr
        rw [ltB_p2 alk_int (alk_t F) eqe_int (eqe_t Fe), hq q (by simp [hqr]), hq p (by simp), hq0, ltB_t F Fe, ltB_int] at this
        cases e2 : p.2 with
        | nil => rfl
        | cons a s =>
          rw [e2] at this
          simp at this
          omega
    refine ⟨r.map (fun q => q.2), by rw [List.map_cons, hp0], fun s hs h0 => ?_⟩
    subst h0
    rw [List.map_cons, hp0, List.count_cons_self] at hc
    have := List.count_pos_iff.mpr hs
    omega
end
end J
namespace J
open PySem L2 PySem.Spec PyProof.Rows PySem.W
section
variable {T : TC} {a b c e : Expr} {es : List Expr} {env e0 e1 e2 e3 : Env'} {pos p p1 p2 p3 : Pos} {x y z : PyData} {ds : List PyData} {K : PySem.W.Frag} {R C C' H H' : Hp} {σ : L2.St} {v : V} {α β γ : Type} {enc : α → PyData} {dec : β → PyData}
/-! ### order of data -/
def rCmpD (f : PyData → PyData → Bool) (K : PySem.W.Frag) : R2 := fun x y H Q => ∃ d e, Dp K H x d ∧ Dp K H y e ∧ alike d e = true ∧ d ≠ .none ∧ d.depth ≤ 64 ∧ Q (.bl (f d e)) H
theorem op_ltD {X : Cx} (hu : X.A.units + 64 < cLine) : OpR X (compareOp .Lt) (rCmpD dataLt X.K) := by
  intro pins s σ H x y v u Q I rx ry ⟨d, e, hd, he, al, hn, dp, q⟩
  obtain ⟨as, r1⟩ := Dp.reads I d x v hd rx
  obtain ⟨bs, r2⟩ := Dp.reads I e y u he ry
  exact lt_data r1 r2 al hn (by omega) ⟨.bl _, H, I, rfl, q⟩
theorem op_gtD {X : Cx} (hu : X.A.units + 64 < cLine) : OpR X (compareOp .Gt) (rCmpD (fun x y => dataLt y x) X.K) := by
  intro pins s σ H x y v u Q I rx ry ⟨d, e, hd, he, al, hn, dp, q⟩
  obtain ⟨as, r1⟩ := Dp.reads I d x v hd rx
  obtain ⟨bs, r2⟩ := Dp.reads I e y u he ry
  exact gt_data r1 r2 al hn (by omega) ⟨.bl _, H, I, rfl, q⟩
theorem op_leD {X : Cx} (hu : X.A.units + 64 < cLine) : OpR X (compareOp .LtE) (rCmpD (fun x y => !dataLt y x) X.K) := by
  intro pins s σ H x y v u Q I rx ry ⟨d, e, hd, he, al, hn, dp, q⟩
  obtain ⟨as, r1⟩ := Dp.reads I d x v hd rx
  obtain ⟨bs, r2⟩ := Dp.reads I e y u he ry
  exact le_data r1 r2 al hn (by omega) ⟨.bl _, H, I, rfl, q⟩
theorem op_geD {X : Cx} (hu : X.A.units + 64 < cLine) : OpR X (compareOp .GtE) (rCmpD (fun x y => !dataLt x y) X.K) := by
  intro pins s σ H x y v u Q I rx ry ⟨d, e, hd, he, al, hn, dp, q⟩
  obtain ⟨as, r1⟩ := Dp.reads I d x v hd rx
  obtain ⟨bs, r2⟩ := Dp.reads I e y u he ry
  exact ge_data r1 r2 al hn (by omega) ⟨.bl _, H, I, rfl, q⟩
theorem cmpD_ok {f : PyData → PyData → Bool} (al : alike x y = true) (hn : x ≠ .none) (sx : shN 64 x = true) (sy : shN 64 y = true) : Op2B T (rCmpD f) x y (.d (.bool (f x y))) := fun R C H env σ u v Q E hu hv k =>
  ⟨x, y, (rb_rp E hu).dp' sx, (rb_rp E hv).dp' sy, al, hn, (shN_of sx).2, k _ C H (Ex.refl C) E (.bl _)⟩
theorem un64 {X : Cx} (hX : CT X T) : X.A.units + 64 < cLine := by have := hX.room.un; omega
theorem cj_ltE {x y : α} (h : JE2 T a b e0 e2 (enc x) (enc y)) (al : AlkE enc) (sh : ShE 64 enc) : CJ T .Lt a b e0 e2 (ltB enc x y) :=
  cj_mk (r := rCmpD dataLt) (fun X hX => op_ltD (un64 hX)) h (cmpD_ok (al.1 _ _) (al.2 _) (sh _) (sh _))
theorem cj_gtE {x y : α} (h : JE2 T a b e0 e2 (enc x) (enc y)) (al : AlkE enc) (sh : ShE 64 enc) : CJ T .Gt a b e0 e2 (ltB enc y x) :=
  cj_mk (r := rCmpD (fun x y => dataLt y x)) (fun X hX => op_gtD (un64 hX)) h (cmpD_ok (f := fun x y => dataLt y x) (al.1 _ _) (al.2 _) (sh _) (sh _))
theorem cj_leE {x y : α} (h : JE2 T a b e0 e2 (enc x) (enc y)) (al : AlkE enc) (sh : ShE 64 enc) : CJ T .LtE a b e0 e2 (!ltB enc y x) :=
  cj_mk (r := rCmpD (fun x y => !dataLt y x)) (fun X hX => op_leD (un64 hX)) h (cmpD_ok (f := fun x y => !dataLt y x) (al.1 _ _) (al.2 _) (sh _) (sh _))
theorem cj_geE {x y : α} (h : JE2 T a b e0 e2 (enc x) (enc y)) (al : AlkE enc) (sh : ShE 64 enc) : CJ T .GtE a b e0 e2 (!ltB enc x y) :=
  cj_mk (r := rCmpD (fun x y => !dataLt x y)) (fun X hX => op_geD (un64 hX)) h (cmpD_ok (f := fun x y => !dataLt x y) (al.1 _ _) (al.2 _) (sh _) (sh _))
/-- data of any kind, that turn out to be alike -/
def cmpOk (x y : PyData) : Prop := alike x y = true ∧ x ≠ .none ∧ shN 64 x = true ∧ shN 64 y = true
theorem cj_ltA (h : JE2 T a b e0 e2 x y) (k : cmpOk x y) : CJ T .Lt a b e0 e2 (dataLt x y) :=
  cj_mk (r := rCmpD dataLt) (fun X hX => op_ltD (un64 hX)) h (cmpD_ok k.1 k.2.1 k.2.2.1 k.2.2.2)
theorem cj_gtA (h : JE2 T a b e0 e2 x y) (k : cmpOk x y) : CJ T .Gt a b e0 e2 (dataLt y x) :=
  cj_mk (r := rCmpD (fun x y => dataLt y x)) (fun X hX => op_gtD (un64 hX)) h (cmpD_ok (f := fun x y => dataLt y x) k.1 k.2.1 k.2.2.1 k.2.2.2)
theorem cj_leA (h : JE2 T a b e0 e2 x y) (k : cmpOk x y) : CJ T .LtE a b e0 e2 (!dataLt y x) :=
  cj_mk (r := rCmpD (fun x y => !dataLt y x)) (fun X hX => op_leD (un64 hX)) h (cmpD_ok (f := fun x y => !dataLt y x) k.1 k.2.1 k.2.2.1 k.2.2.2)
theorem cj_geA (h : JE2 T a b e0 e2 x y) (k : cmpOk x y) : CJ T .GtE a b e0 e2 (!dataLt x y) :=
  cj_mk (r := rCmpD (fun x y => !dataLt x y)) (fun X hX => op_geD (un64 hX)) h (cmpD_ok (f := fun x y => !dataLt x y) k.1 k.2.1 k.2.2.1 k.2.2.2)
/-! ### data of any kind -/
@[reducible] def eD : PyData → PyData := fun d => d
def isLst : PyData → Bool | .list _ => true | _ => false
def isTup : PyData → Bool | .tuple _ => true | _ => false
def isBoo : PyData → Bool | .bool _ => true | _ => false
def isStr : PyData → Bool | .str _ => true | _ => false
def isInt : PyData → Bool | .int _ => true | .bool _ => true | _ => false
theorem kitLst {x : PyData} (h : noDc x = true) : kitB (tyD x) "list" = some (isLst x) := by cases x <;> first | (simp only [tyD, isLst]; decide +kernel) | cases h
theorem kitTup {x : PyData} (h : noDc x = true) : kitB (tyD x) "tuple" = some (isTup x) := by cases x <;> first | (simp only [tyD, isTup]; decide +kernel) | cases h
theorem kitBoo {x : PyData} (h : noDc x = true) : kitB (tyD x) "bool" = some (isBoo x) := by cases x <;> first | (simp only [tyD, isBoo]; decide +kernel) | cases h
theorem kitStr {x : PyData} (h : noDc x = true) : kitB (tyD x) "str" = some (isStr x) := by cases x <;> first | (simp only [tyD, isStr]; decide +kernel) | cases h
theorem kitInt {x : PyData} (h : noDc x = true) : kitB (tyD x) "int" = some (isInt x) := by cases x <;> first | (simp only [tyD, isInt]; decide +kernel) | cases h
/-- a thing told to be of a kind -/
theorem je_dec {y : α} (h : JE T e e0 e1 (.d x)) (q : enc y = x) : JE T e e0 e1 (.d (enc y)) := q ▸ h
def dI : PyData → Int | .int i => i | _ => 0
def dB : PyData → Bool | .bool i => i | _ => false
def dS : PyData → Str | .str i => i | _ => default
def dA : PyData → PyData := fun d => d
def dL (f : PyData → α) : PyData → List α | .list xs => xs.map f | _ => []
def dT (f : PyData → α) : PyData → List α | .tuple xs => xs.map f | _ => []
def dO (f : PyData → α) : PyData → Option α | .none => none | d => some (f d)
def dP2 (f : PyData → α) (g : PyData → β) : PyData → α × β | .tuple [a, b] => (f a, g b) | d => (f d, g d)
def dP3 (f : PyData → α) (g : PyData → β) (h : PyData → γ) : PyData → α × β × γ | .tuple [a, b, c] => (f a, g b, h c) | d => (f d, g d, h d)
def dP4 {δ : Type} (f : PyData → α) (g : PyData → β) (h : PyData → γ) (i : PyData → δ) : PyData → α × β × γ × δ | .tuple [a, b, c, d] => (f a, g b, h c, i d) | d => (f d, g d, h d, i d)
def dP5 {δ ε : Type} (f : PyData → α) (g : PyData → β) (h : PyData → γ) (i : PyData → δ) (j : PyData → ε) : PyData → α × β × γ × δ × ε | .tuple [a, b, c, d, e] => (f a, g b, h c, i d, j e) | d => (f d, g d, h d, i d, j d)
def dP6 {δ ε ζ : Type} (f : PyData → α) (g : PyData → β) (h : PyData → γ) (i : PyData → δ) (j : PyData → ε) (k : PyData → ζ) : PyData → α × β × γ × δ × ε × ζ | .tuple [a, b, c, d, e, m] => (f a, g b, h c, i d, j e, k m) | d => (f d, g d, h d, i d, j d, k d)
theorem je_isNA {j pos'} (ha : JE T a e0 e1 (.b x)) : JE T (.Compare a [.Is] [.Constant .none j pos'] pos) e0 e1 (.d (.bool (isNoneD x))) := je_isN ha
/-! ### chains of two comparisons -/
theorem je_chain {op op' : CmpOp} {r r' : PySem.W.Frag → R2} {x y z : PyData} {k k' : Bool} (hr : ∀ X, CT X T → OpR X (compareOp op) (r X.K)) (hr' : ∀ X, CT X T → OpR X (compareOp op') (r' X.K)) (ha : JE T a e0 e1 (.d x)) (hb : JE T b e1 e2 (.d y)) (hc : k = true → JE T c e2 e2 (.d z))
    (ho : Op2B T r x y (.d (.bool k))) (ho' : Op2B T r' y z (.d (.bool k'))) (hm : lastMarks [op, op'] [b, c] = false := by with_unfolding_all rfl) : JE T (.Compare a [op, op'] [b, c] pos) e0 e2 (.d (.bool (k && k'))) := fun X hX => by
  cases k with
  | true =>
    refine (pe_chain (hr X hX) (hr' X hX) (ha X hX) (hb X hX) (hc rfl X hX) hm).wk fun σ H Q ⟨R, C, E, q⟩ => ?_
    rw [hX.K] at *
    refine ⟨R, C, E, fun u C1 H1 c1 E1 r1 => ⟨R, C1, E1, fun v C2 H2 c2 E2 r2 => ?_⟩⟩
    refine ho R C2 H2 e2 σ u v _ E2 (.inl (r1.mono c2)) (.inl r2) fun w C3 H3 c3 E3 r3 => ?_
    cases r3
    refine ⟨true, rfl, ?_⟩
    rw [if_pos rfl]
    refine ⟨R, C3, E3, fun w' C4 H4 c4 E4 r4 => ?_⟩
    exact ho' R C4 H4 e2 σ v w' Q E4 (.inl ((r2.mono c3).mono c4)) (.inl r4) fun w5 C5 H5 c5 E5 r5 => q w5 C5 H5 ((((c1.trans c2).trans c3).trans c4).trans c5) E5 r5
  | false =>
    refine (pe_chain (tc := fun _ _ _ => False) (hr X hX) (hr' X hX) (ha X hX) (hb X hX) pe_dead hm).wk fun σ H Q ⟨R, C, E, q⟩ => ?_
    rw [hX.K] at *
    refine ⟨R, C, E, fun u C1 H1 c1 E1 r1 => ⟨R, C1, E1, fun v C2 H2 c2 E2 r2 => ?_⟩⟩
    refine ho R C2 H2 e2 σ u v _ E2 (.inl (r1.mono c2)) (.inl r2) fun w C3 H3 c3 E3 r3 => ?_
    cases r3
    refine ⟨false, rfl, ?_⟩
    rw [if_neg Bool.false_ne_true]
    exact q _ C3 H3 ((c1.trans c2).trans c3) E3 (.bl _)
section
variable {i j k : Int}
theorem je_chI {op op' : CmpOp} {f g : Int → Int → Bool} (hr : ∀ X, CT X T → OpR X (compareOp op) (rI0 fun i j => .bl (f i j))) (hr' : ∀ X, CT X T → OpR X (compareOp op') (rI0 fun i j => .bl (g i j))) (ha : JE T a e0 e1 (.d (.int i))) (hb : JE T b e1 e2 (.d (.int j))) (hc : f i j = true → JE T c e2 e2 (.d (.int k)))
    (hm : lastMarks [op, op'] [b, c] = false := by with_unfolding_all rfl) : JE T (.Compare a [op, op'] [b, c] pos) e0 e2 (.d (.bool (f i j && g j k))) :=
  je_chain (r := fun _ => rI0 fun i j => .bl (f i j)) (r' := fun _ => rI0 fun i j => .bl (g i j)) hr hr' ha hb hc op2_B0 op2_B0 hm
end
theorem je_lele {i j k : Int} (ha : JE T a e0 e1 (.d (.int i))) (hb : JE T b e1 e2 (.d (.int j))) (hc : decide (i ≤ j) = true → JE T c e2 e2 (.d (.int k))) (hm : lastMarks [.LtE, .LtE] [b, c] = false := by with_unfolding_all rfl) : JE T (.Compare a [.LtE, .LtE] [b, c] pos) e0 e2 (.d (.bool (decide (i ≤ j) && decide (j ≤ k)))) :=
  je_chI (f := fun i j => decide (i ≤ j)) (g := fun i j => decide (i ≤ j)) (fun X _ => op_le) (fun X _ => op_le) ha hb hc hm
theorem je_lelt {i j k : Int} (ha : JE T a e0 e1 (.d (.int i))) (hb : JE T b e1 e2 (.d (.int j))) (hc : decide (i ≤ j) = true → JE T c e2 e2 (.d (.int k))) (hm : lastMarks [.LtE, .Lt] [b, c] = false := by with_unfolding_all rfl) : JE T (.Compare a [.LtE, .Lt] [b, c] pos) e0 e2 (.d (.bool (decide (i ≤ j) && decide (j < k)))) :=
  je_chI (f := fun i j => decide (i ≤ j)) (g := fun i j => decide (i < j)) (fun X _ => op_le) (fun X _ => op_lt) ha hb hc hm
theorem je_ltle {i j k : Int} (ha : JE T a e0 e1 (.d (.int i))) (hb : JE T b e1 e2 (.d (.int j))) (hc : decide (i < j) = true → JE T c e2 e2 (.d (.int k))) (hm : lastMarks [.Lt, .LtE] [b, c] = false := by with_unfolding_all rfl) : JE T (.Compare a [.Lt, .LtE] [b, c] pos) e0 e2 (.d (.bool (decide (i < j) && decide (j ≤ k)))) :=
  je_chI (f := fun i j => decide (i < j)) (g := fun i j => decide (i ≤ j)) (fun X _ => op_lt) (fun X _ => op_le) ha hb hc hm
theorem je_ltlt {i j k : Int} (ha : JE T a e0 e1 (.d (.int i))) (hb : JE T b e1 e2 (.d (.int j))) (hc : decide (i < j) = true → JE T c e2 e2 (.d (.int k))) (hm : lastMarks [.Lt, .Lt] [b, c] = false := by with_unfolding_all rfl) : JE T (.Compare a [.Lt, .Lt] [b, c] pos) e0 e2 (.d (.bool (decide (i < j) && decide (j < k)))) :=
  je_chI (f := fun i j => decide (i < j)) (g := fun i j => decide (i < j)) (fun X _ => op_lt) (fun X _ => op_lt) ha hb hc hm
theorem jt_ch {k : Bool} {op op' : CmpOp} (h : JE T (.Compare a [op, op'] [b, c] pos) e0 e1 (.d (.bool k))) (h2 : JT T (.Compare a [op, op'] [b, c] pos) e0 e1 k) : JT T (.Compare a [op, op'] [b, c] pos) e0 e1 k := h2
/-- .. as a test -/
theorem jt_chI {i j k : Int} {op op' : CmpOp} {f g : Int → Int → Bool} (hr : ∀ X, CT X T → OpR X (compareOp op) (rI0 fun i j => .bl (f i j))) (hr' : ∀ X, CT X T → OpR X (compareOp op') (rI0 fun i j => .bl (g i j))) (ha : JE T a e0 e1 (.d (.int i))) (hb : JE T b e1 e2 (.d (.int j))) (hc : f i j = true → JE T c e2 e2 (.d (.int k)))
    (hm : lastMarks [op, op'] [b, c] = false := by with_unfolding_all rfl) : JT T (.Compare a [op, op'] [b, c] pos) e0 e2 (f i j && g j k) := fun X hX => by
  cases q : f i j with
  | true =>
    refine (pt_chain (hr X hX) (hr' X hX) (ha X hX) (hb X hX) (hc q X hX) hm).wk fun σ H Q ⟨R, C, E, kk⟩ => ?_
    refine ⟨R, C, E, fun u C1 H1 c1 E1 r1 => ⟨R, C1, E1, fun v C2 H2 c2 E2 r2 => ?_⟩⟩
    cases r1; cases r2
    refine ⟨i, j, rfl, rfl, f i j, rfl, ?_⟩
    rw [if_pos q]
    refine ⟨R, C2, E2, fun w' C4 H4 c4 E4 r4 => ?_⟩
    cases r4
    exact ⟨j, k, rfl, rfl, g j k, rfl, kk C4 H4 ((c1.trans c2).trans c4) E4⟩
  | false =>
    refine (pt_chain (tc := fun _ _ _ => False) (hr X hX) (hr' X hX) (ha X hX) (hb X hX) pe_dead hm).wk fun σ H Q ⟨R, C, E, kk⟩ => ?_
    refine ⟨R, C, E, fun u C1 H1 c1 E1 r1 => ⟨R, C1, E1, fun v C2 H2 c2 E2 r2 => ?_⟩⟩
    cases r1; cases r2
    refine ⟨i, j, rfl, rfl, f i j, rfl, ?_⟩
    rw [q, if_neg Bool.false_ne_true]
    exact ⟨false, rfl, kk C2 H2 (c1.trans c2) E2⟩
theorem jt_lele {i j k : Int} (ha : JE T a e0 e1 (.d (.int i))) (hb : JE T b e1 e2 (.d (.int j))) (hc : decide (i ≤ j) = true → JE T c e2 e2 (.d (.int k))) (hm : lastMarks [.LtE, .LtE] [b, c] = false := by with_unfolding_all rfl) : JT T (.Compare a [.LtE, .LtE] [b, c] pos) e0 e2 (decide (i ≤ j) && decide (j ≤ k)) :=
  jt_chI (f := fun i j => decide (i ≤ j)) (g := fun i j => decide (i ≤ j)) (fun X _ => op_le) (fun X _ => op_le) ha hb hc hm
theorem jt_lelt {i j k : Int} (ha : JE T a e0 e1 (.d (.int i))) (hb : JE T b e1 e2 (.d (.int j))) (hc : decide (i ≤ j) = true → JE T c e2 e2 (.d (.int k))) (hm : lastMarks [.LtE, .Lt] [b, c] = false := by with_unfolding_all rfl) : JT T (.Compare a [.LtE, .Lt] [b, c] pos) e0 e2 (decide (i ≤ j) && decide (j < k)) :=
  jt_chI (f := fun i j => decide (i ≤ j)) (g := fun i j => decide (i < j)) (fun X _ => op_le) (fun X _ => op_lt) ha hb hc hm
theorem jt_ltle {i j k : Int} (ha : JE T a e0 e1 (.d (.int i))) (hb : JE T b e1 e2 (.d (.int j))) (hc : decide (i < j) = true → JE T c e2 e2 (.d (.int k))) (hm : lastMarks [.Lt, .LtE] [b, c] = false := by with_unfolding_all rfl) : JT T (.Compare a [.Lt, .LtE] [b, c] pos) e0 e2 (decide (i < j) && decide (j ≤ k)) :=
  jt_chI (f := fun i j => decide (i < j)) (g := fun i j => decide (i ≤ j)) (fun X _ => op_lt) (fun X _ => op_le) ha hb hc hm
theorem jt_ltlt {i j k : Int} (ha : JE T a e0 e1 (.d (.int i))) (hb : JE T b e1 e2 (.d (.int j))) (hc : decide (i < j) = true → JE T c e2 e2 (.d (.int k))) (hm : lastMarks [.Lt, .Lt] [b, c] = false := by with_unfolding_all rfl) : JT T (.Compare a [.Lt, .Lt] [b, c] pos) e0 e2 (decide (i < j) && decide (j < k)) :=
  jt_chI (f := fun i j => decide (i < j)) (g := fun i j => decide (i < j)) (fun X _ => op_lt) (fun X _ => op_lt) ha hb hc hm
end
end J
namespace J
open PySem L2 PySem.Spec PyProof.Rows PySem.W
section
variable {T : TC} {a b c e : Expr} {es : List Expr} {env e0 e1 e2 e3 : Env'} {pos p p1 p2 p3 : Pos} {x y z : PyData} {ds : List PyData} {K : PySem.W.Frag} {R C C' H H' : Hp} {σ : L2.St} {v : V} {α β γ : Type} {enc : α → PyData} {dec : β → PyData}
/-! ### xs * n -/
def repX (xs : List α) (n : Int) : List α := (List.replicate n.toNat xs).flatten
theorem repX_map (f : α → β) (xs : List α) (n : Int) : repX (xs.map f) n = (repX xs n).map f := by
  unfold repX; rw [List.map_flatten, List.map_replicate]
theorem rps_rep {vs : List V} {xs : List PyData} (r : Rps K C vs xs) : ∀ n : Nat, Rps K C (List.replicate n vs).flatten (List.replicate n xs).flatten
  | 0 => .nil
  | n + 1 => by
    rw [List.replicate_succ, List.replicate_succ, List.flatten_cons, List.flatten_cons]
    exact r.append (rps_rep r n)
def repOk (n : Nat) (k : Int) : Prop := -(2 ^ 63) ≤ k ∧ k < 2 ^ 63 ∧ n * k.toNat ≤ 16777216
theorem rep_len (xs : List α) (k : Int) : (repX xs k).length = xs.length * k.toNat := by
  unfold repX
  rw [List.length_flatten, List.map_replicate, List.sum_replicate_nat, Nat.mul_comm]
theorem je_repL {xs : List α} {k : Int} (h : JE2 T a b e0 e2 (.list (xs.map enc)) (.int k)) (hk : repOk xs.length k) : JE T (.BinOp a .Mult b pos) e0 e2 (.o (.list ((repX xs k).map enc))) :=
  je_bin (r := fun _ => rRep) (fun X _ => op_rep) h fun R C H env σ u v Q E hu hv kk => by
    obtain ⟨p, vs, rfl, h1, l1, r1⟩ := rb_lst E hu
    have := rb_int E hv
    subst this
    obtain ⟨k1, k2, k3⟩ := hk
    have el := r1.len
    rw [List.length_map] at el
    refine ⟨p, k, vs, rfl, rfl, h1, k1, k2, by rw [sizeLine_eq, el]; exact k3, fun t ht => ?_⟩
    have r2 := rps_rep r1 k.toNat
    have e2 : (List.replicate k.toNat (xs.map enc)).flatten = (repX xs k).map enc := by rw [← repX_map]; rfl
    rw [e2] at r2
    obtain ⟨E', r⟩ := E.freshO ht (by rw [r2.len, List.length_map, rep_len]; exact k3) r2
    exact kk _ C _ (Ex.refl C) E' r
def repOkT (n : Nat) (k : Int) : Prop := 0 < n ∧ n ≤ 1000 ∧ 2 ≤ k ∧ k ≤ 1000
theorem je_repT {xs : List α} {k : Int} (h : JE2 T a b e0 e2 (.tuple (xs.map enc)) (.int k)) (hk : repOkT xs.length k) : JE T (.BinOp a .Mult b pos) e0 e2 (.d (.tuple ((repX xs k).map enc))) :=
  je_bin (r := fun K => rRepT K) (fun X _ => op_repT) h fun R C H env σ u v Q E hu hv kk => by
    obtain ⟨p, vs, rfl, h1, c1, l1, r1⟩ := rb_tup E hu
    have := rb_int E hv
    subst this
    obtain ⟨k0, k1, k2, k3⟩ := hk
    have el := r1.len
    rw [List.length_map] at el
    refine ⟨p, k, vs, rfl, rfl, h1, fun q => by subst q; simp at el; omega, k2, k3, by omega, fun t ht => ?_⟩
    have r2 := rps_rep r1 k.toNat
    have e2 : (List.replicate k.toNat (xs.map enc)).flatten = (repX xs k).map enc := by rw [← repX_map]; rfl
    rw [e2] at r2
    obtain ⟨c, E', r⟩ := E.freshT ht (by
      rw [r2.len, List.length_map, rep_len]
      have h5 : k.toNat ≤ 1000 := by omega
      have := Nat.mul_le_mul k1 h5
      show _ ≤ 16777216
      omega) r2
    exact kk _ _ _ c E' r
/-! ### xs.index(x) of a list as a value -/
structure PlainE (o : Expr) (nm : Str) (apos : Pos) (e : Expr) (es : List Expr) (cpos : Pos) : Prop where
  base : ∀ v : Env, attributeBase o nm v (eval o v) = eval o v
  few : ∀ v : Env, ((backTo cpos (starEach (e :: es) v)).all (fun x => !x.1) && (backToKw cpos (keywordEach [] v)).all (fun x => x.1.isSome)
      && decide ((e :: es).length + ([] : List Keyword).length + (if ([] : List Keyword).isEmpty then 0 else 1) < 30)) = true
  line : (apos.endLine == cpos.line) = true
  hs : ∀ v : Env, starEach (e :: es) v = (false, eval e v) :: starEach es v
  plain : ∀ v : Env, (backTo cpos (starEach es v)).any (·.1) = false
def idxL [DecidableEq α] (xs : List α) (x : α) : Int := (xs.findIdx fun y => decide (y = x) : Nat)
theorem je_index [DecidableEq α] {xs : List α} {x : α} {o : Expr} {apos : Pos} (h : JE T o e0 e1 (.d (.list (xs.map enc)))) (h2 : JE T e e1 e2 (.d (enc x))) (sh : ShE 63 enc) (sh' : ShE 64 enc) (eq : EqE enc) (hx : x ∈ xs)
    (hp : PlainE o "index" apos e [] pos := by exact ⟨fun _ => rfl, fun _ => rfl, rfl, fun _ => rfl, fun _ => rfl⟩) :
    JE T (.Call (.Attribute o "index" apos) [e] [] pos) e0 e2 (.d (.int (idxL xs x))) := fun X hX =>
  (pe_bm PySem.F.plainAttrs_list PySem.F.slot_list_index PySem.F.type_list_index (mt_indexD (by have := hX.room.un; omega)) (h X hX) (pa_cons (h2 X hX) pa_nil (hp.hs X.env)) (hp.base X.env) (hp.few X.env) hp.line (hp.hs X.env) (hp.plain X.env)).wk fun σ H Q ⟨R, C, E, k⟩ => by
    rw [hX.K] at *
    refine ⟨R, C, E, fun u C1 H1 c1 E1 r1 => ?_⟩
    have r1' := r1
    cases r1 with
    | lst q l r =>
    refine ⟨.inl ⟨rfl, _, SqL.of (E1.cH _ _ q)⟩, R, C1, E1, fun w C2 H2 c2 E2 r2 => ?_⟩
    have hr : Rp T.K H2 _ (PyData.list (xs.map enc)) := (r1'.mono c2).mono E2.cH
    have hy : Rp T.K H2 w (enc x) := r2.mono E2.cH
    have s1 : shN 64 (.list (xs.map enc)) = true := by
      rw [shN, List.all_eq_true]; intro d hd
      obtain ⟨y, _, rfl⟩ := List.mem_map.mp hd; exact sh y
    have hlt : (xs.findIdx fun y => decide (y = x)) < xs.length := List.findIdx_lt_length_of_exists ⟨x, hx, by simp⟩
    refine ⟨_, w, enc x, xs.map enc, xs.findIdx (fun y => decide (y = x)), enc (xs[xs.findIdx fun y => decide (y = x)]), rfl, rfl, hr.dp' s1, hy.dp' (sh' x), hr.shaped s1, hy.shaped (sh' x), by simp [List.getElem?_eq_getElem hlt], ?_, fun m z' hm hz => ?_, k _ C2 H2 (c1.trans c2) E2 (.int _)⟩
    · rw [eq]; exact List.findIdx_getElem (p := fun y => decide (y = x)) (w := hlt)
    · rw [List.getElem?_map] at hz
      have hml : m < xs.length := by omega
      rw [List.getElem?_eq_getElem hml] at hz
      cases hz
      rw [eq]
      have := List.not_of_lt_findIdx hm
      simpa using this
/-! ### is True, is False; a text in a text -/
theorem cj_isB {x y : Bool} (h : JE2 T a b e0 e2 (.bool x) (.bool y)) : CJ T .Is a b e0 e2 (decide (x = y)) :=
  cj_mk (r := fun _ => fun x y H Q => ∃ a b, x = .bl a ∧ y = .bl b ∧ Q (.bl (decide (a = b))) H) (fun X _ => op_is_bl) h fun R C H env σ u v Q E hu hv k => ⟨x, y, rb_bl E hu, rb_bl E hv, k _ C H (Ex.refl C) E (.bl _)⟩
theorem cj_isnotB {x y : Bool} (h : JE2 T a b e0 e2 (.bool x) (.bool y)) : CJ T .IsNot a b e0 e2 (!decide (x = y)) :=
  cj_mk (r := fun _ => fun x y H Q => ∃ a b, x = .bl a ∧ y = .bl b ∧ Q (.bl (!decide (a = b))) H) (fun X _ => op_isnot_bl) h fun R C H env σ u v Q E hu hv k => ⟨x, y, rb_bl E hu, rb_bl E hv, k _ C H (Ex.refl C) E (.bl _)⟩
def subS (i j : Str) : Bool := !(Builtin.Str.occurrences j i 0 j.length 1).isEmpty
theorem cj_inS {i j : Str} (h : JE2 T a b e0 e2 (.str i) (.str j)) (hm : behindInMarks .In b = false := by rfl) : CJ T .In a b e0 e2 (subS i j) :=
  cj_mk (r := fun _ => fun x y H Q => ∃ i j, x = .str i ∧ y = .str j ∧ Q (.bl (!(Builtin.Str.occurrences j i 0 j.length 1).isEmpty)) H) (fun X _ => op_in_str) h (fun R C H env σ u v Q E hu hv k => ⟨i, j, rb_str E hu, rb_str E hv, k _ C H (Ex.refl C) E (.bl _)⟩) hm
end
end J
namespace J
open PySem L2 PySem.Spec PyProof.Rows PySem.W
section
variable {T : TC} {a b c e : Expr} {es : List Expr} {env e0 e1 e2 e3 : Env'} {pos p p1 p2 p3 : Pos} {x y z : PyData} {ds : List PyData} {K : PySem.W.Frag} {R C C' H H' : Hp} {σ : L2.St} {v : V} {α β γ : Type} {enc : α → PyData} {tg iter elt : Expr} {ifs : List Expr} {scope : Scope}
theorem je_lcFq {S : Type} {xs : List α} (m : List β × S) (own : List (Str × Nat)) (Ev : S → Env') (dec : β → PyData) (c : S → α → Bool × S) (g : α → β) (s0 : S) (hm : m = filS c g s0 xs) (hi : JI T tg iter e0 (Ev s0) (xs.map enc)) (hnd : T.N.Nodup) (ok : blkC T.N T.sc scope own = true) (hu : ∀ s, unk (Ev s) (own.map (·.2)))
    (turn : ∀ s x, x ∈ xs → LcF T scope tg elt ifs own Ev (enc x) s (c s x) (dec (g x))) (hs : ∀ (v : Env) x, foldedSetIterable iter v x = pure x := by intro _ _; rfl) : JE T (.ListComp elt [⟨tg, iter, ifs, 0⟩] scope pos) e0 (Ev m.2) (.o (.list (m.1.map dec))) := by
  subst hm; exact je_lcF own Ev dec c g s0 hi hnd ok hu turn hs
theorem lcf_let {S : Type} {own : List (Str × Nat)} {Ev : S → Env'} {d w : PyData} {s : S} {γ : Type} {v : γ} {k : γ → Bool × S} (h : ∀ q, q = v → LcF T scope tg elt ifs own Ev d s (k q) w) : LcF T scope tg elt ifs own Ev d s (Let v k) w := h v rfl
theorem cj_eqA (h : JE2 T a b e0 e2 x y) (k : shN 64 x = true ∧ shN 64 y = true) : CJ T .Eq a b e0 e2 (PyData.eqv x y) := cj_eqD h k.1 k.2
theorem cj_neA (h : JE2 T a b e0 e2 x y) (k : shN 64 x = true ∧ shN 64 y = true) : CJ T .NotEq a b e0 e2 (!PyData.eqv x y) := cj_neD h k.1 k.2
/-! ### names of the module that hold data -/
structure Glb (K : PySem.W.Frag) (mg : Str → Option Value) (nm : Str) (d : PyData) : Prop where
  ex : ∃ v u, mg nm = some u ∧ RelV v u ∧ ∀ C, Rp K C v d
theorem je_globd {nm : Str} (hg : glB T.sc nm = true) (g : Glb T.K T.mg nm x) (hd : (nm == ("__debug__" : Str)) = false := by decide) : JE T (.Name nm pos) env env (.d x) := by
  obtain ⟨v, u, h1, h2, h3⟩ := g.ex
  exact je_glob hg h1 h2 h3 hd
theorem glb_str {mg : Str → Option Value} {nm s : Str} {t : Tok} (m : mg nm = some (.str s t)) (ok : sOk s) : Glb K mg nm (.str s) := ⟨.str s, _, m, ⟨t, rfl⟩, fun C => .str ok⟩
theorem glb_int {mg : Str → Option Value} {nm : Str} {i : Int} {t : Tok} (m : mg nm = some (.int i t)) : Glb K mg nm (.int i) := ⟨.int i, _, m, ⟨t, rfl⟩, fun C => .int i⟩
theorem glb_strs {mg : Str → Option Value} {nm : Str} {a : Addr} {dd : Option Addr} {its : List Value} {n : Nat} {sl : Array (Option Value)} {xs : List Str} (m : mg nm = some (.ref a)) (l : K.lookup a = some ⟨.type "tuple", dd, .seq its.toArray n, sl⟩) (hv : Vals (xs.map V.str) its) (hl : its.length ≤ 1000) (ok : ∀ x ∈ xs, sOk x) : Glb K mg nm (.tuple (xs.map .str)) :=
  ⟨.ref a, .ref a, m, rfl, fun C => by
    have hlen : xs.length = its.length := by have := hv.length; simpa using this
    refine .tup (.inr ⟨_, its.toArray, n, l, rfl, rfl, ?_, by simpa using hv⟩) ?_ (Rps.ofStrs ok)
    · rw [List.size_toArray, sizeLine_eq]; omega
    · rw [List.length_map]; show _ ≤ 16777216; omega⟩
theorem glb_ints {mg : Str → Option Value} {nm : Str} {a : Addr} {dd : Option Addr} {its : List Value} {n : Nat} {sl : Array (Option Value)} {xs : List Int} (m : mg nm = some (.ref a)) (l : K.lookup a = some ⟨.type "tuple", dd, .seq its.toArray n, sl⟩) (hv : Vals (xs.map V.int) its) (hl : its.length ≤ 1000) : Glb K mg nm (.tuple (xs.map .int)) :=
  ⟨.ref a, .ref a, m, rfl, fun C => by
    have hlen : xs.length = its.length := by have := hv.length; simpa using this
    refine .tup (.inr ⟨_, its.toArray, n, l, rfl, rfl, ?_, by simpa using hv⟩) ?_ Rps.ints
    · rw [List.size_toArray, sizeLine_eq]; omega
    · rw [List.length_map]; show _ ≤ 16777216; omega⟩
end
end J
namespace J
open PySem L2 PySem.Spec PyProof.Rows PySem.W
/-- whether x is one of ys -/
def inB {α : Type} [DecidableEq α] (x : α) (ys : List α) : Bool := decide (x ∈ ys)
@[simp] theorem inB_iff {α : Type} [DecidableEq α] {x : α} {ys : List α} : inB x ys = true ↔ x ∈ ys := by unfold inB; simp
theorem inB_dec {α : Type} [DecidableEq α] {x : α} {ys : List α} [Decidable (x ∈ ys)] : inB x ys = decide (x ∈ ys) := by unfold inB; congr
theorem inB_not {α : Type} [DecidableEq α] {x : α} {ys : List α} : inB x ys = false ↔ x ∉ ys := by unfold inB; simp
section
variable {T : TC} {a b c e : Expr} {es : List Expr} {env e0 e1 e2 e3 : Env'} {pos p p1 p2 p3 : Pos} {α β : Type} {enc : α → PyData} {xs : List α}
theorem je_sortLc (hg : glB T.sc "sorted" = true) (hm : T.mg "sorted" = none) (ha : JE T e e0 e1 (.b (.list (xs.map enc)))) (al : AlkE enc) (so : Sortable (xs.map enc)) (sh : shN 64 (.list (xs.map enc)) = true := by simp [shN]) (hp : Plain e [] pos := by exact ⟨fun _ => rfl, fun _ => rfl⟩) : JE T (.Call (.Name "sorted" p) [e] [] pos) e0 e1 (.o (.list ((pySort enc xs).map enc))) :=
  je_bi1 (r := rSortD) (fun X hX => cr_sortD (room_units hX)) hg hm (by decide +kernel) ha (fun R C H env σ v Q E hv k => by
    obtain ⟨p, vs, rfl, h1, l1, r1⟩ := rb_lst E hv
    obtain ⟨q1, q2⟩ := shN_all (n := 63) sh
    have aa := al.all xs
    refine ⟨p, vs, xs.map enc, rfl, SqL.of h1, (r1.mono E.cH).dps q1, aa.1, so, by omega, fun q hq => ?_⟩
    · have e1 : (vs.zip (xs.map enc)).map (·.2) = xs.map enc := List.map_snd_zip (by rw [r1.len]; exact Nat.le_refl _)
      have key : ((vs.zip (xs.map enc)).mergeSort (dataLe false (·.2))).map (·.2) = (pySort enc xs).map enc := by
        rw [sort_maps (r := dataLe false fun b : V × PyData => b.2) (s := dataLe false fun d => d) (fun b : V × PyData => b.2) (fun _ _ _ _ => rfl), e1]
        unfold pySort
        rw [sort_maps (r := dataLe false enc) (s := dataLe false fun d => d) enc (fun _ _ _ _ => rfl)]
      have rr := rps_of_pairs (zs := (vs.zip (xs.map enc)).mergeSort (dataLe false (·.2))) (K := T.K) (C := C) fun b hb => rps_pairs r1 b (List.mem_mergeSort.mp hb)
      rw [key] at rr
      obtain ⟨E', r⟩ := E.freshO hq (by rw [List.length_map, List.length_mergeSort, List.length_zip]; omega) rr
      exact k _ C _ (Ex.refl C) E' r) hp
section
variable [DecidableEq α] {x : α} {ys : List α}
theorem cj_inLB (h : JE2 T a b e0 e2 (enc x) (.list (ys.map enc))) (sh : ShE 63 enc) (sh' : ShE 64 enc) (eq : EqE enc) (hm : behindInMarks .In b = false := by rfl) : CJ T .In a b e0 e2 (inB x ys) := cj_inL' h sh sh' eq hm
theorem cj_notInLB (h : JE2 T a b e0 e2 (enc x) (.list (ys.map enc))) (sh : ShE 63 enc) (sh' : ShE 64 enc) (eq : EqE enc) (hm : behindInMarks .NotIn b = false := by rfl) : CJ T .NotIn a b e0 e2 (!inB x ys) := cj_notInL' h sh sh' eq hm
theorem cj_inTB (h : JE2 T a b e0 e2 (enc x) (.tuple (ys.map enc))) (fl : FlE enc) (eq : EqE enc) (hm : behindInMarks .In b = false := by rfl) : CJ T .In a b e0 e2 (inB x ys) := cj_inT' h fl eq hm
theorem cj_notInTB (h : JE2 T a b e0 e2 (enc x) (.tuple (ys.map enc))) (fl : FlE enc) (eq : EqE enc) (hm : behindInMarks .NotIn b = false := by rfl) : CJ T .NotIn a b e0 e2 (!inB x ys) := cj_notInT' h fl eq hm
end
end
end J
namespace J
open PySem L2 PySem.Spec PyProof.Rows PySem.W
/-! ### min(a, b), max(a, b) of data -/
section
variable {prog : Program} {w : World} {A : Around} {E : Value → Shared → Prop} {s : Shared}
theorem min_twoH {a b : Value} {Q : Value → Shared → Prop}
    (h : wpAny (model prog w) A.in1 (pyIter (.ref s.heap.objs.size)) (fun it s₂ => ∃ I fp wr G n P St H bt, it = .ref I ∧ WalksS prog w A.in1 I fp wr G n P St ∧ St 0 s₂ ∧ (∀ b ∈ fp, b < s₂.heap.objs.size) ∧ 0 < n ∧
      (∀ b o, H.get? b = some o → b ∉ wr) ∧ (∀ b o, H.get? b = some o → s₂.heap.get? b = some o) ∧ CmpIn prog w A.in1 .Lt H P bt ∧ ∀ v s', P (argBest bt (n - 1)) v → Moved wr G s₂ s' → Q v s') E
      { s with heap := s.heap.push { cls := .type "tuple", data := .seq #[a, b] } }) :
    wpAny (model prog w) A (call (.builtin "min") [a, b]) Q E s := by
  have hname : (toString "min" ++ toString ".loop" : String) = "min.loop" := by decide
  refine call_function_tree F.kind_min F.plain_min F.entry_min (F.args_min2 _ _) ?_
  show wpAny _ A.in1 (Builtin.Builtins.bindParams "min" ["key", "default"] 0 ⟨[], []⟩ >>= _) _ _ s
  refine wpAny_bind (wpAny_of_eq (show Builtin.Builtins.bindParams "min" ["key", "default"] 0 ⟨[], []⟩ = pure [none, none] from rfl) ?_)
  show wpAny _ A.in1 (newTuple [a, b] >>= _) _ _ s
  refine wpAny_bind (wpAny_newObj_type ?_)
  refine wpAny_bind (wpAny_mono h (fun it s₂ h₂ => ?_) fun _ _ e => e)
  obtain ⟨I, fp, wr, G, n, P, St, H, bt, rfl, W, hst, hfp, hn, hw, hkeep, hcmp, hQ⟩ := h₂
  refine wpAny_bind (wpAny_newObj_type ?_)
  have hSf : s₂.heap.objs.size ∉ fp := fun hm => Nat.lt_irrefl _ (hfp _ hm)
  rw [hname]
  refine wpAny_pure ⟨plainId_quiet F.plain_min_loop _, codeAny_min_loop_firstH W H hw bt hcmp s₂.heap.objs.size hSf (fresh_in hkeep) _ hn (fun b o e => Heap.get?_push_of_some _ (hkeep b o e)) (W.frame 0 s₂ _ s₂.toks hst (Nat.le_refl _) fun b _ o e => Heap.get?_push_of_some _ e) (Heap.get?_push_size _ rfl) fun v s' hP hm => ?_⟩
  exact hQ v s' hP (Moved.drop_new (tk := s₂.toks) hm (Nat.le_refl _))
theorem max_twoH {a b : Value} {Q : Value → Shared → Prop}
    (h : wpAny (model prog w) A.in1 (pyIter (.ref s.heap.objs.size)) (fun it s₂ => ∃ I fp wr G n P St H bt, it = .ref I ∧ WalksS prog w A.in1 I fp wr G n P St ∧ St 0 s₂ ∧ (∀ b ∈ fp, b < s₂.heap.objs.size) ∧ 0 < n ∧
      (∀ b o, H.get? b = some o → b ∉ wr) ∧ (∀ b o, H.get? b = some o → s₂.heap.get? b = some o) ∧ CmpIn prog w A.in1 .Gt H P bt ∧ ∀ v s', P (argBest bt (n - 1)) v → Moved wr G s₂ s' → Q v s') E
      { s with heap := s.heap.push { cls := .type "tuple", data := .seq #[a, b] } }) :
    wpAny (model prog w) A (call (.builtin "max") [a, b]) Q E s := by
  have hname : (toString "max" ++ toString ".loop" : String) = "max.loop" := by decide
  refine call_function_tree F.kind_max F.plain_max F.entry_max (F.args_max2 _ _) ?_
  show wpAny _ A.in1 (Builtin.Builtins.bindParams "max" ["key", "default"] 0 ⟨[], []⟩ >>= _) _ _ s
  refine wpAny_bind (wpAny_of_eq (show Builtin.Builtins.bindParams "max" ["key", "default"] 0 ⟨[], []⟩ = pure [none, none] from rfl) ?_)
  show wpAny _ A.in1 (newTuple [a, b] >>= _) _ _ s
  refine wpAny_bind (wpAny_newObj_type ?_)
  refine wpAny_bind (wpAny_mono h (fun it s₂ h₂ => ?_) fun _ _ e => e)
  obtain ⟨I, fp, wr, G, n, P, St, H, bt, rfl, W, hst, hfp, hn, hw, hkeep, hcmp, hQ⟩ := h₂
  refine wpAny_bind (wpAny_newObj_type ?_)
  have hSf : s₂.heap.objs.size ∉ fp := fun hm => Nat.lt_irrefl _ (hfp _ hm)
  rw [hname]
  refine wpAny_pure ⟨plainId_quiet F.plain_max_loop _, codeAny_max_loop_firstH W H hw bt hcmp s₂.heap.objs.size hSf (fresh_in hkeep) _ hn (fun b o e => Heap.get?_push_of_some _ (hkeep b o e)) (W.frame 0 s₂ _ s₂.toks hst (Nat.le_refl _) fun b _ o e => Heap.get?_push_of_some _ e) (Heap.get?_push_size _ rfl) fun v s' hP hm => ?_⟩
  exact hQ v s' hP (Moved.drop_new (tk := s₂.toks) hm (Nat.le_refl _))
theorem min_two_data {a b : Value} {x y : PyData} {as : List Addr} {Q : Value → Shared → Prop} (hh : A.handled = none) (hr : ReadsAll s.heap [a, b] [x, y] as) (ha : AlikeAll [x, y]) (hu : A.units + 1 + PyData.depthAll [x, y] < cLine)
    (h : ∀ h' tk, (∀ b o, s.heap.get? b = some o → h'.get? b = some o) → Q (if dataLt y x = true then b else a) { s with heap := h', toks := tk }) : wpAny (model prog w) A (call (.builtin "min") [a, b]) Q E s := by
  have hT : (s.heap.push { cls := .type "tuple", data := .seq #[a, b] }).IsTuple s.heap.objs.size #[a, b] := ⟨_, Heap.get?_push_size _ rfl, rfl, 0, rfl⟩
  have hr1 : ReadsAll (s.heap.push { cls := .type "tuple", data := .seq #[a, b] }) (#[a, b] : Array Value).toList [x, y] as := ReadsAll.keeps (fun b o e => Heap.get?_push_of_some _ e) hr
  refine min_twoH (iter_tupleW (s := { s with heap := s.heap.push { cls := .type "tuple", data := .seq #[a, b] } }) (A := A.in1) hh hT fun s₂ e W st hfp hw hk => ?_)
  refine ⟨_, _, _, _, _, _, _, s.heap.push { cls := .type "tuple", data := .seq #[a, b] }, _, rfl, W, st, hfp, by simp, hw, hk, cmpIn_lt (s := { s with heap := s.heap.push { cls := .type "tuple", data := .seq #[a, b] } }) (A := A.in1) hr1 ha (by show A.units + 1 + _ < _; exact hu), fun v s' hP m => ?_⟩
  obtain ⟨h', tk, rfl, hk'⟩ := moved_old (s := { s with heap := s.heap.push { cls := .type "tuple", data := .seq #[a, b] } }) e rfl m
  have := h h' tk fun b o e => hk' b o (Heap.get?_push_of_some _ e)
  cases q : dataLt y x with
  | true =>
    rw [q, if_pos rfl] at this
    have e1 : argBest (fun i j => dataLt ([x, y].getD i .none) ([x, y].getD j .none)) ((#[a, b] : Array Value).size - 1) = 1 := by simp [argBest, q]
    rw [e1] at hP
    have : v = b := by simpa using hP.symm
    subst this; assumption
  | false =>
    rw [q, if_neg Bool.false_ne_true] at this
    have e1 : argBest (fun i j => dataLt ([x, y].getD i .none) ([x, y].getD j .none)) ((#[a, b] : Array Value).size - 1) = 0 := by simp [argBest, q]
    rw [e1] at hP
    have : v = a := by simpa using hP.symm
    subst this; assumption
end
section
variable {X : Cx}
def rMin2 (K : PySem.W.Frag) : List V → Hp → VK → Prop := fun vs H Q => ∃ u v x y, vs = [u, v] ∧ Dp K H u x ∧ Dp K H v y ∧ AlikeAll [x, y] ∧ PyData.depthAll [x, y] ≤ 64 ∧ Q (if dataLt y x = true then v else u) H
theorem cr_min2D (hc : X.calm = true) (hu : X.A.units + 200 < cLine) : CallR X (.builtin "min") (rMin2 X.K) := by
  intro pins s σ H vs us Q I r h
  obtain ⟨u, v, x, y, rfl, hx, hy, al, dp, q⟩ := h
  obtain ⟨u1, u2, rfl, r1, r2⟩ := vals2 r
  obtain ⟨as, hr⟩ := Dp.readsAll I [x, y] [u, v] [u1, u2] (.cons hx (.cons hy .nil)) (.cons r1 (.cons r2 .nil))
  refine min_two_data (I.ok.hd hc) hr al (by omega) fun h' tk k => ⟨_, H, I.kept k, ?_, q⟩
  cases dataLt y x
  · exact r1
  · exact r2
end
section
variable {T : TC} {a b c e : Expr} {e0 e1 e2 : Env'} {pos p : Pos} {α : Type} {enc : α → PyData} {x y : α}
def min2 (enc : α → PyData) (x y : α) : α := if ltB enc y x = true then y else x
theorem je_min2E (hg : glB T.sc "min" = true) (hm : T.mg "min" = none) (ha : JA T [a, b] e0 e1 [enc x, enc y]) (al : AlkE enc) (sh : ShE 63 enc) (hp : Plain a [b] pos := by exact ⟨fun _ => rfl, fun _ => rfl⟩) : JE T (.Call (.Name "min" p) [a, b] [] pos) e0 e1 (.d (enc (min2 enc x y))) :=
  je_bi (r := rMin2) (fun X hX => cr_min2D hX.calm (room_units hX)) hg hm (by decide +kernel) ha (fun R C H env σ vs Q E hv k => by
    cases hv with
    | cons h1 h2 =>
    cases h2 with
    | cons h2 h3 =>
    cases h3
    have s1 := shN_of (sh x)
    have s2 := shN_of (sh y)
    have hal := al.all [x, y]
    refine ⟨_, _, enc x, enc y, rfl, (h1.mono E.cH).dp s1.1, (h2.mono E.cH).dp s2.1, hal, depthAll_le (by
      intro z hz
      rcases List.mem_cons.mp hz with rfl | hz
      · have := s1.2; omega
      · rw [List.mem_singleton] at hz; subst hz; have := s2.2; omega), k _ C H (Ex.refl C) E ?_⟩
    unfold min2 ltB
    split
    · exact h2
    · exact h1) hp
end
end J
namespace J
open PySem L2 PySem.Spec PyProof.Rows PySem.W
section
variable {T : TC} {a b c e : Expr} {es : List Expr} {env e0 e1 e2 e3 : Env'} {pos p p1 p2 p3 : Pos} {x y z : PyData}
/-- what is known behind may be forgotten -/
theorem je_leo (h : JE T e e0 e1 (.d x)) (l : Le e2 e1) : JE T e e0 e2 (.d x) := fun X hX => (h X hX).wk fun σ H Q ⟨R, C, E, k⟩ => ⟨R, C, E, fun v C' H' c E' r => k v C' H' c (E'.le l) r⟩
theorem je_oneU {op} (h : JE T a e0 e1 (.d x)) (l : Le e2 e1) : JE T (.BoolOp op [a] pos) e0 e2 (.d x) := je_leo (je_one h) l
theorem je_andU {c c' : Bool} {rest : List Expr} (h : JE T a e0 e1 (.d (.bool c))) (h' : c = true → JE T (.BoolOp .And (b :: rest) pos) e1 e2 (.d (.bool c'))) (l : Le e2 e1) : JE T (.BoolOp .And (a :: b :: rest) pos) e0 e2 (.d (.bool (c && c'))) := fun X hX => by
  cases c with
  | true =>
    refine (pe_and (h X hX) (h' rfl X hX)).wk fun σ H Q ⟨R, C, E, k⟩ => ⟨R, C, E, fun v C1 H1 c1 E1 r1 => ?_⟩
    cases r1
    refine ⟨true, rfl, ?_⟩
    simp only [if_true]
    exact ⟨R, C1, E1, fun w C2 H2 c2 E2 r2 => k w C2 H2 (c1.trans c2) E2 r2⟩
  | false =>
    refine (pe_and (h X hX) pe_dead).wk fun σ H Q ⟨R, C, E, k⟩ => ⟨R, C, E, fun v C1 H1 c1 E1 r1 => ?_⟩
    cases r1
    refine ⟨false, rfl, ?_⟩
    simp only [Bool.false_eq_true, if_false]
    exact k _ C1 H1 c1 (E1.le l) (.bl false)
end
end J
namespace J
open PySem L2 PySem.Spec PyProof.Rows PySem.W
/-! ### tuple * n for every n -/
theorem tuple_mul1 (l : Addr) (items : Array Value) (n : Nat) (dd : Option Addr) (sl : Array (Option Value)) (u : Tok) :
    Meets (Builtin.«tuple.__mul__» ⟨[.ref l, .int 1 u], []⟩) (fun _ R s => s.heap.get? l = some { cls := .type "tuple", dict := dd, data := .seq items n, slots := sl } ∧
      R (.ok (.ret (Value.ref l))) s) :=
  .of_wp fun prog w A R s h => by
    obtain ⟨hp, g, d, tk, os⟩ := s
    obtain ⟨hl, h⟩ := h
    have f1 := AutoSeq1.idx_int
    have c1 : (items.isEmpty || (1 : Int) == 1) = true := by rw [Bool.or_eq_true]; exact .inr rfl
    have c2 : (decide ((1 : Int) < -(2 ^ 63)) || decide ((1 : Int) ≥ 2 ^ 63)) = false := by decide
    wp_walk using wpAny_loadPart' hl
    repeat (first
      | (refine wpAny_ite_false (decide_eq_false (by rw [c2]; exact Bool.false_ne_true)) ?_; wp_walk using wpAny_loadPart' hl)
      | (refine wpAny_ite_true (decide_eq_true c1) ?_; wp_walk using wpAny_loadPart' hl))
    exact ⟨_, rfl, h⟩
theorem tuple_mul0 (l : Addr) (items : Array Value) (n : Nat) (dd : Option Addr) (sl : Array (Option Value)) (u : Tok) (hi : items.isEmpty = false) :
    Meets (Builtin.«tuple.__mul__» ⟨[.ref l, .int 0 u], []⟩) (fun _ R s => s.heap.get? l = some { cls := .type "tuple", dict := dd, data := .seq items n, slots := sl } ∧
      R (.ok (.ret (Value.ref s.heap.objs.size))) { s with heap := s.heap.push { cls := Value.type "tuple", data := Data.seq #[] }, toks := s.toks }) :=
  .of_wp fun prog w A R s h => by
    obtain ⟨hp, g, d, tk, os⟩ := s
    obtain ⟨hl, h⟩ := h
    have f1 := AutoSeq1.idx_int
    have c1 : (items.isEmpty || (0 : Int) == 1) = false := by rw [hi]; rfl
    have c0 : (decide ((0 : Int) < -(2 ^ 63)) || decide ((0 : Int) ≥ 2 ^ 63)) = false := by decide
    have c2 : (decide ((0 : Int) ≤ 0) || items.isEmpty) = true := by rw [Bool.or_eq_true]; exact .inl rfl
    wp_walk using wpAny_loadPart' hl
    repeat (first
      | (refine wpAny_ite_false (decide_eq_false (by rw [c0]; exact Bool.false_ne_true)) ?_; wp_walk using wpAny_loadPart' hl)
      | (refine wpAny_ite_false (decide_eq_false (by rw [c1]; exact Bool.false_ne_true)) ?_; wp_walk using wpAny_loadPart' hl)
      | (refine wpAny_ite_true (decide_eq_true c2) ?_; wp_walk using wpAny_loadPart' hl))
    exact ⟨_, rfl, h⟩
def rRep1 (K : PySem.W.Frag) : R2 := fun x y H Q => ∃ l xs, x = .ref l ∧ y = .int 1 ∧ SqT K H l xs ∧ Q (.ref l) H
def rRep0 (K : PySem.W.Frag) : R2 := fun x y H Q => ∃ l xs, x = .ref l ∧ y = .int 0 ∧ SqT K H l xs ∧ xs ≠ [] ∧ ∀ p, H p = none → Q (.ref p) (upd H p (.tup []))
section
variable {X : Cx}
theorem op_rep1 : OpR X (binaryOp .Mult) (rRep1 X.K) := by
  intro pins s σ H x y v u Q I rx ry h
  obtain ⟨l, xs, rfl, rfl, hT, q⟩ := h
  cases rx
  obtain ⟨t, rfl⟩ := ry
  obtain ⟨its, r, ⟨⟨cls, dd, data, sl⟩, ho, hc, n, hd⟩, hs⟩ := I.tuple hT
  simp only at hc hd
  subst hc hd
  refine wpAny_binaryOp_repeat_ref (T := "tuple") (U := "int") (by decide) ⟨_, ho, rfl⟩ (fun s' => typeIs_int s' 1 t) noFill_tuple_mul F.fills_int_mul F.slot_int_rmul repeat_tuple F.slot_int_index.lookup
    (call_meets F.slot_int_rmul (typeIs_int s 1 t) F.entry_int_rmul (F.args_int_rmul_2 _ _) (int_rmul_tuple 1 t l its.toArray n dd sl)
      ⟨ho, rfl, ⟨_, ho, rfl⟩, call_meets F.slot_tuple_mul ⟨_, ho, rfl⟩ F.entry_tuple_mul (F.args_tuple_mul_2 _ _) (tuple_mul1 l its.toArray n dd sl t) ⟨ho, ?_⟩⟩)
  exact ⟨.ref l, H, I, rfl, q⟩
theorem op_rep0 : OpR X (binaryOp .Mult) (rRep0 X.K) := by
  intro pins s σ H x y v u Q I rx ry h
  obtain ⟨l, xs, rfl, rfl, hT, hne, q⟩ := h
  cases rx
  obtain ⟨t, rfl⟩ := ry
  obtain ⟨its, r, ⟨⟨cls, dd, data, sl⟩, ho, hc, n, hd⟩, hs⟩ := I.tuple hT
  simp only at hc hd
  subst hc hd
  have hi : its.toArray.isEmpty = false := by
    cases its with
    | nil => cases r; exact absurd rfl hne
    | cons a b => rfl
  refine wpAny_binaryOp_repeat_ref (T := "tuple") (U := "int") (by decide) ⟨_, ho, rfl⟩ (fun s' => typeIs_int s' 0 t) noFill_tuple_mul F.fills_int_mul F.slot_int_rmul repeat_tuple F.slot_int_index.lookup
    (call_meets F.slot_int_rmul (typeIs_int s 0 t) F.entry_int_rmul (F.args_int_rmul_2 _ _) (int_rmul_tuple 0 t l its.toArray n dd sl)
      ⟨ho, rfl, ⟨_, ho, rfl⟩, call_meets F.slot_tuple_mul ⟨_, ho, rfl⟩ F.entry_tuple_mul (F.args_tuple_mul_2 _ _) (tuple_mul0 l its.toArray n dd sl t hi) ⟨ho, ?_⟩⟩)
  refine ⟨.ref s.heap.objs.size, _, I.laid (t' := s.toks) (o := .tup []) (fun b ob q => Heap.get?_push_of_some _ q) (Nat.le_refl _) ?_, rfl, q _ (I.hok.fresh (Nat.le_refl _))⟩
  exact ⟨Nat.zero_le _, [], .nil, IsTup.new _ _⟩
end
/-- lists of at most one thing are sorted whatever it is, but None -/
def SortOk (ds : List PyData) : Prop := Sortable ds ∨ (ds.length < 2 ∧ ∀ d, d ∈ ds → d ≠ .none)
section
variable {prog : Program} {w : World} {A : Around} {s : Shared} {β : Type} {R : Value → β → Prop} {enc : β → PyData} {vs : List Value} {bs : List β}
theorem sortsAt_ok {vs : List Value} {ds : List PyData} (e : EachIs (fun v d => ∃ as, Reads s.heap v d as) vs ds) (hal : AllAlike ds) (hk : SortOk ds) (hu : ∀ d, d ∈ ds → A.units + d.depth < cLine) : SortsAt prog w A s (dataKind s.heap ds) vs := by
  rcases hk with hk | ⟨h1, hn⟩
  · exact SortsAt.data e hal hk hu
  · refine ⟨fun v hv => ?_, general', fun E x y a b Q ha hb hq => ?_, fun h2 => absurd h2 (by rw [e.length]; omega)⟩
    · obtain ⟨d, hd, as, r⟩ := e.left v hv
      exact ⟨_, dataKind_some hal hd r⟩
    · obtain ⟨d, as, hd, ra, rfl⟩ := dataKind_inv ha
      obtain ⟨d', as', hd', rb, rfl⟩ := dataKind_inv hb
      have hu' := hu d hd
      exact oneLt_alike (f := false) (fun q => absurd q (by decide)) ra rb (hal d hd d' hd') (hn d hd) (Nat.lt_of_le_of_lt (Nat.add_le_add_left (Nat.min_le_left _ _) _) hu') hq
theorem sorted_dataU {l : Addr} {Q : Value → Shared → Prop} (hl : s.heap.IsList l vs.toArray) (e : EachIs R vs bs) (er : EachIs (fun v b => ∃ as, Reads s.heap v (enc b) as) vs bs) (hal : AllAlike (bs.map enc)) (hk : SortOk (bs.map enc)) (hL : bs.length ≤ sizeLine)
    (hu : ∀ b, b ∈ bs → A.units + 2 + (enc b).depth < cLine) (h : ∀ out, out.length = bs.length → EachIs R out (bs.mergeSort (dataLe false enc)) → Q (.ref (s.heap.objs.size + 1)) { s with heap := sortedAll s.heap vs (List.toArray out) }) :
    wpAny (model prog w) A (call (.builtin "sorted") [.ref l]) Q E' s := by
  have er' : EachIs (fun v b => ∃ as, Reads (sortingHeap (copyHeap s.heap vs) (s.heap.objs.size + 1) vs) v (enc b) as) vs bs := er.mono fun _ _ ⟨as, r⟩ => ⟨as, PyProof.Rows.Reads.keeps (fun _ _ => sorting_copy_old) r⟩
  exact sorted_vals hl (sortsAt_ok (s := { s with heap := sortingHeap (copyHeap s.heap vs) (s.heap.objs.size + 1) vs }) (each_map (R := fun v d => ∃ as, Reads (sortingHeap (copyHeap s.heap vs) (s.heap.objs.size + 1) vs) v d as) enc er') hal hk (bound_map hu)) (by rw [e.length]; exact hL)
    (h _ (by rw [sortVals_length false rfl]; exact e.length) (sortVals_data false e er' hal))
end

section
variable {X : Cx}
def rSortU (K : PySem.W.Frag) : List V → Hp → VK → Prop := fun vs H Q => ∃ (a : Addr) (ys : List V) (ds : List PyData), vs = [.ref a] ∧ SqL K H a ys ∧ DpAll K H ys ds ∧ AllAlike ds ∧ SortOk ds ∧ PyData.depthAll ds ≤ 64 ∧
  ∀ p, H p = none → Q (.ref p) (upd H p (.lst (((ys.zip ds).mergeSort (dataLe false (·.2))).map (·.1))))
theorem cr_sortU (hu : X.A.units + 200 < cLine) : CallR X (.builtin "sorted") (rSortU X.K) := by
  intro pins s σ H xs us Q I rv h
  obtain ⟨a, ys, ds, rfl, hq, hd, al, so, dp, q⟩ := h
  have eu := Vals.ref1 rv
  subst eu
  obtain ⟨its, r, pl, hz⟩ := I.list hq
  obtain ⟨as, ra⟩ := Dp.readsAll I ds ys its hd r
  have hlen : ys.length = ds.length := dpAll_len hd
  have e1 : (ys.zip ds).map (·.2) = ds := List.map_snd_zip (by omega)
  have R1 := zipR r hlen
  have R2 := zipRd r ra
  have hdep : ∀ b, b ∈ ys.zip ds → X.A.units + 2 + b.2.depth < cLine := fun b hb => by
    have hm : b.2 ∈ ds := by
      have : b.2 ∈ (ys.zip ds).map (·.2) := List.mem_map.mpr ⟨b, hb, rfl⟩
      rw [e1] at this; exact this
    have := depth_mem hm
    omega
  refine sorted_dataU (R := fun (u : Value) (b : V × PyData) => RelV b.1 u) (enc := fun b => b.2) (bs := ys.zip ds) pl.isList R1 R2 (by rw [e1]; exact al) (by rw [e1]; exact so) (by rw [List.length_zip]; omega) hdep fun out ho hout => ?_
  obtain ⟨e, he⟩ := sortedAll_at s.heap its out.toArray
  have hv := eachVals hout
  have hn : H (s.heap.objs.size + 1) = none := I.hok.fresh (Nat.le_succ _)
  refine ⟨.ref (s.heap.objs.size + 1), _, I.laid (a := s.heap.objs.size + 1) (o := .lst _) (t' := s.toks) (fun b ob q => sortedAll_old q) (Nat.le_succ _) ?_, rfl, q _ hn⟩
  exact ⟨by rw [List.length_map, List.length_mergeSort, List.length_zip]; omega, out, e, hv, he⟩
end
section
variable {T : TC} {a b c e : Expr} {es : List Expr} {env e0 e1 e2 e3 : Env'} {pos p p1 p2 p3 : Pos} {α β : Type} {enc : α → PyData} {xs : List α}
theorem je_sortLu (hg : glB T.sc "sorted" = true) (hm : T.mg "sorted" = none) (ha : JE T e e0 e1 (.b (.list (xs.map enc)))) (al : AlkE enc) (so : SortOk (xs.map enc)) (sh : shN 64 (.list (xs.map enc)) = true := by simp [shN]) (hp : Plain e [] pos := by exact ⟨fun _ => rfl, fun _ => rfl⟩) : JE T (.Call (.Name "sorted" p) [e] [] pos) e0 e1 (.o (.list ((pySort enc xs).map enc))) :=
  je_bi1 (r := rSortU) (fun X hX => cr_sortU (room_units hX)) hg hm (by decide +kernel) ha (fun R C H env σ v Q E hv k => by
    obtain ⟨p, vs, rfl, h1, l1, r1⟩ := rb_lst E hv
    obtain ⟨q1, q2⟩ := shN_all (n := 63) sh
    have aa := al.all xs
    refine ⟨p, vs, xs.map enc, rfl, SqL.of h1, (r1.mono E.cH).dps q1, aa.1, so, by omega, fun q hq => ?_⟩
    · have e1 : (vs.zip (xs.map enc)).map (·.2) = xs.map enc := List.map_snd_zip (by rw [r1.len]; exact Nat.le_refl _)
      have key : ((vs.zip (xs.map enc)).mergeSort (dataLe false (·.2))).map (·.2) = (pySort enc xs).map enc := by
        rw [sort_maps (r := dataLe false fun b : V × PyData => b.2) (s := dataLe false fun d => d) (fun b : V × PyData => b.2) (fun _ _ _ _ => rfl), e1]
        unfold pySort
        rw [sort_maps (r := dataLe false enc) (s := dataLe false fun d => d) enc (fun _ _ _ _ => rfl)]
      have rr := rps_of_pairs (zs := (vs.zip (xs.map enc)).mergeSort (dataLe false (·.2))) (K := T.K) (C := C) fun b hb => rps_pairs r1 b (List.mem_mergeSort.mp hb)
      rw [key] at rr
      obtain ⟨E', r⟩ := E.freshO hq (by rw [List.length_map, List.length_mergeSort, List.length_zip]; omega) rr
      exact k _ C _ (Ex.refl C) E' r) hp
def repOkU (n : Nat) (k : Int) : Prop := 0 < n ∧ n ≤ 1000 ∧ 0 ≤ k ∧ k ≤ 1000
theorem je_repTu {xs : List α} {k : Int} (h : JE2 T a b e0 e2 (.tuple (xs.map enc)) (.int k)) (hk : repOkU xs.length k) : JE T (.BinOp a .Mult b pos) e0 e2 (.d (.tuple ((repX xs k).map enc))) := by
  obtain ⟨k0, k1, k2, k3⟩ := hk
  by_cases h2 : 2 ≤ k
  · exact je_repT h ⟨k0, k1, h2, k3⟩
  by_cases h1 : k = 1
  · subst h1
    have e1 : repX xs 1 = xs := by show (List.replicate 1 xs).flatten = xs; simp
    rw [e1]
    exact je_bin (r := fun K => rRep1 K) (fun X _ => op_rep1) h fun R C H env σ u v Q E hu hv kk => by
      obtain ⟨p, vs, rfl, h1, c1, l1, r1⟩ := rb_tup E hu
      have := rb_int E hv
      subst this
      exact ⟨p, vs, rfl, rfl, h1, kk _ C H (Ex.refl C) E (.tup c1 l1 r1)⟩
  · have h0 : k = 0 := by omega
    subst h0
    have e1 : repX xs 0 = [] := rfl
    rw [e1]
    exact je_bin (r := fun K => rRep0 K) (fun X _ => op_rep0) h fun R C H env σ u v Q E hu hv kk => by
      obtain ⟨p, vs, rfl, h1, c1, l1, r1⟩ := rb_tup E hu
      have := rb_int E hv
      subst this
      have el := r1.len
      rw [List.length_map] at el
      refine ⟨p, vs, rfl, rfl, h1, fun q => by subst q; simp at el; omega, fun t ht => ?_⟩
      obtain ⟨c, E', r⟩ := E.freshT (vs := []) (ds := []) ht (Nat.zero_le _) .nil
      exact kk _ _ _ c E' r
end
end J
namespace J
open PySem L2 PySem.Spec PyProof.Rows
/-! ### plain laws of lists -/
theorem cut_to {α : Type} (xs : List α) (k : Nat) : cutL xs none (some (k : Int)) = xs.take k := by
  unfold cutL
  rw [HT.sIx_nat, HT.sIx_none, List.drop_zero, Nat.sub_zero, List.take_eq_take_iff]
  omega
theorem cut_from {α : Type} (xs : List α) (k : Nat) : cutL xs (some (k : Int)) none = xs.drop k := by
  unfold cutL
  rw [HT.sIx_nat, HT.sIx_none]
  have e1 : xs.drop (min k xs.length) = xs.drop k := by
    by_cases h : k ≤ xs.length
    · rw [Nat.min_eq_left h]
    · rw [Nat.min_eq_right (by omega), List.drop_length, List.drop_eq_nil_of_le (by omega)]
  rw [e1]
  exact List.take_of_length_le (by rw [List.length_drop]; omega)
theorem cut_from1 {α : Type} (xs : List α) : cutL xs (some 1) none = xs.drop 1 := cut_from xs 1
theorem foldl_fil {α β : Type} (p : α → Bool) (f : α → β) : ∀ (xs : List α) (l : List β), xs.foldl (fun l x => if p x = true then l ++ [f x] else l) l = l ++ (xs.filter p).map f
  | [], l => by simp
  | x :: xs, l => by
    rw [List.foldl_cons, foldl_fil p f xs]
    cases q : p x <;> simp [q]
theorem foldl_flat {α β : Type} (f : α → List β) : ∀ (xs : List α) (l : List β), xs.foldl (fun l x => l ++ f x) l = l ++ xs.flatMap f
  | [], l => by simp
  | x :: xs, l => by rw [List.foldl_cons, foldl_flat f xs, List.flatMap_cons, List.append_assoc]
theorem flat_foldl {α β γ : Type} (f : α → List β) (g : γ → β → γ) : ∀ (xs : List α) (b : γ), (xs.flatMap f).foldl g b = xs.foldl (fun b x => (f x).foldl g b) b
  | [], b => rfl
  | x :: xs, b => by rw [List.flatMap_cons, List.foldl_append, List.foldl_cons, flat_foldl f g xs]
theorem foldl_ext {α β : Type} {f g : β → α → β} : ∀ {xs : List α} (b : β), (∀ x ∈ xs, ∀ b, f b x = g b x) → xs.foldl f b = xs.foldl g b
  | [], _, _ => rfl
  | x :: xs, b, h => by rw [List.foldl_cons, List.foldl_cons, h x (by simp), foldl_ext _ fun y hy => h y (by simp [hy])]
theorem forR_inl {α L ρ : Type} {step : L → α → L ⊕ ρ} {g : L → α → L} : ∀ {xs : List α} (l : L), (∀ x ∈ xs, ∀ l, step l x = .inl (g l x)) → forR step l xs = .inl (xs.foldl g l)
  | [], _, _ => rfl
  | x :: xs, l, h => by
    rw [forR, h x (by simp), List.foldl_cons]
    exact forR_inl _ fun y hy => h y (by simp [hy])
theorem zip_drop_mem {α : Type} {P : α → α → Prop} : ∀ {xs : List α}, xs.Pairwise P → ∀ q ∈ xs.zip (xs.drop 1), P q.1 q.2
  | [], _ => fun q h => by simp at h
  | [x], _ => fun q h => by simp at h
  | x :: y :: xs, h => fun q hq => by
    have h1 := List.pairwise_cons.mp h
    have hq : q ∈ (x, y) :: (y :: xs).zip ((y :: xs).drop 1) := by simpa using hq
    rcases List.mem_cons.mp hq with rfl | hq
    · exact h1.1 y (by simp)
    · exact zip_drop_mem h1.2 q hq
theorem pairs_of {α : Type} {P : α → α → Prop} (sym : ∀ a b, P a b → P b a) : ∀ {xs : List α}, xs.Nodup → (xs.Pairwise P ↔ ∀ a ∈ xs, ∀ c ∈ xs, c ≠ a → P a c)
  | [], _ => by simp
  | x :: xs, h => by
    obtain ⟨h1, h2⟩ := List.nodup_cons.mp h
    rw [List.pairwise_cons, pairs_of sym h2]
    constructor
    · rintro ⟨q1, q2⟩ a ha c hc hne
      rcases List.mem_cons.mp ha with ea | ha'
      · rcases List.mem_cons.mp hc with ec | hc'
        · exact absurd (ec.trans ea.symm) hne
        · rw [ea]; exact q1 c hc'
      · rcases List.mem_cons.mp hc with ec | hc'
        · rw [ec]; exact sym _ _ (q1 a ha')
        · exact q2 a ha' c hc' hne
    · intro q
      exact ⟨fun c hc => q x (by simp) c (by simp [hc]) fun e => h1 (e ▸ hc), fun a ha c hc hne => q a (by simp [ha]) c (by simp [hc]) hne⟩
theorem idxL_nd {α : Type} [DecidableEq α] {xs : List α} (h : xs.Nodup) {i : Nat} (hi : i < xs.length) : idxL xs xs[i] = (i : Int) := by
  unfold idxL
  congr 1
  rw [List.findIdx_eq hi]
  refine ⟨by simp, fun j hj => ?_⟩
  have := (List.pairwise_iff_getElem.mp h) j i (by omega) hi hj
  exact decide_eq_false this
theorem zip_fst_sub {α β : Type} : ∀ (xs : List α) (ys : List β), ((xs.zip ys).map (·.1)).Sublist xs
  | [], _ => by simp
  | x :: xs, [] => by simp
  | x :: xs, y :: ys => by
    rw [List.zip_cons_cons, List.map_cons]
    exact (zip_fst_sub xs ys).cons₂ x
theorem nodup_lt {α : Type} {f : α → PyData} {xs : List α} (h : xs.Pairwise fun a b => ltB f a b = true) : xs.Nodup := h.imp fun q e => by
  rw [e, ltB_irr] at q; cases q
theorem rgI_take {n : Int} {i : Nat} (h : (i : Int) ≤ n) : (rgI 0 n).take i = rgI 0 i := by
  unfold rgI
  rw [← List.map_take, List.take_range, Nat.min_eq_left (by omega)]
  congr 2
theorem rgI_at {n : Int} {i : Nat} {x : Int} (h : (rgI 0 n)[i]? = some x) : x = (i : Int) ∧ (i : Int) < n := by
  unfold rgI at h
  rw [List.getElem?_map] at h
  have hi : i < (n - 0).toNat := by
    cases q : (List.range (n - 0).toNat)[i]? with
    | none => rw [q] at h; cases h
    | some j => have := (List.getElem?_eq_some_iff.mp q).1; simpa using this
  rw [List.getElem?_range hi] at h
  have h := Option.some.inj h
  simp only at h
  omega
theorem mapS_in {α β S : Type} (f : S → α → β × S) : ∀ (xs : List α) (s : S), ∀ y ∈ (mapS f s xs).1, ∃ s', ∃ x ∈ xs, y = (f s' x).1
  | [], s => fun y h => by simp [mapS] at h
  | x :: xs, s => fun y h => by
    simp only [mapS, List.mem_cons] at h
    rcases h with rfl | h
    · exact ⟨s, x, by simp, rfl⟩
    · obtain ⟨s', z, hz, e⟩ := mapS_in f xs _ y h
      exact ⟨s', z, by simp [hz], e⟩
theorem mapS_keep {α β γ S : Type} (f : S → α → β × S) (g : β → γ) (h : α → γ) (hh : ∀ s x, g (f s x).1 = h x) : ∀ (xs : List α) (s : S), (mapS f s xs).1.map g = xs.map h
  | [], s => rfl
  | x :: xs, s => by simp only [mapS, List.map_cons, mapS_keep f g h hh xs, hh]
theorem filS_in {α β S : Type} (c : S → α → Bool × S) (g : α → β) : ∀ (xs : List α) (s : S), ∀ y ∈ (filS c g s xs).1, ∃ x ∈ xs, y = g x
  | [], s => fun y h => by simp [filS] at h
  | x :: xs, s => fun y h => by
    simp only [filS] at h
    split at h
    · simp only [List.mem_cons] at h
      rcases h with rfl | h
      · exact ⟨x, by simp, rfl⟩
      · obtain ⟨z, hz, e⟩ := filS_in c g xs _ y h
        exact ⟨z, by simp [hz], e⟩
    · obtain ⟨z, hz, e⟩ := filS_in c g xs _ y h
      exact ⟨z, by simp [hz], e⟩
theorem filS_sub {α S : Type} (c : S → α → Bool × S) : ∀ (xs : List α) (s : S), (filS c (fun x => x) s xs).1.Sublist xs
  | [], s => by simp [filS]
  | x :: xs, s => by
    simp only [filS]
    split
    · exact (filS_sub c xs _).cons₂ x
    · exact (filS_sub c xs _).cons x
end J
namespace J
open PySem L2 PySem.Spec PyProof.Rows PySem.W
section
variable {T : TC} {a b c e : Expr} {es : List Expr} {env e0 e1 e2 e3 : Env'} {pos p p1 p2 p3 : Pos} {K : PySem.W.Frag} {R C C' H H' : Hp} {σ : L2.St} {v : V}
/-! ### text + text -/
theorem len_app (i j : Str) : (i ++ j).length = i.length + j.length := by
  show (Array.size (i.cps ++ j.cps)) = _
  rw [Array.size_append]; rfl
theorem sOk_app {i j : Str} (hi : sOk i) (hj : sOk j) (h : i.length + j.length ≤ LN) : sOk (i ++ j) := by
  refine ⟨?_, by rw [len_app]; exact h⟩
  have a := hi.1
  have b := hj.1
  unfold PyData.strOk at a b ⊢
  show (i.cps ++ j.cps).all _ = true
  rw [Array.all_append, a, b]; rfl
theorem je_addS {i j : Str} (h : JE2 T a b e0 e2 (.str i) (.str j)) (hl : i.length + j.length ≤ LN) : JE T (.BinOp a .Add b pos) e0 e2 (.d (.str (i ++ j))) :=
  je_bin (r := fun _ => fun x y H Q => ∃ i j, x = .str i ∧ y = .str j ∧ i.length + j.length ≤ sizeLine ∧ Q (.str (i ++ j)) H) (fun X _ => op_add_str) h fun R C H env σ u v Q E hu hv k => by
    have h1 := rb_str E hu
    have h2 := rb_str E hv
    subst h1 h2
    have r1 := rb_rp E hu
    have r2 := rb_rp E hv
    cases r1 with
    | str o1 => cases r2 with
      | str o2 => exact ⟨i, j, rfl, rfl, by rw [sizeLine_eq]; exact hl, k _ C H (Ex.refl C) E (.str (sOk_app o1 o2 hl))⟩
end
end J
namespace J
open PySem L2 PySem.Spec PyProof.Rows PySem.W PySem.SeqAt
/-! ### sorted lists of tuples, empty ones too -/
section
variable {prog : Program} {w : World} {A : Around} {E : Value → Shared → Prop} {s : Shared}
theorem call_tuple_ltD {Q : Value → Shared → Prop} {l b : Addr} {items items2 : Array Value} {e r : Nat → Bool} (hl : s.heap.IsTuple l items) (hb : s.heap.IsTuple b items2)
    (he : ∀ j (h1 : j < items.size) (h2 : j < items2.size), EqAt A.in1 s items[j] items2[j] (e j)) (hr : ∀ j (h1 : j < items.size) (h2 : j < items2.size), e j = false → RcLt A.in1 s items[j] items2[j] (r j))
    (h : Q (.bool (firstLt e r (decide (items.size < items2.size)) (List.range (min items.size items2.size)))) s) : wpAny (model prog w) A (call (.builtin "tuple.__lt__") [.ref l, .ref b]) Q E s := by
  obtain ⟨⟨cls, dd, data, sl⟩, ho, hc, n, hd⟩ := id hl
  obtain ⟨⟨cls2, dd2, data2, sl2⟩, ho2, hc2, n2, hd2⟩ := id hb
  simp only at hc hd hc2 hd2
  subst hc hd hc2 hd2
  exact call_meets F.slot_tuple_lt ⟨_, ho, rfl⟩ F.entry_tuple_lt (F.args_tuple_lt_2 _ _) (tuple_ltAt l b items items2 n n2 dd dd2 sl sl2 e r) ⟨ho, ho2, he, hr, h⟩
theorem oneLt_tup {xs ys : List PyData} {a b : Value} {as bs : List Addr} {Q : Bool → Shared → Prop} (ra : Reads s.heap a (.tuple xs) as) (rb : Reads s.heap b (.tuple ys) bs) (hal : alikeAll xs ys = true)
    (hu : A.units + min (PyData.tuple xs).depth (PyData.tuple ys).depth < cLine) (hq : Q (dataLt (.tuple xs) (.tuple ys)) s) : wpAny (model prog w) A (oneLt' true a b) Q E s := by
  cases ra with
  | @tuple l o vs n _ as₁ h1 h2 h3 h4 =>
    cases rb with
    | @tuple l' o' vs' n' _ bs₁ k1 k2 k3 k4 =>
      have n1 : vs.size = xs.length := by simpa using ReadsAll.length _ _ _ h4
      have n2 : vs'.size = ys.length := by simpa using ReadsAll.length _ _ _ k4
      rw [dataLt_tuple, ← firstLt_toks xs ys hal, ← n1, ← n2] at hq
      rw [oneLt'_eq]
      simp only [if_true]
      refine wpAny_bind (wpAny_cRoomFor (room_here hu) ?_)
      refine wpAny_bind (wpAny_callSpecialIfBound?_slot (T := "tuple") ⟨_, h1, h2⟩ F.slot_tuple_lt (call_tuple_ltD (e := pairEq xs ys) (r := fun j => dataLt (xs.getD j .none) (ys.getD j .none)) ⟨_, h1, h2, _, h3⟩ ⟨_, k1, k2, _, k3⟩ (fun j j1 j2 => ?_) (fun j j1 j2 hj => ?_) ?_))
      · have := eqAt_alikeAll xs ys A.in1 s vs.toList vs'.toList _ _ h4 k4 hal (room_in hu) j (by simpa using j1) (by simpa using j2)
        simpa using this
      · have := rcLt_alikeAll xs ys A.in1 s vs.toList vs'.toList _ _ h4 k4 hal (room_in hu) j (by simpa using j1) (by simpa using j2) hj
        simpa using this
      · exact wpAny_truthy_bool hq
end
section
variable {M : Model} {A : Around} {E : Value → Shared → Prop} {s : Shared}
/-- the first things of tuples -/
def FirstIs (h : Heap) (v : Value) (o : Option Value) : Prop := ∃ a ob xs n, v = .ref a ∧ h.get? a = some ob ∧ ob.cls = .type "tuple" ∧ ob.data = .seq xs n ∧ xs[0]? = o
theorem firsts_any : ∀ (vs : List Value) (fs : List (Option Value)) {Q : List (Option Value) → Shared → Prop}, EachIs (FirstIs s.heap) vs fs → Q fs s → wpAny M A (vs.mapM firstOfTuple') Q E s
  | _, _, _, .nil, h => by rw [List.mapM_nil]; exact wpAny_pure h
  | _, _, Q, .cons (a := v) (as := vs) (b := f) (bs := fs) t ts, h => by
    obtain ⟨a, o, xs, n, rfl, ho, hc, hd, hf⟩ := t
    rw [List.mapM_cons]
    refine wpAny_bind ?_
    rw [kas_first_eq]
    refine wpAny_bind (Looks.here (show Looks M s.heap (typeOf (.ref a)) o.cls from (Looks.ld ho).andThen .now) ?_)
    rw [hc, if_neg (by first | decide | simp)]
    refine wpAny_bind (listItems_at ho hd (wpAny_pure ?_))
    rw [hf]
    exact wpAny_bind (firsts_any vs fs (Q := fun bs s' => wpAny M A (pure (f :: bs)) Q E s') ts (wpAny_pure h))
theorem tup_kind {vs : List Value} {fs : List (Option Value)} {Q : SortKind → Shared → Prop} (h2 : 2 ≤ vs.length) (t : EachIs (FirstIs s.heap) vs fs) (hn : fs.all (·.isSome) = false) (h : Q (if (fs[0]?.bind id).isSome = true then general' else oneType') s) :
    wpAny M A (keyKind' vs.toArray) Q E s := by
  rw [keyKind'_eq, List.mapM_toArray, map_eq_pure_bind]
  refine wpAny_bind (wpAny_bind (firsts_any vs fs t (wpAny_pure ?_)))
  have hall : (fs.toArray.all fun x => x.isSome) = false := by simpa using hn
  rw [if_neg (by rw [hall]; decide)]
  have h0 : fs.toArray[0]? = fs[0]? := by simp
  rw [h0]
  cases q : (fs[0]?.bind id).isSome with
  | true =>
    rw [q] at h
    simp only [if_true] at h ⊢
    exact wpAny_pure h
  | false =>
    rw [q] at h
    simp only [Bool.false_eq_true, if_false] at h ⊢
    rw [oneTypeOnly'_eq, List.mapM_toArray, map_eq_pure_bind]
    have hT : ∀ v ∈ vs, Looks M s.heap (typeOf v) (.type "tuple") := fun v hv => by
      obtain ⟨f, _, a, o, xs, n, rfl, ho, hc, hd, hf⟩ := t.left v hv
      exact hc ▸ (Looks.ld ho).andThen .now
    refine wpAny_bind (wpAny_bind (wpAny_bind (kas_mapM (r := Value.type "tuple") _ (fun v hv Q' hq => (hT v hv).here hq) (wpAny_pure ?_))))
    obtain ⟨v₁, v₂, rest, rfl⟩ : ∃ v₁ v₂ rest, vs = v₁ :: v₂ :: rest := by
      match vs, h2 with
      | [], h2 => simp at h2
      | [_], h2 => simp at h2
      | v₁ :: v₂ :: rest, _ => exact ⟨v₁, v₂, rest, rfl⟩
    have hall2 : ((List.map (fun _ => Value.type "tuple") (v₁ :: v₂ :: rest)).toArray.all fun x => x == Value.type "tuple") = true := by
      simp only [List.all_toArray, List.all_map, List.all_eq_true]
      intro _ _
      rfl
    have h0 : (List.map (fun _ => Value.type "tuple") (v₁ :: v₂ :: rest)).toArray[0]? = some (Value.type "tuple") := by simp
    rw [h0]
    simp only [hall2, if_true]
    exact wpAny_pure (wpAny_pure h)
end
section
variable {prog : Program} {w : World} {A : Around} {s : Shared} {β : Type} {R : Value → β → Prop} {enc : β → PyData} {vs : List Value} {bs : List β}
theorem firsts_of {h : Heap} : ∀ {vs : List Value} {ds : List PyData}, EachIs (fun v d => ∃ as, Reads h v d as) vs ds → (∀ d, d ∈ ds → ∃ xs, d = .tuple xs) → ∃ fs, EachIs (FirstIs h) vs fs ∧ (fs.all (·.isSome) = true → ∀ d, d ∈ ds → ∃ x r, d = .tuple (x :: r))
  | _, _, .nil, _ => ⟨[], .nil, fun _ d hd => by cases hd⟩
  | _, _, .cons (b := d) ⟨as, r⟩ t, ht => by
    obtain ⟨fs, h1, h2⟩ := firsts_of t fun d hd => ht d (List.mem_cons_of_mem _ hd)
    obtain ⟨ys, rfl⟩ := ht d (List.mem_cons_self ..)
    cases r with
    | @tuple a o xs n _ _ ho hc hd hr =>
      refine ⟨xs[0]? :: fs, .cons ⟨a, o, xs, n, rfl, ho, hc, hd, rfl⟩ h1, fun q d hd => ?_⟩
      rw [List.all_cons, Bool.and_eq_true] at q
      rcases List.mem_cons.mp hd with rfl | hd
      · cases ys with
        | nil =>
          have : xs.toList = [] := by cases e : xs.toList with
            | nil => rfl
            | cons a b => rw [e] at hr; cases hr
          have : xs[0]? = none := by rw [← Array.getElem?_toList, this]; rfl
          rw [this] at q; exact absurd q.1 (by decide)
        | cons y ys => exact ⟨y, ys, rfl⟩
      · exact h2 q.2 d hd
theorem sortsAt_tup {vs : List Value} {ds : List PyData} (e : EachIs (fun v d => ∃ as, Reads s.heap v d as) vs ds) (hal : AllAlike ds) (ht : ∀ d, d ∈ ds → ∃ xs, d = .tuple xs) (hu : ∀ d, d ∈ ds → A.units + d.depth < cLine) : SortsAt prog w A s (dataKind s.heap ds) vs := by
  obtain ⟨fs, f1, f2⟩ := firsts_of e ht
  cases q : fs.all (·.isSome) with
  | true => exact SortsAt.data e hal (.inl (f2 q)) hu
  | false =>
    refine ⟨fun v hv => ?_, (if (fs[0]?.bind id).isSome = true then general' else oneType'), ?_, fun h2 E Q hq => tup_kind h2 f1 q hq⟩
    · obtain ⟨d, hd, as, r⟩ := e.left v hv
      exact ⟨_, dataKind_some hal hd r⟩
    · intro E x y a b Q ha hb hq
      obtain ⟨d, as, hd, ra, rfl⟩ := dataKind_inv ha
      obtain ⟨d', as', hd', rb, rfl⟩ := dataKind_inv hb
      have hu' := hu d hd
      have room : A.units + min d.depth d'.depth < cLine := Nat.lt_of_le_of_lt (Nat.add_le_add_left (Nat.min_le_left _ _) _) hu'
      have al := hal d hd d' hd'
      obtain ⟨xs, rfl⟩ := ht d hd
      obtain ⟨ys, rfl⟩ := ht d' hd'
      cases (fs[0]?.bind id).isSome with
      | true => exact oneLt_alike (f := false) (fun q => absurd q (by decide)) ra rb al (by simp) room hq
      | false => exact oneLt_tup ra rb (by simpa [alike] using al) room hq
theorem sorted_dataT {l : Addr} {E' : Value → Shared → Prop} {Q : Value → Shared → Prop} (hl : s.heap.IsList l vs.toArray) (e : EachIs R vs bs) (er : EachIs (fun v b => ∃ as, Reads s.heap v (enc b) as) vs bs) (hal : AllAlike (bs.map enc)) (hk : ∀ d, d ∈ bs.map enc → ∃ xs, d = .tuple xs) (hL : bs.length ≤ sizeLine)
    (hu : ∀ b, b ∈ bs → A.units + 2 + (enc b).depth < cLine) (h : ∀ out, out.length = bs.length → EachIs R out (bs.mergeSort (dataLe false enc)) → Q (.ref (s.heap.objs.size + 1)) { s with heap := sortedAll s.heap vs (List.toArray out) }) :
    wpAny (model prog w) A (call (.builtin "sorted") [.ref l]) Q E' s := by
  have er' : EachIs (fun v b => ∃ as, Reads (sortingHeap (copyHeap s.heap vs) (s.heap.objs.size + 1) vs) v (enc b) as) vs bs := er.mono fun _ _ ⟨as, r⟩ => ⟨as, PyProof.Rows.Reads.keeps (fun _ _ => sorting_copy_old) r⟩
  exact sorted_vals hl (sortsAt_tup (s := { s with heap := sortingHeap (copyHeap s.heap vs) (s.heap.objs.size + 1) vs }) (each_map (R := fun v d => ∃ as, Reads (sortingHeap (copyHeap s.heap vs) (s.heap.objs.size + 1) vs) v d as) enc er') hal hk (bound_map hu)) (by rw [e.length]; exact hL)
    (h _ (by rw [sortVals_length false rfl]; exact e.length) (sortVals_data false e er' hal))
end
section
variable {X : Cx}
def rSortV (K : PySem.W.Frag) : List V → Hp → VK → Prop := fun vs H Q => ∃ (a : Addr) (ys : List V) (ds : List PyData), vs = [.ref a] ∧ SqL K H a ys ∧ DpAll K H ys ds ∧ AllAlike ds ∧ (∀ d, d ∈ ds → ∃ xs, d = .tuple xs) ∧ PyData.depthAll ds ≤ 64 ∧
  ∀ p, H p = none → Q (.ref p) (upd H p (.lst (((ys.zip ds).mergeSort (dataLe false (·.2))).map (·.1))))
theorem cr_sortV (hu : X.A.units + 200 < cLine) : CallR X (.builtin "sorted") (rSortV X.K) := by
  intro pins s σ H xs us Q I rv h
  obtain ⟨a, ys, ds, rfl, hq, hd, al, so, dp, q⟩ := h
  have eu := Vals.ref1 rv
  subst eu
  obtain ⟨its, r, pl, hz⟩ := I.list hq
  obtain ⟨as, ra⟩ := Dp.readsAll I ds ys its hd r
  have hlen : ys.length = ds.length := dpAll_len hd
  have e1 : (ys.zip ds).map (·.2) = ds := List.map_snd_zip (by omega)
  have R1 := zipR r hlen
  have R2 := zipRd r ra
  have hdep : ∀ b, b ∈ ys.zip ds → X.A.units + 2 + b.2.depth < cLine := fun b hb => by
    have hm : b.2 ∈ ds := by
      have : b.2 ∈ (ys.zip ds).map (·.2) := List.mem_map.mpr ⟨b, hb, rfl⟩
      rw [e1] at this; exact this
    have := depth_mem hm
    omega
  refine sorted_dataT (R := fun (u : Value) (b : V × PyData) => RelV b.1 u) (enc := fun b => b.2) (bs := ys.zip ds) pl.isList R1 R2 (by rw [e1]; exact al) (by rw [e1]; exact so) (by rw [List.length_zip]; omega) hdep fun out ho hout => ?_
  obtain ⟨e, he⟩ := sortedAll_at s.heap its out.toArray
  have hv := eachVals hout
  have hn : H (s.heap.objs.size + 1) = none := I.hok.fresh (Nat.le_succ _)
  refine ⟨.ref (s.heap.objs.size + 1), _, I.laid (a := s.heap.objs.size + 1) (o := .lst _) (t' := s.toks) (fun b ob q => sortedAll_old q) (Nat.le_succ _) ?_, rfl, q _ hn⟩
  exact ⟨by rw [List.length_map, List.length_mergeSort, List.length_zip]; omega, out, e, hv, he⟩
end
section
variable {T : TC} {a b c e : Expr} {es : List Expr} {env e0 e1 e2 e3 : Env'} {pos p p1 p2 p3 : Pos} {α β : Type} {f : α → PyData} {xs : List (List α)}
theorem je_sortLv (hg : glB T.sc "sorted" = true) (hm : T.mg "sorted" = none) (ha : JE T e e0 e1 (.b (.list (xs.map (eT f))))) (al : AlkE (eT f)) (sh : shN 64 (.list (xs.map (eT f))) = true := by simp [shN]) (hp : Plain e [] pos := by exact ⟨fun _ => rfl, fun _ => rfl⟩) : JE T (.Call (.Name "sorted" p) [e] [] pos) e0 e1 (.o (.list ((pySort (eT f) xs).map (eT f)))) :=
  je_bi1 (r := rSortV) (fun X hX => cr_sortV (room_units hX)) hg hm (by decide +kernel) ha (fun R C H env σ v Q E hv k => by
    obtain ⟨p, vs, rfl, h1, l1, r1⟩ := rb_lst E hv
    obtain ⟨q1, q2⟩ := shN_all (n := 63) sh
    have aa := al.all xs
    refine ⟨p, vs, xs.map (eT f), rfl, SqL.of h1, (r1.mono E.cH).dps q1, aa.1, fun d hd => by obtain ⟨x, _, rfl⟩ := List.mem_map.mp hd; exact ⟨_, rfl⟩, by omega, fun q hq => ?_⟩
    · have e1 : (vs.zip (xs.map (eT f))).map (·.2) = xs.map (eT f) := List.map_snd_zip (by rw [r1.len]; exact Nat.le_refl _)
      have key : ((vs.zip (xs.map (eT f))).mergeSort (dataLe false (·.2))).map (·.2) = (pySort (eT f) xs).map (eT f) := by
        rw [sort_maps (r := dataLe false fun b : V × PyData => b.2) (s := dataLe false fun d => d) (fun b : V × PyData => b.2) (fun _ _ _ _ => rfl), e1]
        unfold pySort
        rw [sort_maps (r := dataLe false (eT f)) (s := dataLe false fun d => d) (eT f) (fun _ _ _ _ => rfl)]
      have rr := rps_of_pairs (zs := (vs.zip (xs.map (eT f))).mergeSort (dataLe false (·.2))) (K := T.K) (C := C) fun b hb => rps_pairs r1 b (List.mem_mergeSort.mp hb)
      rw [key] at rr
      obtain ⟨E', r⟩ := E.freshO hq (by rw [List.length_map, List.length_mergeSort, List.length_zip]; omega) rr
      exact k _ C _ (Ex.refl C) E' r) hp
end
end J
namespace J
open PySem L2 PySem.Spec PyProof.Rows PySem.W
/-! ### going into a Let -/
theorem let_b {α : Type} {v : α} {f : α → Bool} (h : ∀ x, v = x → f x = true) : Let v f = true := h v rfl
theorem let_p {α : Type} {v : α} {f : α → Prop} (h : ∀ x, v = x → f x) : Let v f := h v rfl
theorem mapS_count {α β S : Type} (f : S → α → β × S) : ∀ (xs : List α) (s : S), (mapS f s xs).1.length = xs.length
  | [], s => rfl
  | x :: xs, s => by simp only [mapS, List.length_cons, mapS_count f xs]
/-! ### the order of data tells things apart; the least of them -/
theorem dataLt_trans (x y z : PyData) (h1 : dataLt x y = true) (h2 : dataLt y z = true) : dataLt x z = true := (listOrd itemOrd).trans _ _ _ h1 h2
theorem dataLt_neg (x y z : PyData) (h : dataLt x z = true) : dataLt x y = true ∨ dataLt y z = true := (listOrd itemOrd).negTrans _ _ _ h
def Tri {α : Type} (f : α → PyData) : Prop := ∀ a b, ltB f a b = false → ltB f b a = false → a = b
theorem tri_int : Tri PyData.int := fun a b h1 h2 => by
  rw [ltB_int] at h1 h2
  have := of_decide_eq_false h1
  have := of_decide_eq_false h2
  omega
theorem tri_str : Tri PyData.str := fun a b h1 h2 => by
  unfold ltB at h1 h2
  rw [dataLt_str] at h1 h2
  have e : b.cps.toList = a.cps.toList := List.le_antisymm (of_decide_eq_false h1) (of_decide_eq_false h2)
  cases a; cases b
  simp only at e
  rw [Array.toList_inj.mp e]
theorem tri_p2 {α β : Type} [DecidableEq α] [DecidableEq β] {f : α → PyData} {g : β → PyData} (F : AlkE f) (G : AlkE g) (Fe : EqE f) (Ge : EqE g) (tf : Tri f) (tg : Tri g) : Tri (eP2 f g) := fun p q h1 h2 => by
  rw [ltB_p2 F G Fe Ge] at h1 h2
  by_cases e : p.1 = q.1
  · rw [if_pos e] at h1
    rw [if_pos e.symm] at h2
    exact Prod.ext e (tg _ _ h1 h2)
  · rw [if_neg e] at h1
    rw [if_neg fun z => e z.symm] at h2
    exact absurd (tf _ _ h1 h2) e
theorem tri_ls {α : Type} [DecidableEq α] {f : α → PyData} (tf : Tri f) : ∀ xs ys : List α, ltLs f xs ys = false → ltLs f ys xs = false → xs = ys
  | [], [], _, _ => rfl
  | [], _ :: _, h, _ => by cases h
  | _ :: _, [], _, h => by cases h
  | x :: xs, y :: ys, h1, h2 => by
    unfold ltLs at h1 h2
    by_cases e : x = y
    · rw [if_pos e] at h1
      rw [if_pos e.symm] at h2
      rw [e, tri_ls tf xs ys h1 h2]
    · rw [if_neg e] at h1
      rw [if_neg fun z => e z.symm] at h2
      exact absurd (tf _ _ h1 h2) e
theorem tri_t {α : Type} [DecidableEq α] {f : α → PyData} (F : AlkE f) (Fe : EqE f) (tf : Tri f) : Tri (eT f) := fun xs ys h1 h2 => by
  rw [ltB_t F Fe] at h1 h2
  exact tri_ls tf xs ys h1 h2
theorem fold_min {α : Type} (f : α → PyData) : ∀ (xs : List α) (x : α), (xs.foldl (fun a y => if dataLt (f y) (f a) = true then y else a) x ∈ x :: xs) ∧ ∀ y ∈ x :: xs, ltB f y (xs.foldl (fun a y => if dataLt (f y) (f a) = true then y else a) x) = false
  | [], x => ⟨by simp, fun y hy => by rw [List.mem_singleton.mp hy]; exact ltB_irr f x⟩
  | z :: xs, x => by
    rw [List.foldl_cons]
    obtain ⟨h1, h2⟩ := fold_min f xs (if dataLt (f z) (f x) = true then z else x)
    generalize xs.foldl (fun a y => if dataLt (f y) (f a) = true then y else a) (if dataLt (f z) (f x) = true then z else x) = m at h1 h2 ⊢
    constructor
    · rcases List.mem_cons.mp h1 with h | h
      · rw [h]; split <;> simp
      · simp [h]
    · intro y hy
      have h0 := h2 _ (List.mem_cons_self ..)
      rcases List.mem_cons.mp hy with rfl | hy
      · by_cases q : dataLt (f z) (f y) = true
        · rw [if_pos q] at h0
          cases e : ltB f y m with
          | false => rfl
          | true =>
            have : ltB f z m = true := dataLt_trans _ _ _ q e
            rw [this] at h0; cases h0
        · rw [if_neg q] at h0; exact h0
      · rcases List.mem_cons.mp hy with rfl | hy
        · by_cases q : dataLt (f y) (f x) = true
          · rw [if_pos q] at h0; exact h0
          · rw [if_neg q] at h0
            cases e : ltB f y m with
            | false => rfl
            | true =>
              rcases dataLt_neg _ (f x) _ e with w | w
              · exact absurd w q
              · have : ltB f x m = true := w
                rw [this] at h0; cases h0
        · exact h2 y (by simp [hy])
theorem pyMin_mem {α : Type} [Inhabited α] {f : α → PyData} {xs : List α} (h : xs ≠ []) : pyMin f xs ∈ xs := by
  cases xs with
  | nil => exact absurd rfl h
  | cons x xs => exact (fold_min f xs x).1
theorem pyMin_le {α : Type} [Inhabited α] {f : α → PyData} {xs : List α} : ∀ y ∈ xs, ltB f y (pyMin f xs) = false := by
  cases xs with
  | nil => intro y hy; cases hy
  | cons x xs => exact (fold_min f xs x).2
/-- the least is one alone -/
theorem pyMin_eq {α : Type} [Inhabited α] {f : α → PyData} (t : Tri f) {xs : List α} {m : α} (hm : m ∈ xs) (h : ∀ y ∈ xs, ltB f y m = false) : pyMin f xs = m := by
  have hne : xs ≠ [] := by intro q; subst q; cases hm
  exact t _ _ (h _ (pyMin_mem hne)) (pyMin_le m hm)
/-! ### things of any kind -/
theorem tup_back {x : PyData} (h : isTup x = true) : (eT eD) ((dT dA) x) = x := by
  cases x <;> first | (cases h; done) | skip
  rename_i xs
  show PyData.tuple ((xs.map dA).map eD) = _
  rw [List.map_map, show (eD ∘ dA) = (id : PyData → PyData) from rfl, List.map_id]
theorem lst_back {x : PyData} (h : isLst x = true) : (eL eD) ((dL dA) x) = x := by
  cases x <;> first | (cases h; done) | skip
  rename_i xs
  show PyData.list ((xs.map dA).map eD) = _
  rw [List.map_map, show (eD ∘ dA) = (id : PyData → PyData) from rfl, List.map_id]
theorem str_back {y : PyData} (h : isStr y = true) : PyData.str (dS y) = y := by
  cases y <;> first | rfl | cases h
theorem int_back {y : PyData} (h : (J.isInt y && !isBoo y) = true) : PyData.int (dI y) = y := by
  cases y <;> simp_all [J.isInt, isBoo, dI]
theorem tup_of {x : PyData} (h : isTup x = true) : ∃ xs, x = .tuple xs := by
  cases x <;> first | exact ⟨_, rfl⟩ | cases h
theorem str_of {x : PyData} (h : isStr x = true) : ∃ xs, x = .str xs := by
  cases x <;> first | exact ⟨_, rfl⟩ | cases h
theorem dTA_tup (xs : List PyData) : (dT dA) (.tuple xs) = xs := by show xs.map dA = xs; exact List.map_id' xs
theorem dTA_enc {α : Type} (f : α → PyData) (xs : List α) : dT dA (eT f xs) = xs.map f := by
  show (xs.map f).map dA = _
  simp [dA, Function.comp_def]
theorem dTS_enc (t : List Str) : dT dS (eT PyData.str t) = t := by
  show (t.map _).map dS = _
  simp [dS, Function.comp_def]
/-- no dict anywhere, however deep -/
inductive Nice : Nat → PyData → Prop
  | none {n} : Nice n .none
  | bool {n b} : Nice n (.bool b)
  | int {n i} : Nice n (.int i)
  | str {n s} : Nice n (.str s)
  | list {n xs} : (∀ x ∈ xs, Nice n x) → Nice (n + 1) (.list xs)
  | tuple {n xs} : (∀ x ∈ xs, Nice n x) → Nice (n + 1) (.tuple xs)
theorem Nice.nd {n : Nat} {x : PyData} (h : Nice n x) : noDc x = true := by cases h <;> rfl
theorem Nice.of_tup {n : Nat} {xs : List PyData} (h : Nice (n + 1) (.tuple xs)) : ∀ x ∈ xs, Nice n x := by cases h; assumption
theorem Nice.of_tup0 {n : Nat} {xs : List PyData} (h : Nice n (.tuple xs)) : ∀ x ∈ xs, ∃ m, Nice m x := by
  cases h with
  | tuple h => exact fun x hx => ⟨_, h x hx⟩
theorem Nice.of_lst0 {n : Nat} {xs : List PyData} (h : Nice n (.list xs)) : ∀ x ∈ xs, ∃ m, Nice m x := by
  cases h with
  | list h => exact fun x hx => ⟨_, h x hx⟩
/-- the same, to be counted out -/
def niceB : Nat → PyData → Bool
  | 0, .list _ => false
  | 0, .tuple _ => false
  | n + 1, .list xs => xs.all (niceB n)
  | n + 1, .tuple xs => xs.all (niceB n)
  | _, .dict _ => false
  | _, _ => true
theorem nice_of : ∀ (n : Nat) (x : PyData), niceB n x = true → Nice n x
  | 0, .none, _ => .none
  | 0, .bool _, _ => .bool
  | 0, .int _, _ => .int
  | 0, .str _, _ => .str
  | 0, .list _, h => by simp [niceB] at h
  | 0, .tuple _, h => by simp [niceB] at h
  | 0, .dict _, h => by simp [niceB] at h
  | n + 1, .none, _ => .none
  | n + 1, .bool _, _ => .bool
  | n + 1, .int _, _ => .int
  | n + 1, .str _, _ => .str
  | n + 1, .list xs, h => .list fun x hx => nice_of n x (by simp only [niceB, List.all_eq_true] at h; exact h x hx)
  | n + 1, .tuple xs, h => .tuple fun x hx => nice_of n x (by simp only [niceB, List.all_eq_true] at h; exact h x hx)
  | n + 1, .dict _, h => by simp [niceB] at h
theorem nice_all {n : Nat} {xs : List PyData} (h : xs.all (niceB n) = true) : ∀ x ∈ xs, Nice n x := fun x hx => nice_of n x (by rw [List.all_eq_true] at h; exact h x hx)
theorem pick {α : Type} [Inhabited α] {xs : List α} {P : α → Prop} (h : ∀ x ∈ xs, P x) (d : Dr) (n : Nat) (hn : xs.length = n) (h0 : 0 < n) : P (gI xs (nxt d (n : Int)).1) := by
  have a1 := nxt_lo (d := d) (many := (n : Int)) (by omega)
  have a2 := nxt_hi (d := d) (many := (n : Int)) (by omega)
  exact h _ (gI_mem ⟨by omega, by omega⟩)
theorem pick_in {n : Nat} (d : Dr) (h0 : 0 < n) : inR n (nxt d (n : Int)).1 := by
  have a1 := nxt_lo (d := d) (many := (n : Int)) (by omega)
  have a2 := nxt_hi (d := d) (many := (n : Int)) (by omega)
  exact ⟨by omega, by omega⟩
end J
namespace J
open PySem L2 PySem.Spec PyProof.Rows
/-! ### comprehensions over a list that the def owns -/
section
variable {T : TC} {a b e : Expr} {es : List Expr} {env e0 e1 e2 e3 : Env'} {pos p : Pos} {x y z : PyData} {ds : List PyData} {K : PySem.W.Frag} {R C C' H H' : Hp} {σ σ' : L2.St} {v : V}
/-- J yields the items while the comprehension's environments stand -/
def tIJE (K : PySem.W.Frag) (e0 : Env') (ev : Nat → Env') (items : List PyData) : TI := fun σ H Rr' => ∃ R C, EnvC K R C e0 σ H ∧ ∀ J C1 H1, Ex C C1 → EnvC K R C1 (ev 0) σ H1 → items.length ≤ LN →
  (∀ n C' H', Ex C1 C' → EnvC K R C' (ev n) σ H' → J.stop items.length H' ∧ ∀ i d, items[i]? = some d → J.go i H' ∧ ∀ x H3, J.yld i H' x H3 → ∃ C2, Ex C' C2 ∧ EnvC K R C2 (ev n) σ H3 ∧ (∀ D, H3 D = none → H' D = none) ∧ (∀ D o, H' D = some o → H3 D = some o) ∧ (∀ D o, H' D = some o → C' D = none → C2 D = none) ∧ Rp K C2 x d) → Rr' J H1
def JIE (T : TC) (tg iter : Expr) (e0 : Env') (ev : Nat → Env') (items : List PyData) : Prop := ∀ X, CT X T → PI X tg iter (tIJE X.K e0 ev items)
variable {tg : Expr}
theorem jie_var (i : Nat) {nm : Str} {xs : List PyData} {k0 : Option Addr} (he : e0[i]? = some (.o k0 (.list xs)) := by rfl) (hN : T.N[i]? = some nm := by rfl) (hv : visB T.sc nm = true := by rfl) (hd : (nm == ("__debug__" : Str)) = false := by decide) (hcd : (nm == ("__classdict__" : Str)) = false := by decide) : JIE T tg (.Name nm p) e0 (fun _ => e0) xs := fun X hX => by
  refine (pi_list (pe_var (i := i) (by rw [hX.N]; exact hN) (by rw [hX.sc]; exact vis_of hv) hd hcd)).wk fun σ H Rr' ⟨R, C, E, k⟩ => ?_
  obtain ⟨q, s0, h0, h2, h3, vs, h4, l, r⟩ := E.own i k0 _ he
  refine ⟨.ref q, s0, q, rfl, ⟨vs, SqL.of h4⟩, k _ C H (Ex.refl C) E (by rw [← r.len]; exact l) fun n C' H' c E' => ?_⟩
  obtain ⟨q', s1, _, g2, g3, ws, g4, l', r'⟩ := E'.own i k0 _ he
  rw [s0] at s1; cases s1
  refine ⟨⟨ws, SqL.of g4, by rw [r'.len]; exact Nat.le_refl _⟩, fun j d hd => ?_⟩
  obtain ⟨w, hw, rw⟩ := r'.getD hd
  refine ⟨⟨_, w, SqL.of g4, hw⟩, fun x H3 hy => ?_⟩
  obtain ⟨rfl, hx⟩ := hy
  have := hx _ (SqL.of g4)
  rw [hw] at this; cases this
  exact ⟨C', Ex.refl C', E', fun _ h => h, fun _ _ h => h, fun _ _ _ h => h, rw⟩
end
section
variable {T : TC} {a b e : Expr} {es : List Expr} {env e0 e1 e2 e3 : Env'} {pos p : Pos} {x y z : PyData} {ds : List PyData} {K : PySem.W.Frag} {R C C' H H' : Hp} {σ σ' : L2.St} {v : V}
/-- the reading of a comprehension -/
theorem lc_runE {X : Cx} (hX : CT X T) {tg elt : Expr} {ifs : List Expr} {scope : Scope} {own : List (Str × Nat)} {xs : List PyData} (ev : Nat → Env') (outs : Nat → List PyData) (o0 : outs 0 = [])
    (hu : ∀ i, i ≤ xs.length → unk (ev i) (own.map (·.2))) (turn : ∀ i d, xs[i]? = some d → LcTurn T scope tg elt ifs (own.map (·.2)) d (ev i) (ev (i + 1)) (outs i) (outs (i + 1))) :
    ∀ (σ : L2.St) (H : Hp) (Q : VK), tJ X.K e0 (ev xs.length) (.o (.list (outs xs.length))) σ H Q → tLc (tIJE X.K e0 ev xs) (tTgJ (T.blk scope) X.K tg) (tIfsJ (T.blk scope) X.K ifs) (tEltJ (T.blk scope) X.K elt) (own.map (·.2)) σ H Q := by
  rintro σ H Q ⟨R, C, E, k⟩
  refine ⟨R, C, E, fun J C1 H1 c1 E1 hln io D hD => ?_⟩
  have olen : ∀ i, i ≤ xs.length → (outs i).length ≤ i := by
    intro i
    induction i with
    | zero => intro _; rw [o0]; exact Nat.le_refl _
    | succ i ih =>
      intro hi
      have hi' : i < xs.length := hi
      obtain ⟨js, F1, F2, c, _, _, _, ht, hf⟩ := (turn i _ (List.getElem?_eq_getElem hi')).ex
      cases c with
      | true =>
        obtain ⟨_, z, _, _, e⟩ := ht rfl
        rw [e, List.length_append]
        have := ih (Nat.le_of_lt hi')
        simp; omega
      | false =>
        rw [(hf rfl).2]
        have := ih (Nat.le_of_lt hi')
        omega
  refine ⟨fun i m H' => i + m = xs.length ∧ ∃ C' acc, Ex C1 C' ∧ EnvC X.K R C' (ev i) σ H' ∧ H' D = some (.lst acc) ∧ C' D = none ∧ R D = none ∧ NotOwn (ev i) σ D ∧ Rps X.K C' acc (outs i), ⟨xs.length, by omega, C1, [], Ex.refl _, E1.newO hD, upd_same, E1.cN hD, E1.rN hD, E1.notOwn hD, by rw [o0]; exact .nil⟩, ?_⟩
  rintro i m H' ⟨him, C', acc, cc, E', hHD, cD, rD, nD, rp⟩
  obtain ⟨st, go⟩ := io i C' H' cc E'
  by_cases hi : i < xs.length
  · right
    obtain ⟨g1, g2⟩ := go i xs[i] (List.getElem?_eq_getElem hi)
    refine ⟨g1, fun H2 => ∃ C2 acc2, Ex C1 C2 ∧ EnvC X.K R C2 (ev (i + 1)) σ H2 ∧ H2 D = some (.lst acc2) ∧ C2 D = none ∧ R D = none ∧ NotOwn (ev (i + 1)) σ D ∧ Rps X.K C2 acc2 (outs (i + 1)), fun H2 ⟨C2, acc2, h⟩ => ⟨m - 1, by omega, by omega, C2, acc2, h⟩, fun w H2 hy => ?_⟩
    obtain ⟨C2, c2, E2, n1, n2, n3, rw⟩ := g2 w H2 hy
    have hH2D := n2 D _ hHD
    have cD2 : C2 D = none := n3 D _ hHD cD
    obtain ⟨js, F1, F2, c, hjs, jg, jt, ht, hf⟩ := (turn i xs[i] (List.getElem?_eq_getElem hi)).ex
    -- with the new list as a part of what stands
    have lift : ∀ {R0 C0 : Hp} {en : Env'} {s0 : L2.St} {H0 : Hp} {o : HO}, EnvC X.K R0 C0 en s0 H0 → H0 D = some o → C0 D = none → NotOwn en s0 D → EnvC X.K (upd R0 D o) C0 en s0 H0 := fun {R0 C0 en s0 H0 o} E0 h1 h2 h3 => by
      refine ⟨E0.len, E0.cH, fun q u e => ?_, fun q e => ?_, E0.dat, fun j w x e => ?_, E0.apart⟩
      · by_cases h : q = D
        · subst h; rw [upd_same] at e; cases e; exact h1
        · rw [upd_ne h] at e; exact E0.rH _ _ e
      · by_cases h : q = D
        · subst h; exact h2
        · rw [upd_ne h] at e; exact E0.rc _ e
      · obtain ⟨q, k1, k0, k2, k3, k4⟩ := E0.own j w x e
        have hq : q ≠ D := fun h => by subst h; exact h3 j w x e k1
        exact ⟨q, k1, k0, k2, by rw [upd_ne hq]; exact k3, k4⟩
    have unlift : ∀ {C0 : Hp} {en : Env'} {s0 : L2.St} {H0 : Hp} {o : HO}, EnvC X.K (upd R D o) C0 en s0 H0 → EnvC X.K R C0 en s0 H0 ∧ H0 D = some o ∧ C0 D = none ∧ NotOwn en s0 D := fun {C0 en s0 H0 o} E0 => by
      refine ⟨⟨E0.len, E0.cH, fun q u e => ?_, fun q e => ?_, E0.dat, fun j w x e => ?_, E0.apart⟩, E0.rH D o upd_same, E0.rc D (by rw [upd_same]; simp), fun j w x e s1 => ?_⟩
      · by_cases h : q = D
        · subst h; rw [rD] at e; cases e
        · exact E0.rH q u (by rw [upd_ne h]; exact e)
      · by_cases h : q = D
        · subst h; exact absurd rD e
        · exact E0.rc q (by rw [upd_ne h]; exact e)
      · obtain ⟨q, k1, k0, k2, k3, k4⟩ := E0.own j w x e
        have hq : q ≠ D := fun h => by subst h; rw [upd_same] at k3; cases k3
        exact ⟨q, k1, k0, k2, by rw [upd_ne hq] at k3; exact k3, k4⟩
      · obtain ⟨q, k1, k0, k2, k3, k4⟩ := E0.own j w x e
        rw [k1] at s1; cases s1
        rw [upd_same] at k3; cases k3
    have E2' := lift (E2.wipe (hu i (Nat.le_of_lt hi))) hH2D cD2 (fun j w x e s1 => nD j w x e (by
      rw [wipe_get] at s1
      split at s1
      · cases q : σ[j]? <;> rw [q] at s1 <;> cases s1
      · exact s1))
    refine ⟨js, xs[i], ev i, F1, jg, _, C2, E2', rw, fun σ3 s3 l3 E3 => ⟨?_, F1, F2, c, jt, _, C2, E3, fun C4 H4 c4 E4 => ?_⟩⟩
    · have := wipe_eq (σ := L2.wipe σ (own.map (·.2))) (σ' := σ3) (vs := own.map (·.2)) l3 fun j hj => s3 j fun h => hj (hjs h)
      rw [this]
      apply List.ext_getElem?
      intro q
      rw [wipe_get, wipe_get]
      split
      · cases σ[q]? <;> rfl
      · rfl
    have fin : ∀ {C5 H5 : Hp} {en : Env'}, Le (ev (i + 1)) en → EnvC X.K (upd R D (.lst acc)) C5 en σ3 H5 → EnvC X.K R C5 (ev (i + 1)) σ H5 ∧ H5 D = some (.lst acc) ∧ C5 D = none ∧ NotOwn (ev (i + 1)) σ D := fun {C5 H5 en} le E5 => by
      have hU := hu (i + 1) hi
      have E5' := (E5.le le).resig (σ' := σ) (by rw [l3, wipe_length]) fun j x e hx => by
        have hj : j ∉ own.map (·.2) := fun h => hx (hU j h x e)
        rw [s3 j (fun h => hj (hjs h)), wipe_get, if_neg hj]
      exact unlift E5'
    cases c with
    | true =>
      dsimp only
      rw [if_pos rfl]
      obtain ⟨F3, z, je, le, eo⟩ := ht rfl
      refine ⟨F2, F3, .d z, je, _, C4, E4, fun y C5 H5 c5 E5 r5 => ?_⟩
      obtain ⟨E6, h6, cD6, no6⟩ := fin le E5
      refine ⟨acc, h6, lnS' (by rw [rp.len]; have := olen i (Nat.le_of_lt hi); have : LN = 16777216 := rfl; have hln' : xs.length ≤ LN := hln; omega), C5, acc ++ [y], (cc.trans c2).trans (c4.trans c5), ?_, upd_same, cD6, rD, no6, by rw [eo]; exact (rp.mono ((c2.trans c4).trans c5)).snoc r5⟩
      -- the list grown: nobody else looks at it
      refine ⟨E6.len, fun q u e => by rw [upd_ne (ne_of_none e cD6)]; exact E6.cH _ _ e, fun q u e => by rw [upd_ne (ne_of_none e rD)]; exact E6.rH _ _ e, E6.rc, E6.dat, fun j w x e => ?_, E6.apart⟩
      obtain ⟨q, k1, k0, k2, k3, k4⟩ := E6.own j w x e
      have hq : q ≠ D := fun h => by subst h; exact no6 j w x e k1
      exact ⟨q, k1, k0, k2, k3, by rw [upd_ne hq]; exact k4⟩
    | false =>
      dsimp only
      rw [if_neg Bool.false_ne_true]
      obtain ⟨le, eo⟩ := hf rfl
      obtain ⟨E6, h6, cD6, no6⟩ := fin le E4
      exact ⟨C4, acc, (cc.trans c2).trans c4, E6, h6, cD6, rD, no6, by rw [eo]; exact rp.mono (c2.trans c4)⟩
  · left
    have ei : i = xs.length := by omega
    subst ei
    exact ⟨st, k (.ref D) C' H' (c1.trans cc) E' ⟨D, rfl, cD, rD, nD, acc, hHD, by rw [rp.len]; exact Nat.le_trans (olen _ (Nat.le_refl _)) hln, rp⟩⟩
theorem je_lcGE {tg iter elt : Expr} {ifs : List Expr} {scope : Scope} {xs : List PyData} (own : List (Str × Nat)) (ev : Nat → Env') (outs : Nat → List PyData) (hi : JIE T tg iter e0 ev xs) (hnd : T.N.Nodup) (ok : blkC T.N T.sc scope own = true) (o0 : outs 0 = [])
    (hu : ∀ i, i ≤ xs.length → unk (ev i) (own.map (·.2))) (turn : ∀ i d, xs[i]? = some d → LcTurn T scope tg elt ifs (own.map (·.2)) d (ev i) (ev (i + 1)) (outs i) (outs (i + 1))) (hs : ∀ (v : Env) x, foldedSetIterable iter v x = pure x := by intro _ _; rfl) :
    JE T (.ListComp elt [⟨tg, iter, ifs, 0⟩] scope pos) e0 (ev xs.length) (.o (.list (outs xs.length))) := fun X hX =>
  (pe_lc (own := own) (wi := tIJE X.K e0 ev xs) (g := tTgJ (T.blk scope) X.K tg) (tt := tIfsJ (T.blk scope) X.K ifs) (te := tEltJ (T.blk scope) X.K elt) hX.calm (by rw [hX.N]; exact hnd) (hi X hX) (by rw [hX.N, hX.sc]; exact blkOk_by ok)
    (fun s H C cl fp => ⟨fun pins s1 σ H1 v u Q I r ⟨js, d, F1, F2, jg, q⟩ => (jg _ (hX.blk scope s H C cl fp)).run pins s1 σ H1 v u Q I r q⟩)
    (fun s H C cl fp => ⟨fun pins s1 σ H1 Q I ⟨F1, F2, c, jt, q⟩ => (jt _ (hX.blk scope s H C cl fp)).run pins s1 σ H1 Q I q⟩)
    (fun s H C cl fp => ⟨fun pins s1 σ H1 Q I ⟨F1, F2, r, je, q⟩ => (je _ (hX.blk scope s H C cl fp)).run pins s1 σ H1 Q I q⟩) (hs X.env)).wk (lc_runE hX ev outs o0 hu turn)


variable {α β : Type} {tg iter elt : Expr} {ifs : List Expr} {scope : Scope} {enc : α → PyData} {dec : β → PyData} {xs : List α}
theorem je_lcB (own : List (Str × Nat)) (p : α → Bool) (g : α → PyData) (hi : JIE T tg iter e0 (fun _ => e0) (xs.map enc)) (hnd : T.N.Nodup) (ok : blkC T.N T.sc scope own = true) (hu : unk e0 (own.map (·.2)))
    (turn : ∀ x, x ∈ xs → LcP T scope tg elt ifs own e0 (enc x) (p x) (g x)) (hs : ∀ (v : Env) x, foldedSetIterable iter v x = pure x := by intro _ _; rfl) : JE T (.ListComp elt [⟨tg, iter, ifs, 0⟩] scope pos) e0 e0 (.o (.list ((xs.filter p).map g))) := by
  have := je_lcGE (pos := pos) (elt := elt) (ifs := ifs) (scope := scope) own (fun _ => e0) (fun i => ((xs.take i).filter p).map g) hi hnd ok (by simp) (fun _ _ => hu) (lcp_turn turn) hs
  simpa using this
theorem je_lcB0 (own : List (Str × Nat)) (g : α → β) (hi : JIE T tg iter e0 (fun _ => e0) (xs.map enc)) (hnd : T.N.Nodup) (ok : blkC T.N T.sc scope own = true) (hu : unk e0 (own.map (·.2)))
    (turn : ∀ x, x ∈ xs → LcP T scope tg elt [] own e0 (enc x) true (dec (g x))) (hs : ∀ (v : Env) x, foldedSetIterable iter v x = pure x := by intro _ _; rfl) : JE T (.ListComp elt [⟨tg, iter, [], 0⟩] scope pos) e0 e0 (.o (.list ((xs.map g).map dec))) := by
  have := je_lcB (pos := pos) own (fun _ => true) (fun x => dec (g x)) hi hnd ok hu turn hs
  rw [show xs.filter (fun _ => true) = xs from List.filter_eq_self.mpr (fun _ _ => rfl)] at this
  rw [List.map_map]; exact this
theorem je_lcB1 (own : List (Str × Nat)) (p : α → Bool) (g : α → β) (hi : JIE T tg iter e0 (fun _ => e0) (xs.map enc)) (hnd : T.N.Nodup) (ok : blkC T.N T.sc scope own = true) (hu : unk e0 (own.map (·.2)))
    (turn : ∀ x, x ∈ xs → LcP T scope tg elt ifs own e0 (enc x) (p x) (dec (g x))) (hs : ∀ (v : Env) x, foldedSetIterable iter v x = pure x := by intro _ _; rfl) : JE T (.ListComp elt [⟨tg, iter, ifs, 0⟩] scope pos) e0 e0 (.o (.list (((xs.filter p).map g).map dec))) := by
  have := je_lcB (pos := pos) own p (fun x => dec (g x)) hi hnd ok hu turn hs
  rw [List.map_map]; exact this
end
/-! ### sum of a tuple of whole numbers -/
section
variable {prog : Program} {w : World} {A : Around} {E : Value → Shared → Prop} {s : Shared}
theorem sum_rawT {l : Addr} {its : List Value} {ns : List Int} {Q : Value → Shared → Prop} (hh : A.handled = none) (hl : s.heap.IsTuple l its.toArray) (hi : IntsAre its ns)
    (h : ∀ h' tk t', (∀ b o, s.heap.get? b = some o → h'.get? b = some o) → Q (.int ns.sum t') { s with heap := h', toks := tk }) : wpAny (model prog w) A (call (.builtin "sum") [.ref l]) Q E s := by
  obtain ⟨xs, e⟩ := hi.allInts.items
  have hn : numsOf (intItems xs).toList = ns := by rw [← e]; exact hi.numsOf
  rw [nums_intItems] at hn
  rw [e] at hl
  refine PySem.W.ktm_sumG hh hl fun h' tk t' hk => ?_
  have := h h' tk t' hk
  rw [preSum_eq, List.take_of_length_le (by simp), hn]; exact this
end
section
variable {X : Cx}
def rSumT (K : PySem.W.Frag) : List V → Hp → VK → Prop := fun vs H Q => ∃ (a : Addr) (ns : List Int), vs = [V.ref a] ∧ SqT K H a (ns.map V.int) ∧ Q (.int ns.sum) H
theorem cr_sumT (hc : X.calm = true) : CallR X (.builtin "sum") (rSumT X.K) := by
  intro pins s σ H vs us Q I r h
  obtain ⟨a, ns, rfl, hs, q⟩ := h
  obtain ⟨its, rv, hl, _⟩ := I.tuple hs
  rw [Vals.ref1 r]
  exact sum_rawT (I.ok.hd hc) hl rv.ints fun h' tk t' hk => ⟨.int _, H, I.kept hk, ⟨_, rfl⟩, q⟩
end
section
variable {T : TC} {a b e : Expr} {es : List Expr} {env e0 e1 e2 e3 : Env'} {pos p : Pos}
theorem je_sumT {ns : List Int} (hg : glB T.sc "sum" = true) (hm : T.mg "sum" = none) (ha : JE T e e0 e1 (.b (.tuple (ns.map .int)))) (hp : Plain e [] pos := by exact ⟨fun _ => rfl, fun _ => rfl⟩) : JE T (.Call (.Name "sum" p) [e] [] pos) e0 e1 (.d (.int ns.sum)) :=
  je_bi1 (r := rSumT) (fun X hX => cr_sumT hX.calm) hg hm (by decide +kernel) ha (fun R C H env σ v Q E hv k => by
    obtain ⟨p, vs, rfl, h1, c1, l1, r1⟩ := rb_tup E hv
    have e := r1.int
    subst e
    exact ⟨p, ns, rfl, h1, k _ C H (Ex.refl C) E (.int _)⟩) hp
end
/-! ### things as things or None -/
section
variable {T : TC} {e : Expr} {e0 e1 : Env'} {α : Type} {enc : α → PyData} {xs : List α}
theorem some_map (enc : α → PyData) (xs : List α) : (xs.map some).map (eO enc) = xs.map enc := by rw [List.map_map]; rfl
theorem je_soLo (h : JE T e e0 e1 (.o (.list (xs.map enc)))) : JE T e e0 e1 (.o (.list ((xs.map some).map (eO enc)))) := by rw [some_map]; exact h
theorem je_soLd (h : JE T e e0 e1 (.d (.list (xs.map enc)))) : JE T e e0 e1 (.d (.list ((xs.map some).map (eO enc)))) := by rw [some_map]; exact h
theorem je_soLb (h : JE T e e0 e1 (.b (.list (xs.map enc)))) : JE T e e0 e1 (.b (.list ((xs.map some).map (eO enc)))) := by rw [some_map]; exact h
theorem je_soTd (h : JE T e e0 e1 (.d (.tuple (xs.map enc)))) : JE T e e0 e1 (.d (.tuple ((xs.map some).map (eO enc)))) := by rw [some_map]; exact h
theorem je_soTb (h : JE T e e0 e1 (.b (.tuple (xs.map enc)))) : JE T e e0 e1 (.b (.tuple ((xs.map some).map (eO enc)))) := by rw [some_map]; exact h
end
/-! ### x in t, t a tuple of data of any kind -/
section
variable {X : Cx}
def rInTD (K : PySem.W.Frag) : R2 := fun x y H Q => ∃ d ds, Dp K H x d ∧ Dp K H y (.tuple ds) ∧ SeqAt.shaped d = true ∧ SeqAt.shaped (.list ds) = true ∧ Q (.bl (ds.any fun z => PyData.eqv z d)) H
def rNotInTD (K : PySem.W.Frag) : R2 := fun x y H Q => ∃ d ds, Dp K H x d ∧ Dp K H y (.tuple ds) ∧ SeqAt.shaped d = true ∧ SeqAt.shaped (.list ds) = true ∧ Q (.bl (!ds.any fun z => PyData.eqv z d)) H
theorem op_inTD (hu : X.A.units + 65 < cLine) : OpR X (compareOp .In) (rInTD X.K) := by
  intro pins s σ H x y v u Q I rx ry h
  obtain ⟨d, ds, hd, he, sd, se, q⟩ := h
  obtain ⟨as, r1⟩ := Dp.reads I d x v hd rx
  obtain ⟨bs, r2⟩ := Dp.reads I (.tuple ds) y u he ry
  exact SeqAt.in_tuple_reads r2 r1 (SeqAt.canLay_of_shaped se) (SeqAt.canLay_of_shaped sd) (room_in_shaped sd hu) ⟨.bl _, H, I, rfl, q⟩
theorem op_notInTD (hu : X.A.units + 65 < cLine) : OpR X (compareOp .NotIn) (rNotInTD X.K) := by
  intro pins s σ H x y v u Q I rx ry h
  obtain ⟨d, ds, hd, he, sd, se, q⟩ := h
  obtain ⟨as, r1⟩ := Dp.reads I d x v hd rx
  obtain ⟨bs, r2⟩ := Dp.reads I (.tuple ds) y u he ry
  exact SeqAt.notIn_tuple_reads r2 r1 (SeqAt.canLay_of_shaped se) (SeqAt.canLay_of_shaped sd) (room_in_shaped sd hu) ⟨.bl _, H, I, rfl, q⟩
end
section
variable {T : TC} {a b : Expr} {e0 e1 e2 : Env'} {α : Type} {enc : α → PyData}
theorem shaped_tl {K : PySem.W.Frag} {C : Hp} {v : V} {ys : List PyData} (r : Rp K C v (.tuple ys)) (sy : shN 64 (.list ys) = true) : SeqAt.shaped (.list ys) = true := by
  have s1 : shN 64 (.tuple ys) = true := by simpa [shN] using sy
  have := r.shaped s1
  simpa [SeqAt.shaped, PyData.canLay0, PyData.depth] using this
theorem cj_inTBd [DecidableEq α] {x : α} {ys : List α} (h : JE2 T a b e0 e2 (enc x) (.tuple (ys.map enc))) (sh : ShE 63 enc) (sh' : ShE 64 enc) (eq : EqE enc) (hm : behindInMarks .In b = false := by rfl) : CJ T .In a b e0 e2 (inB x ys) := by
  have sy := sh_l sh ys
  have sx := sh' x
  have : CJ T .In a b e0 e2 ((ys.map enc).any fun z => PyData.eqv z (enc x)) := cj_mk (r := rInTD) (fun X hX => op_inTD (by have := hX.room.un; omega)) h (fun R C H env σ u v Q E hu hv k =>
    ⟨enc x, ys.map enc, (rb_rp E hu).dp' sx, (rb_rp E hv).dp' (by simpa [shN] using sy), (rb_rp E hu).shaped sx, shaped_tl (rb_rp E hv) sy, k _ C H (Ex.refl C) E (.bl _)⟩) hm
  rw [any_eqE eq] at this; exact this
theorem cj_notInTBd [DecidableEq α] {x : α} {ys : List α} (h : JE2 T a b e0 e2 (enc x) (.tuple (ys.map enc))) (sh : ShE 63 enc) (sh' : ShE 64 enc) (eq : EqE enc) (hm : behindInMarks .NotIn b = false := by rfl) : CJ T .NotIn a b e0 e2 (!inB x ys) := by
  have sy := sh_l sh ys
  have sx := sh' x
  have : CJ T .NotIn a b e0 e2 (!(ys.map enc).any fun z => PyData.eqv z (enc x)) := cj_mk (r := rNotInTD) (fun X hX => op_notInTD (by have := hX.room.un; omega)) h (fun R C H env σ u v Q E hu hv k =>
    ⟨enc x, ys.map enc, (rb_rp E hu).dp' sx, (rb_rp E hv).dp' (by simpa [shN] using sy), (rb_rp E hu).shaped sx, shaped_tl (rb_rp E hv) sy, k _ C H (Ex.refl C) E (.bl _)⟩) hm
  rw [any_eqE eq] at this; exact this
end
/-! ### sorted lists are one alone -/
theorem pySort_eq {α : Type} {f : α → PyData} (t : Tri f) {xs ys : List α} (h : xs.Perm ys) (s : ys.Pairwise fun a b => ltB f b a = false) : pySort f xs = ys :=
  List.Perm.eq_of_pairwise (le := fun a b => ltB f b a = false) (fun a b _ _ h1 h2 => t a b h2 h1) (pySort_sorted f xs) s ((pySort_perm f xs).trans h)
theorem flat_congr {α β : Type} {f g : α → List β} : ∀ {xs : List α}, (∀ x ∈ xs, f x = g x) → xs.flatMap f = xs.flatMap g
  | [], _ => rfl
  | x :: xs, h => by rw [List.flatMap_cons, List.flatMap_cons, h x (by simp), flat_congr fun y hy => h y (by simp [hy])]
/-! ### things as things of any kind -/
section
variable {T : TC} {e : Expr} {e0 e1 : Env'} {α : Type} {enc : α → PyData} {xs : List α}
theorem any_map (ds : List PyData) : ds.map eD = ds := List.map_id' ds
theorem je_anyLo (h : JE T e e0 e1 (.o (.list (xs.map enc)))) : JE T e e0 e1 (.o (.list ((xs.map enc).map eD))) := by rw [any_map]; exact h
theorem je_anyLd (h : JE T e e0 e1 (.d (.list (xs.map enc)))) : JE T e e0 e1 (.d (.list ((xs.map enc).map eD))) := by rw [any_map]; exact h
theorem je_anyLb (h : JE T e e0 e1 (.b (.list (xs.map enc)))) : JE T e e0 e1 (.b (.list ((xs.map enc).map eD))) := by rw [any_map]; exact h
theorem je_anyTd (h : JE T e e0 e1 (.d (.tuple (xs.map enc)))) : JE T e e0 e1 (.d (.tuple ((xs.map enc).map eD))) := by rw [any_map]; exact h
theorem je_anyTb (h : JE T e e0 e1 (.b (.tuple (xs.map enc)))) : JE T e e0 e1 (.b (.tuple ((xs.map enc).map eD))) := by rw [any_map]; exact h
end
end J
namespace J
open PySem L2 PySem.Spec PyProof.Rows PySem.W
section
variable {T : TC} {a b c e : Expr} {es : List Expr} {env e0 e1 e2 e3 : Env'} {pos p p1 p2 p3 : Pos} {x y z : PyData}
/-! ### tests whose later operands draw -/
theorem jw_orD {c c' : Bool} {rest : List Expr} (h : JT T a e0 e1 c) (h' : c = false → JW T (.BoolOp .Or (b :: rest) pos) e1 e2 c') (ht : c = true → Le e3 e1) (hf : c = false → Le e3 e2) : JW T (.BoolOp .Or (a :: b :: rest) pos) e0 e3 (c || c') := fun X hX => by
  cases c with
  | false => exact (pw_or (h X hX) (h' rfl X hX)).wk fun σ H Q ⟨R, C, E, k⟩ => ⟨R, C, E, fun C' H' c1 E' => by
      show tTJ X.K e1 e2 c' σ H' Q
      exact ⟨R, C', E', fun C2 H2 c2 E2 => k C2 H2 (c1.trans c2) (E2.le (hf rfl))⟩⟩
  | true => exact (pw_or (h X hX) pw_dead).wk fun σ H Q ⟨R, C, E, k⟩ => ⟨R, C, E, fun C' H' c1 E' => k C' H' c1 (E'.le (ht rfl))⟩
theorem jw_andD {c c' : Bool} {rest : List Expr} (h : JT T a e0 e1 c) (h' : c = true → JW T (.BoolOp .And (b :: rest) pos) e1 e2 c') (ht : c = false → Le e3 e1) (hf : c = true → Le e3 e2) : JW T (.BoolOp .And (a :: b :: rest) pos) e0 e3 (c && c') := fun X hX => by
  cases c with
  | true => exact (pw_and (h X hX) (h' rfl X hX)).wk fun σ H Q ⟨R, C, E, k⟩ => ⟨R, C, E, fun C' H' c1 E' => by
      show tTJ X.K e1 e2 c' σ H' Q
      exact ⟨R, C', E', fun C2 H2 c2 E2 => k C2 H2 (c1.trans c2) (E2.le (hf rfl))⟩⟩
  | false => exact (pw_and (h X hX) pw_dead).wk fun σ H Q ⟨R, C, E, k⟩ => ⟨R, C, E, fun C' H' c1 E' => k C' H' c1 (E'.le (ht rfl))⟩
end
section
variable {T : TC} {a b c e : Expr} {es : List Expr} {env e0 e1 e2 e3 : Env'} {pos p p1 p2 p3 : Pos} {x y z : PyData}
theorem je_andD {c c' : Bool} {rest : List Expr} (h : JE T a e0 e1 (.d (.bool c))) (h' : c = true → JE T (.BoolOp .And (b :: rest) pos) e1 e2 (.d (.bool c'))) (ht : c = false → Le e3 e1) (hf : c = true → Le e3 e2) : JE T (.BoolOp .And (a :: b :: rest) pos) e0 e3 (.d (.bool (c && c'))) := fun X hX => by
  cases c with
  | true =>
    refine (pe_and (h X hX) (h' rfl X hX)).wk fun σ H Q ⟨R, C, E, k⟩ => ⟨R, C, E, fun v C1 H1 c1 E1 r1 => ?_⟩
    cases r1
    refine ⟨true, rfl, ?_⟩
    simp only [if_true]
    exact ⟨R, C1, E1, fun w C2 H2 c2 E2 r2 => k w C2 H2 (c1.trans c2) (E2.le (hf rfl)) r2⟩
  | false =>
    refine (pe_and (h X hX) pe_dead).wk fun σ H Q ⟨R, C, E, k⟩ => ⟨R, C, E, fun v C1 H1 c1 E1 r1 => ?_⟩
    cases r1
    refine ⟨false, rfl, ?_⟩
    simp only [Bool.false_eq_true, if_false]
    exact k _ C1 H1 c1 (E1.le (ht rfl)) (.bl false)
end
/-! ### text * n -/
def repS (x : Str) (n : Int) : Str := ⟨(List.replicate n.toNat x.cps).foldl (· ++ ·) #[]⟩
structure RepS (x : Str) (n : Int) : Prop where
  lo : 2 ≤ n
  hi : n ≤ 1000
  ne : (x.length == 0) = false
  sm : x.length ≤ 1000
  ln : (repS x n).length ≤ 1000000
  ok : sOk (repS x n)
section
variable {X : Cx}
def rRepS : R2 := fun x y H Q => ∃ s n, x = .str s ∧ y = .int n ∧ RepS s n ∧ Q (.str (repS s n)) H
theorem op_repS : OpR X (binaryOp .Mult) rRepS := by
  intro pins s σ H x y v u Q I rx ry h
  obtain ⟨z, n, rfl, rfl, k, q⟩ := h
  obtain ⟨t, rfl⟩ := rx
  obtain ⟨t', rfl⟩ := ry
  obtain ⟨h1, h2, h3, h4, h5, h6⟩ := k
  have c0 : (decide (n < -(2 ^ 63 : Int)) || decide (n ≥ 2 ^ 63)) = false := by
    rw [decide_eq_false (by omega), decide_eq_false (by omega)]; rfl
  have hm : ((z.length : Nat) : Int) * n ≤ 1000 * 1000 := Int.mul_le_mul (by omega) h2 (by omega) (by omega)
  refine P.mul_str c0 (fun _ _ hgt => ?_) (fun _ _ => ?_) ?_
  · have h7 : ((z.length : Nat) : Int) ≤ (2 ^ 63 - 1) / n := Int.le_ediv_of_mul_le (by omega) (by omega)
    omega
  · unfold Builtin.Str.tooLong
    rw [sizeLine_eq]
    refine decide_eq_false ?_
    have : z.length * n.toNat ≤ 1000 * 1000 := Nat.mul_le_mul h4 (by omega)
    omega
  · rw [if_neg (by omega)]
    have c1 : (n == 1 || z.length == 0) = false := by
      rw [h3, Bool.or_false]; exact beq_eq_false_iff_ne.mpr (by omega)
    rw [c1]
    simp only [Bool.false_eq_true, if_false]
    exact ⟨by show (repS z n).length ≤ _; rw [sizeLine_eq]; omega, ⟨.str (repS z n), H, I.tok _, ⟨_, rfl⟩, q⟩⟩
end
section
variable {T : TC} {a b c e : Expr} {es : List Expr} {env e0 e1 e2 e3 : Env'} {pos p p1 p2 p3 : Pos} {x y z : PyData}
theorem je_mulS {i : Str} {n : Int} (h : JE2 T a b e0 e2 (.str i) (.int n)) (hk : RepS i n) : JE T (.BinOp a .Mult b pos) e0 e2 (.d (.str (repS i n))) :=
  je_bin (r := fun _ => rRepS) (fun X _ => op_repS) h fun R C H env σ u v Q E hu hv k =>
    ⟨i, n, rb_str E hu, rb_int E hv, hk, k _ C H (Ex.refl C) E (.str hk.ok)⟩
end
end J
namespace J
open PySem L2 PySem.Spec PyProof.Rows
/-! ### t[lo:hi].count(None), a true part of a tuple -/
def tSlC (K : PySem.W.Frag) (te : TE) (tl th : TO) : TE := fun σ H Q => te σ H fun x H1 => tl σ H1 fun l H2 => th σ H2 fun u H3 =>
  ∃ (a : Addr) (vs : List V) (ds : List PyData), x = .ref a ∧ SqT K H3 a vs ∧ ¬ (HT.sIx vs.length 0 l = 0 ∧ HT.sIx vs.length vs.length u = vs.length) ∧
    DpAll K H3 (cutV vs l u) ds ∧ PyData.canLayAll0 ds = true ∧ Q (.int ((ds.countP fun y => PyData.eqv y .none : Nat) : Int)) H3
theorem pe_slC {X : Cx} {e : Expr} {te : TE} {lo hi : Option Expr} {tl th : TO} {pos p2 apos cpos : Pos} {j : Nat} {pn : Pos} (hun : X.A.units + 65 < cLine) (he : PE X e te) (hl : PO X lo tl) (hu : PO X hi th)
    (hbase : attributeBase (.Subscript e (.Slice lo hi none p2) pos) "count" X.env (eval (.Subscript e (.Slice lo hi none p2) pos) X.env) = eval (.Subscript e (.Slice lo hi none p2) pos) X.env)
    (hfew : ((backTo cpos (starEach [.Constant .none j pn] X.env)).all (fun x => !x.1) && (backToKw cpos (keywordEach [] X.env)).all (fun x => x.1.isSome)
      && decide (([.Constant .none j pn] : List Expr).length + ([] : List Keyword).length + (if ([] : List Keyword).isEmpty then 0 else 1) < 30)) = true)
    (hline : (apos.endLine == cpos.line) = true) (hs : starEach [.Constant .none j pn] X.env = [(false, eval (.Constant .none j pn) X.env)]) :
    PE X (.Call (.Attribute (.Subscript e (.Slice lo hi none p2) pos) "count" apos) [.Constant .none j pn] [] cpos) (tSlC X.K te tl th) := by
  refine ⟨fun pins s σ H Q I h => ?_⟩
  refine wpAny_Call_method_late hbase hfew hline rfl ?_
  refine Subscript_ (thn (he.run pins s σ H _ I h) fun v s1 ⟨x, H1, I1, r1, q1⟩ => ?_)
  refine wpAny_Slice (thn (hl.run pins s1 σ H1 _ I1 q1) fun vl s2 ⟨l, H2, I2, pl, q2⟩ => thn (hu.run pins s2 σ H2 _ I2 q2) fun vu s3 ⟨u, H3, I3, pu, q3⟩ => ?_)
  rw [evalPart_none]
  refine wpAny_pure ?_
  have I4 : Inv X pins σ H3 { s3 with heap := s3.heap.push { cls := .type "slice", data := .fields #[vl, vu, .none] } } := I3.kept (t' := s3.toks) fun b ob q => Heap.get?_push_of_some _ q
  obtain ⟨a, vs, ds, rfl, hx, hw, hd, hc, q⟩ := q3
  cases r1
  obtain ⟨its, r, ht, hz⟩ := I4.tuple hx
  have hlen : its.toArray.size = vs.length := by rw [List.size_toArray]; exact r.length.symm
  refine tail_any (ops := [.ref s3.heap.objs.size, .ref a]) ht.typeIs PyProof.Rows.slot_tuple_getitem.lookup ?_ (by with_unfolding_all rfl)
  refine HT.getItem_tuple_cut ht (Heap.IsSliceOf.new ..) pl pu (by rw [hlen]; exact hw) ?_ (by rw [hlen]; exact hz)
  rw [hlen]
  generalize eh : Heap.push (Heap.push s3.heap { cls := .type "slice", data := .fields #[vl, vu, .none] }) _ = h5
  have I5 : Inv X pins σ H3 { s3 with heap := h5 } := by
    rw [← eh]; exact I4.kept (t' := s3.toks) fun b ob q => Heap.get?_push_of_some _ q
  have hit : h5.get? (s3.heap.push { cls := .type "slice", data := .fields #[vl, vu, .none] }).objs.size = some { cls := .type "tuple", data := .seq ((List.take (HT.sIx vs.length vs.length u - HT.sIx vs.length 0 l) (List.drop (HT.sIx vs.length 0 l) its)).toArray) } := by
    rw [← eh]; exact Heap.get?_push_size _ rfl
  generalize (s3.heap.push { cls := .type "slice", data := .fields #[vl, vu, .none] }).objs.size = t at hit ⊢
  have rv : Vals (cutV vs l u) (List.take (HT.sIx vs.length vs.length u - HT.sIx vs.length 0 l) (List.drop (HT.sIx vs.length 0 l) its)) := (r.drop _).take _
  generalize (List.take (HT.sIx vs.length vs.length u - HT.sIx vs.length 0 l) (List.drop (HT.sIx vs.length 0 l) its)) = cut at hit rv
  obtain ⟨as, rs⟩ := Dp.readsAll I5 ds _ cut hd rv
  refine ⟨"tuple", "tuple.count", PySem.F.plainAttrs_tuple, PySem.F.slot_tuple_count, PySem.F.type_tuple_count, ⟨_, hit, rfl⟩, fun b eb => by cases eb; exact ⟨_, hit, rfl⟩, ?_⟩
  rw [hs]
  refine Calls.callWith_builtin rfl (Calls.evalArgs_plain ?_)
  refine Calls.spliced_cons (show wpAny _ _ (eval (.Constant .none j pn) X.env) _ _ _ from Constant_none (Calls.spliced_nil ?_))
  refine call_meets PySem.F.slot_tuple_count ⟨_, hit, rfl⟩ PySem.F.entry_tuple_count (PySem.F.args_tuple_count_2 _ _)
    (SeqAt.tuple_countAt t cut.toArray _ _ _ .none (fun y => PyData.eqv (SeqAt.readOf h5 y) .none)) ⟨hit, SeqAt.items_eqAt (as := as) (bs := []) (by simpa using rs) Reads.none hc rfl ?_, ?_⟩
  · exact room_in_shaped (d := .none) rfl hun
  · rw [← SeqAt.readsAll_map ds cut as hc rs, List.countP_map] at q
    exact ⟨.int _, H3, I5.tok _, ⟨_, rfl⟩, q⟩
section
variable {T : TC} {a : Expr} {e0 e1 e2 e3 : Env'} {pos : Pos} {α : Type} {enc : α → PyData}
theorem shc {p : PyData → Prop} {x : PyData} {xs : List PyData} (h : p x) (h' : ∀ y ∈ xs, p y) : ∀ y ∈ x :: xs, p y := fun y hy => by
  rcases List.mem_cons.mp hy with rfl | hy
  · exact h
  · exact h' y hy
theorem shn {p : PyData → Prop} : ∀ y ∈ ([] : List PyData), p y := fun y hy => by cases hy
def cntN (xs : List PyData) : Int := ((xs.countP fun y => PyData.eqv y .none : Nat) : Int)
/-- the part of a tuple is a true one -/
def cutTrue (n : Nat) (lo hi : Option Int) : Prop := ¬ (HT.sIx n 0 lo = 0 ∧ HT.sIx n n hi = n)
theorem je_slCount {xs : List PyData} {lo hi : Option Int} {l u : Option Expr} {p2 apos cpos pn : Pos} {j : Nat} (h : JE T a e0 e1 (.d (.tuple xs))) (hl : JO T l e1 e2 lo) (hu : JO T u e2 e3 hi) (hw : cutTrue xs.length lo hi)
    (sh : ∀ x ∈ xs, shN 63 x = true) (hf : PlainE (.Subscript a (.Slice l u none p2) pos) "count" apos (.Constant .none j pn) [] cpos := by exact ⟨fun _ => rfl, fun _ => rfl, rfl, fun _ => rfl, fun _ => rfl⟩) :
    JE T (.Call (.Attribute (.Subscript a (.Slice l u none p2) pos) "count" apos) [.Constant .none j pn] [] cpos) e0 e3 (.d (.int (cntN (cutL xs lo hi)))) := fun X hX =>
  (pe_slC (by have := hX.room.un; omega) (h X hX) (hl X hX) (hu X hX) (hf.base X.env) (hf.few X.env) hf.line (hf.hs X.env)).wk fun σ H Q ⟨R, C, E, k⟩ => ⟨R, C, E, fun v C1 H1 c1 E1 r1 => ⟨R, C1, E1, fun C2 H2 c2 E2 => ⟨R, C2, E2, fun C3 H3 c3 E3 => by
    rw [hX.K] at *
    obtain ⟨p, vs, rfl, h1, q1, l1, r1⟩ := rb_tup E3 (.inl (r1.mono (c2.trans c3)))
    have sc : ∀ x ∈ cutL xs lo hi, shN 63 x = true := fun x hx => sh x (List.drop_subset _ _ (List.take_subset _ _ hx))
    have ss : shN 64 (.tuple (cutL xs lo hi)) = true := by rw [shN, List.all_eq_true]; exact sc
    have pa : pureAll (cutL xs lo hi) = true := pureAll_of fun x hx => (shN_of (sc x hx)).1
    have rc := rps_cut r1 lo hi
    have rl := r1.len
    refine ⟨p, vs, cutL xs lo hi, rfl, h1, by rw [rl]; exact hw, (rc.mono E3.cH).dps pa, rc.can pa, k _ C3 H3 ((c1.trans c2).trans c3) E3 (.int _)⟩⟩⟩⟩
end
end J
namespace J
/-- turns enough for a while -/
@[irreducible] def fuel : Nat := 1000000
theorem fuel_eq : fuel = 1000000 := by unfold fuel; rfl
open PySem L2 PySem.Spec PyProof.Rows
/-! ### "".join(texts) -/
def joinS (ys : List Str) : Str := Str.join ("" : Str) ys
theorem app_e (x : Str) : x ++ ("" : Str) = x := by
  show (⟨x.cps ++ #[]⟩ : Str) = x
  rw [Array.append_empty]
theorem joinS_cons (x : Str) (ys : List Str) : joinS (x :: ys) = x ++ joinS ys := by
  cases ys with
  | nil => show x = x ++ ("" : Str); rw [app_e]
  | cons y ys => show x ++ ("" : Str) ++ Str.join ("" : Str) (y :: ys) = _; rw [app_e]; rfl
theorem joinS_len : ∀ ys : List Str, (joinS ys).length = (ys.map (·.length)).sum
  | [] => rfl
  | x :: ys => by rw [joinS_cons, len_app, joinS_len ys]; rfl
theorem joinS_ok : ∀ ys : List Str, (∀ y ∈ ys, sOk y) → (ys.map (·.length)).sum ≤ LN → sOk (joinS ys)
  | [], _, _ => ⟨by decide +kernel, by decide +kernel⟩
  | x :: ys, h, hl => by
    rw [joinS_cons]
    have hl : x.length + (ys.map (·.length)).sum ≤ LN := hl
    exact sOk_app (h x (by simp)) (joinS_ok ys (fun y hy => h y (by simp [hy])) (by omega)) (by rw [joinS_len]; exact hl)
theorem signs_app (i j : Str) : J.signs (i ++ j) = J.signs i ++ J.signs j := by
  unfold J.signs
  show List.map _ (i.cps ++ j.cps).toList = _
  rw [Array.toList_append, List.map_append]
theorem signs_one {x : Str} (h : x.length = 1) : J.signs x = [x] := by
  obtain ⟨⟨l⟩⟩ := x
  match l, h with
  | [c], _ => rfl
theorem signs_join : ∀ ys : List Str, (∀ y ∈ ys, y.length = 1) → J.signs (joinS ys) = ys
  | [], _ => rfl
  | x :: ys, h => by rw [joinS_cons, signs_app, signs_one (h x (by simp)), signs_join ys fun y hy => h y (by simp [hy])]; rfl
section
variable {T : TC} {a b c e o : Expr} {es : List Expr} {env e0 e1 e2 e3 : Env'} {pos p p1 p2 p3 : Pos} {K : PySem.W.Frag} {R C C' H H' : Hp} {σ : L2.St} {v : V}
theorem rps_strs {ys : List Str} {vs : List V} (r : Rps K C vs (ys.map .str)) : vs = ys.map V.str ∧ ∀ y ∈ ys, sOk y := by
  induction ys generalizing vs with
  | nil => rw [List.map_nil] at r; cases r; exact ⟨rfl, fun y hy => by cases hy⟩
  | cons y ys ih =>
    rw [List.map_cons] at r
    cases r with
    | cons r1 r2 =>
      obtain ⟨e, h⟩ := ih r2
      cases r1 with
      | str o1 =>
        subst e
        exact ⟨rfl, fun z hz => by
          rcases List.mem_cons.mp hz with rfl | hz
          · exact o1
          · exact h z hz⟩
theorem je_join {ys : List Str} {apos : Pos} (ho : JE T o e0 e1 (.d (.str ("" : Str)))) (he : JE T e e1 e2 (.b (.list (ys.map .str)))) (hl : (ys.map (·.length)).sum ≤ LN)
    (hf : PlainE o "join" apos e [] pos := by exact ⟨fun _ => rfl, fun _ => rfl, rfl, fun _ => rfl, fun _ => rfl⟩) : JE T (.Call (.Attribute o "join" apos) [e] [] pos) e0 e2 (.d (.str (joinS ys))) := fun X hX =>
  (pe_join (ho X hX) (he X hX) (hf.hs X.env) (hf.base X.env) hf.line).wk fun σ H Q ⟨R, C, E, k⟩ => ⟨R, C, E, fun v C1 H1 c1 E1 r1 => by
    have e := rb_str E1 (.inl r1)
    subst e
    refine ⟨⟨_, rfl⟩, R, C1, E1, fun w C2 H2 c2 E2 r2 => ?_⟩
    rw [hX.K] at *
    obtain ⟨q, vs, rfl, h1, l1, r1⟩ := rb_lst E2 r2
    obtain ⟨ev, hs⟩ := rps_strs r1
    subst ev
    refine ⟨_, q, ys, rfl, rfl, .inl (SqL.of h1), by show _ + ys.length * 0 ≤ 16777216; rw [Nat.mul_zero]; exact hl, ?_⟩
    rw [show Txt.join ("" : Str) ys = joinS ys from TL.join_eq _ _]
    exact k _ C2 H2 (c1.trans c2) E2 (.str (joinS_ok ys hs hl))⟩
/-! ### len(range(a, b, c)) -/
def lenR (i j k : Int) : Int := Builtin.Range.rangeSize i j k
def lenROk (i j k : Int) : Prop := (-1000000 ≤ i ∧ i ≤ 1000000) ∧ (-1000000 ≤ j ∧ j ≤ 1000000) ∧ (0 < k ∧ k ≤ 1000000)
def tLR (ta : TA) : TE := fun σ H Q => ta σ H fun vs H1 => ∃ i j k : Int, vs = [.int i, .int j, .int k] ∧ lenROk i j k ∧ Q (.int (lenR i j k)) H1
theorem lenR_bd {i j k : Int} (h : lenROk i j k) : 0 ≤ lenR i j k ∧ lenR i j k < 2 ^ 62 := by
  obtain ⟨h1, h2, h3⟩ := h
  unfold lenR Builtin.Range.rangeSize
  rw [if_pos (by omega)]
  split
  · have a : 0 ≤ (j - i - 1) / k := Int.ediv_nonneg (by omega) (by omega)
    have b : (j - i - 1) / k ≤ j - i - 1 := Int.ediv_le_self _ (by omega)
    omega
  · omega
theorem pe_lenR {X : Cx} {a b c : Expr} {ta : TA} {p p1 p2 pos : Pos} (hgl : Gl X "len") (hml : X.mg "len" = none) (hgr : Gl X "range") (hmr : X.mg "range" = none) (ha : PA X [a, b, c] ta)
    (ho : starEach [.Call (.Name "range" p1) [a, b, c] [] p2] X.env = [(false, eval (.Call (.Name "range" p1) [a, b, c] [] p2) X.env)])
    (hs : starEach [a, b, c] X.env = (false, eval a X.env) :: starEach [b, c] X.env) (hp : (backTo p2 (starEach [b, c] X.env)).any (·.1) = false) :
    PE X (.Call (.Name "len" p) [.Call (.Name "range" p1) [a, b, c] [] p2] [] pos) (tLR ta) := by
  refine ⟨fun pins s σ H Q I h => ?_⟩
  refine wpAny_Call_Name_kw (ld_blt I hgl hml boot_len ?_ (by decide) (by decide))
  refine PyProof.Rows.callWith_builtin1 (e := .Call (.Name "range" p1) [a, b, c] [] p2) (rest := []) ?_ ho rfl
  rw [ho]
  refine Calls.spliced_cons (show wpAny _ _ (eval (.Call (.Name "range" p1) [a, b, c] [] p2) X.env) _ _ _ from ?_)
  refine Call_ (ld_blt I hgr hmr boot_range (PyProof.Rows.callWith_type1 (thn (ha.run p2 pins s σ H _ I h) fun us s1 ⟨vs, H1, I1, r1, q1⟩ => ?_) hs hp))
  obtain ⟨i, j, k, e, hk, q⟩ := q1
  subst e
  cases r1 with
  | cons r rr =>
    cases rr with
    | cons r' rr =>
      cases rr with
      | cons r'' rr =>
        cases rr
        obtain ⟨t, rfl⟩ := r
        obtain ⟨t', rfl⟩ := r'
        obtain ⟨t'', rfl⟩ := r''
        obtain ⟨h1, h2, h3⟩ := hk
        refine call_range_3 (by omega) (Calls.spliced_nil ?_) (Or.inl (PyProof.noPylong_small (by omega)))
        have I2 : Inv X pins σ H1 { s1 with heap := s1.heap.push { cls := .type "range", data := .fields #[.int i t, .int j t', .int k t''] } } := I1.kept (t' := s1.toks) fun b o e => Heap.get?_push_of_some _ e
        obtain ⟨b1, b2⟩ := lenR_bd (i := i) (j := j) (k := k) ⟨h1, h2, h3⟩
        refine call_len_range (n := (lenR i j k).toNat) (IsRange.new ..) (by show lenR i j k = _; omega) (by omega) ?_
        have e : (((lenR i j k).toNat : Nat) : Int) = lenR i j k := by omega
        rw [e]
        exact ⟨.int _, H1, I2.tok _, ⟨_, rfl⟩, q⟩
theorem je_lenR {i j k : Int} (hgl : glB T.sc "len" = true) (hml : T.mg "len" = none) (hgr : glB T.sc "range" = true) (hmr : T.mg "range" = none) (ha : JA T [a, b, c] e0 e1 [.int i, .int j, .int k]) (hk : lenROk i j k)
    (ho : ∀ v : Env, starEach [.Call (.Name "range" p1) [a, b, c] [] p2] v = [(false, eval (.Call (.Name "range" p1) [a, b, c] [] p2) v)] := by intro _; rfl)
    (hs : ∀ v : Env, starEach [a, b, c] v = (false, eval a v) :: starEach [b, c] v := by intro _; rfl) (hp : ∀ v : Env, (backTo p2 (starEach [b, c] v)).any (·.1) = false := by intro _; rfl) :
    JE T (.Call (.Name "len" p) [.Call (.Name "range" p1) [a, b, c] [] p2] [] pos) e0 e1 (.d (.int (lenR i j k))) := fun X hX =>
  (pe_lenR (gl_of hX hgl) (by rw [hX.mg]; exact hml) (gl_of hX hgr) (by rw [hX.mg]; exact hmr) (ha X hX) (ho X.env) (hs X.env) (hp X.env)).wk fun σ H Q ⟨R, C, E, kk⟩ => ⟨R, C, E, fun vs C1 H1 c1 E1 r1 => by
    cases r1 with
    | cons r1 r2 => cases r2 with
      | cons r2 r3 => cases r3 with
        | cons r3 r4 =>
          cases r4
          cases r1; cases r2; cases r3
          exact ⟨i, j, k, rfl, hk, kk _ C1 H1 c1 E1 (.int _)⟩⟩
end
end J
namespace J
open PySem L2 PySem.Spec PyProof.Rows PySem.W
/-! ### sorted(a tuple) -/
section
variable {prog : Program} {w : World} {A : Around} {E : Value → Shared → Prop} {s : Shared} {β : Type} {vs : List Value} {bs : List β} {enc : β → PyData} {R : Value → β → Prop}
theorem sorted_tupD {l : Addr} {Q : Value → Shared → Prop} (hl : IsTup s.heap l vs.toArray) (e : EachIs R vs bs) (er : EachIs (fun v b => ∃ as, Reads s.heap v (enc b) as) vs bs) (hal : AllAlike (bs.map enc)) (hk : Sortable (bs.map enc)) (hL : bs.length ≤ sizeLine)
    (hu : ∀ b, b ∈ bs → A.units + 2 + (enc b).depth < cLine)
    (h : ∀ (h1 h' : Heap) (out : List Value) (n : Nat), (∀ b o, s.heap.get? b = some o → h1.get? b = some o) → (∀ b o, h1.get? b = some o → h'.get? b = some o) → h'.get? h1.objs.size = some (seqObj "list" out.toArray n) → out.length = bs.length → EachIs R out (bs.mergeSort (dataLe false enc)) → Q (.ref h1.objs.size) { s with heap := h' }) :
    wpAny (model prog w) A (call (.builtin "sorted") [.ref l]) Q E s := by
  have hLv : vs.length ≤ sizeLine := by rw [e.length]; exact hL
  obtain ⟨o, ho, hc, n, hd⟩ := hl
  refine Calls.call_function_entry kind_sorted plain_sorted entry_sorted (args_sorted1 _) ?_
  unfold Builtin.«sorted»
  refine wpAny_bind (m := checkCount "sorted" 1 1 _) (wpAny_pure ?_)
  refine wpAny_bind (wpAny_collect_seq l (.inr rfl) ho hc hd (fun h1 keep => ?_) (by rw [List.size_toArray]; exact hLv))
  refine wpAny_bind (wpAny_newList ?_ hLv)
  have hoL : (h1.push (seqObj "list" vs.toArray 0)).get? h1.objs.size = some (seqObj "list" vs.toArray 0) := Heap.get?_push_size _ rfl
  have old : ∀ b o, s.heap.get? b = some o → b ≠ h1.objs.size ∧ (h1.push (seqObj "list" vs.toArray 0)).get? b = some o := fun b o q => ⟨Nat.ne_of_lt (Heap.lt_size (keep b o q)), Heap.get?_push_of_some _ (keep b o q)⟩
  have er' : EachIs (fun v b => ∃ as, Reads (sortingHeap (h1.push (seqObj "list" vs.toArray 0)) h1.objs.size vs) v (enc b) as) vs bs :=
    er.mono fun _ _ ⟨as, r⟩ => ⟨as, PyProof.Rows.Reads.keeps (fun b o q => sortingHeap_old (old b o q).1 (old b o q).2) r⟩
  have S := SortsAt.data (prog := prog) (w := w) (A := A.in1.in1) (s := { s with heap := sortingHeap (h1.push (seqObj "list" vs.toArray 0)) h1.objs.size vs }) (each_map (R := fun v d => ∃ as, Reads (sortingHeap (h1.push (seqObj "list" vs.toArray 0)) h1.objs.size vs) v d as) enc er') hal hk (bound_map hu)
  show wpAny _ _ _ _ _ { s with heap := h1.push (seqObj "list" vs.toArray 0) }
  refine wpAny_bind (wpAny_holding (wpAny_call_entry slot_list_sort ⟨_, hoL, rfl⟩ entry_list_sort ?body (args_list_sort _)))
  case body =>
    refine list_sort_vals (s := { s with heap := h1.push (seqObj "list" vs.toArray 0) }) hoL S hLv ⟨_, rfl, wpAny_pure ⟨_, rfl, ?_⟩⟩
    obtain ⟨n', hn'⟩ := sortedHeap_at (vs := vs) (out := (sortVals (dataKind (sortingHeap (h1.push (seqObj "list" vs.toArray 0)) h1.objs.size vs) (bs.map enc)) false vs vs).toArray) hoL
    refine h h1 _ _ n' keep (fun b o q => ?_) hn' (by rw [sortVals_length false rfl]; exact e.length) (sortVals_data false e er' hal)
    have q1 : b ≠ h1.objs.size := Nat.ne_of_lt (Heap.lt_size q)
    have q2 : (h1.push (seqObj "list" vs.toArray 0)).get? b = some o := Heap.get?_push_of_some _ q
    rw [sortedHeap_old q1 (Heap.lt_size q2)]
    exact q2
end
section
variable {X : Cx}
def rSortTD (K : PySem.W.Frag) : List V → Hp → VK → Prop := fun vs H Q => ∃ (a : Addr) (ys : List V) (ds : List PyData), vs = [.ref a] ∧ SqT K H a ys ∧ DpAll K H ys ds ∧ AllAlike ds ∧ Sortable ds ∧ PyData.depthAll ds ≤ 64 ∧
  ∀ p, H p = none → Q (.ref p) (upd H p (.lst (((ys.zip ds).mergeSort (dataLe false (·.2))).map (·.1))))
theorem cr_sortTD (hu : X.A.units + 200 < cLine) : CallR X (.builtin "sorted") (rSortTD X.K) := by
  intro pins s σ H xs us Q I rv h
  obtain ⟨a, ys, ds, rfl, hq, hd, al, so, dp, q⟩ := h
  have eu := Vals.ref1 rv
  subst eu
  obtain ⟨its, r, pl, hz⟩ := I.tuple hq
  obtain ⟨as, ra⟩ := Dp.readsAll I ds ys its hd r
  have hlen : ys.length = ds.length := dpAll_len hd
  have e1 : (ys.zip ds).map (·.2) = ds := List.map_snd_zip (by omega)
  have R1 := zipR r hlen
  have R2 := zipRd r ra
  have hdep : ∀ b, b ∈ ys.zip ds → X.A.units + 2 + b.2.depth < cLine := fun b hb => by
    have hm : b.2 ∈ ds := by
      have : b.2 ∈ (ys.zip ds).map (·.2) := List.mem_map.mpr ⟨b, hb, rfl⟩
      rw [e1] at this; exact this
    have := depth_mem hm
    omega
  refine sorted_tupD (R := fun (u : Value) (b : V × PyData) => RelV b.1 u) (enc := fun b => b.2) (bs := ys.zip ds) pl R1 R2 (by rw [e1]; exact al) (by rw [e1]; exact so) (by rw [List.length_zip]; omega) hdep fun h1 h' out n k1 k2 he ho hout => ?_
  have hv := eachVals hout
  have I1 : Inv X pins σ H { s with heap := h1 } := I.kept (t' := s.toks) k1
  have hn : H h1.objs.size = none := I1.hok.fresh (Nat.le_refl _)
  refine ⟨.ref h1.objs.size, _, I1.laid (a := h1.objs.size) (o := .lst _) (t' := s.toks) (fun b ob q => k2 b ob q) (Nat.le_refl _) ?_, rfl, q _ hn⟩
  exact ⟨by rw [List.length_map, List.length_mergeSort, List.length_zip]; omega, out, n, hv, he⟩
end
section
variable {T : TC} {a b e : Expr} {es : List Expr} {env e0 e1 e2 e3 : Env'} {pos p : Pos} {α : Type} {enc : α → PyData} {xs zs : List α}
theorem je_sortT (hg : glB T.sc "sorted" = true) (hm : T.mg "sorted" = none) (ha : JE T e e0 e1 (.b (.tuple (xs.map enc)))) (al : AlkE enc) (so : SrtE enc) (sh : shN 64 (.list (xs.map enc)) = true) (hp : Plain e [] pos := by exact ⟨fun _ => rfl, fun _ => rfl⟩) : JE T (.Call (.Name "sorted" p) [e] [] pos) e0 e1 (.o (.list ((pySort enc xs).map enc))) :=
  je_bi1 (r := rSortTD) (fun X hX => cr_sortTD (room_units hX)) hg hm (by decide +kernel) ha (fun R C H env σ v Q E hv k => by
    obtain ⟨p, vs, rfl, h1, c1, l1, r1⟩ := rb_tup E hv
    obtain ⟨q1, q2⟩ := shN_all (n := 63) sh
    have aa := al.all xs
    refine ⟨p, vs, xs.map enc, rfl, h1, (r1.mono E.cH).dps q1, aa.1, ?_, by omega, fun q hq => ?_⟩
    · rcases so with so | so
      · left; intro d hd
        obtain ⟨a, _, rfl⟩ := List.mem_map.mp hd
        exact so a
      · right; intro d hd
        obtain ⟨a, _, rfl⟩ := List.mem_map.mp hd
        exact ⟨al.2 a, so a⟩
    · have e1 : (vs.zip (xs.map enc)).map (·.2) = xs.map enc := List.map_snd_zip (by rw [r1.len]; exact Nat.le_refl _)
      have key : ((vs.zip (xs.map enc)).mergeSort (dataLe false (·.2))).map (·.2) = (pySort enc xs).map enc := by
        rw [sort_maps (r := dataLe false fun b : V × PyData => b.2) (s := dataLe false fun d => d) (fun b : V × PyData => b.2) (fun _ _ _ _ => rfl), e1]
        unfold pySort
        rw [sort_maps (r := dataLe false enc) (s := dataLe false fun d => d) enc (fun _ _ _ _ => rfl)]
      have rr := rps_of_pairs (zs := (vs.zip (xs.map enc)).mergeSort (dataLe false (·.2))) (K := T.K) (C := C) fun b hb => rps_pairs r1 b (List.mem_mergeSort.mp hb)
      rw [key] at rr
      obtain ⟨E', r⟩ := E.freshO hq (by rw [List.length_map, List.length_mergeSort, List.length_zip]; omega) rr
      exact k _ C _ (Ex.refl C) E' r) hp
/-! ### things or None, none of them None -/
theorem un_map [Inhabited α] (enc : α → PyData) {xs : List (Option α)} (h : ∀ x ∈ xs, x.isSome = true) : xs.map (eO enc) = (xs.map unO).map enc := by
  rw [List.map_map]
  refine List.map_congr_left fun x hx => ?_
  have := h x hx
  cases x with
  | none => cases this
  | some y => rfl
theorem je_unLb [Inhabited α] {xs : List (Option α)} (h : JE T e e0 e1 (.b (.list (xs.map (eO enc))))) (hs : ∀ x ∈ xs, x.isSome = true) : JE T e e0 e1 (.b (.list ((xs.map unO).map enc))) := by rw [← un_map enc hs]; exact h
/-! ### xs[an index that draws], xs owned -/
theorem je_ixLV [Inhabited α] {nm : Str} {np : Pos} (j : Nat) {k0 : Option Addr} {i : Int} (h : JE T b e0 e2 (.d (.int i))) (hr : inR xs.length i) (hN : T.N[j]? = some nm := by rfl) (hv : visB T.sc nm = true := by rfl) (h0 : ∃ d0, e0[j]? = some (.o k0 d0) := by exact ⟨_, rfl⟩) (he : e2[j]? = some (.o k0 (.list (xs.map enc))) := by rfl)
    (hs : PlainIx b := by intro _ _; rfl) (hd : (nm == ("__debug__" : Str)) = false := by decide) (hcd : (nm == ("__classdict__" : Str)) = false := by decide) : JE T (.Subscript (.Name nm np) b pos) e0 e2 (.d (enc (gI xs i))) := fun X hX =>
  (pe_ix ix_list (pe_var (i := j) (by rw [hX.N]; exact hN) (by rw [hX.sc]; exact vis_of hv) hd hcd) (h X hX) hs).wk fun σ H Q ⟨R, C, E, k⟩ => by
    obtain ⟨d0, h0⟩ := h0
    obtain ⟨p, s0, _, _, _, ow0⟩ := E.own j k0 _ h0
    refine ⟨.ref p, s0, R, C, E, fun v C1 H1 c1 E1 r1 => ?_⟩
    obtain ⟨p', s1, hq, cp, rp, vs, hh, l, rr⟩ := E1.own j k0 _ he
    rw [s0] at s1; cases s1
    cases r1
    obtain ⟨w, hw, rw⟩ := atI_rps rr (gI_at hr)
    rw [hX.K] at *
    exact ⟨p, vs, i, w, rfl, rfl, SqL.of hh, hw, k _ C1 H1 c1 E1 rw⟩
/-! ### xs.extend(a list just made) -/
theorem mtm_mt {X : Cx} {id : String} {r : V → List V → Hp → VK → Prop} (h : MtM X id r) : MtR X id r := h
theorem je_extend {nm : Str} {apos np : Pos} (i : Nat) {k0 : Option Addr} (h : JE T e e0 e1 (.b (.list (zs.map enc)))) (hl : xs.length + zs.length ≤ LN) (hN : T.N[i]? = some nm := by rfl) (hv : visB T.sc nm = true := by rfl) (h0 : ∃ xs0, e0[i]? = some (.o k0 (.list xs0)) := by exact ⟨_, rfl⟩) (he : e1[i]? = some (.o k0 (.list (xs.map enc))) := by rfl)
    (hp : PlainM (.Name nm np) "extend" apos e [] pos := by exact ⟨fun _ => rfl, fun _ => rfl, rfl, fun _ => rfl, fun _ => rfl⟩)
    (hd : (nm == ("__debug__" : Str)) = false := by decide) (hcd : (nm == ("__classdict__" : Str)) = false := by decide) :
    JE T (.Call (.Attribute (.Name nm np) "extend" apos) [e] [] pos) e0 (e1.set i (.o k0 (.list ((xs ++ zs).map enc)))) (.d .none) := fun X hX =>
  (pe_bm PySem.F.plainAttrs_list PySem.F.slot_list_extend PySem.F.type_list_extend mt_extend (pe_var (i := i) (by rw [hX.N]; exact hN) (by rw [hX.sc]; exact vis_of hv) hd hcd) (pa_cons (h X hX) pa_nil (hp.hs X.env)) (hp.base X.env) (hp.few X.env) hp.line (hp.hs X.env) (hp.plain X.env)).wk fun σ H Q ⟨R, C, E, k⟩ => by
    obtain ⟨xs0, h0⟩ := h0
    obtain ⟨p, s0, _, _, _, ow0⟩ := E.own i k0 _ h0
    refine ⟨.ref p, s0, tyL ⟨C, ow0⟩, R, C, E, fun v C1 H1 c1 E1 r1 => ?_⟩
    obtain ⟨q, zv, rfl, hz, lz, rz⟩ := rb_lst E1 r1
    obtain ⟨p', s1, hq, cp, rp, vs, hh, l, rr⟩ := E1.own i k0 _ he
    rw [s0] at s1; cases s1
    have hh : H1 p = some (.lst vs) := hh
    have el := rr.len
    have ez := rz.len
    rw [List.length_map] at el ez
    refine ⟨p, q, vs, zv, rfl, rfl, hh, hz, by rw [sizeLine_eq, el, ez]; exact hl, ?_⟩
    refine k _ C1 _ c1 (E1.mutO he s0 cp rp ⟨vs ++ zv, rfl, ?_, by rw [List.map_append]; exact rr.append rz⟩) .non
    rw [List.length_append, el, ez]
    exact hl
end
end J
namespace K22
open PySem L2 PySem.Spec PyProof.Rows J
def topS (i : Nat) : Stmt := PySem.Challenge.pw_hoteldays_k22_whole_places_and_vouchers.main.body.getD i (.Pass ⟨0, 0, 0, 0⟩)
local macro_rules | `(tactic| walk_at "le") => `(tactic| repeat (first | exact le_nil | refine le_r ?_ | refine le_u ?_))
local macro_rules | `(tactic| walk_at "kt") => `(tactic| (simp only [tyD]; decide +kernel))
local macro_rules | `(tactic| walk_at "hw") => `(tactic| (intro v hv; cases v; cases hv; rfl))
structure Txt (K : PySem.W.Frag) (mg : Str → Option Value) where
  f_draw : Addr
  d_draw : FuncData
  o_draw : Own K mg "_law_draw" (topS 14) ["script"] f_draw d_draw
  f_next : Addr
  d_next : FuncData
  o_next : Own K mg "_law_next" (topS 15) ["draw", "many"] f_next d_next
  f_same : Addr
  d_same : FuncData
  o_same : Own K mg "_law_same" (topS 16) ["actual", "due"] f_same d_same
  f_far_from : Addr
  d_far_from : FuncData
  o_far_from : Own K mg "far_from" (topS 9) ["taken", "place"] f_far_from d_far_from
  f_row_of : Addr
  d_row_of : FuncData
  o_row_of : Own K mg "row_of" (topS 10) ["places"] f_row_of d_row_of
  f_nearest : Addr
  d_nearest : FuncData
  o_nearest : Own K mg "nearest" (topS 11) ["places", "guests"] f_nearest d_nearest
  f_apart : Addr
  d_apart : FuncData
  o_apart : Own K mg "apart" (topS 12) ["places"] f_apart d_apart
  f_law_saved : Addr
  d_law_saved : FuncData
  o_law_saved : Own K mg "_law_saved" (topS 17) ["vouchers", "bills", "row"] f_law_saved d_law_saved
  f_saved : Addr
  d_saved : FuncData
  o_saved : Own K mg "saved" (topS 6) ["vouchers", "bills", "use"] f_saved d_saved
  f_best_use : Addr
  d_best_use : FuncData
  o_best_use : Own K mg "best_use" (topS 7) ["vouchers", "bills"] f_best_use d_best_use
  f_is_row : Addr
  d_is_row : FuncData
  o_is_row : Own K mg "is_row" (topS 3) ["thing", "least", "most"] f_is_row d_is_row
  f_is_integer : Addr
  d_is_integer : FuncData
  o_is_integer : Own K mg "is_integer" (topS 1) ["thing"] f_is_integer d_is_integer
  f_is_number : Addr
  d_is_number : FuncData
  o_is_number : Own K mg "is_number" (topS 2) ["thing", "least", "most"] f_is_number d_is_number
  f_is_use : Addr
  d_is_use : FuncData
  o_is_use : Own K mg "is_use" (topS 5) ["vouchers", "bills", "thing"] f_is_use d_is_use
  f_law : Addr
  d_law : FuncData
  o_law : Own K mg "law" (topS 18) ["script"] f_law d_law
  m_abs : mg "abs" = none
  m_all : mg "all" = none
  m_bool : mg "bool" = none
  m_enumerate : mg "enumerate" = none
  m_int : mg "int" = none
  m_isinstance : mg "isinstance" = none
  m_len : mg "len" = none
  m_list : mg "list" = none
  m_max : mg "max" = none
  m_min : mg "min" = none
  m_range : mg "range" = none
  m_sorted : mg "sorted" = none
  m_str : mg "str" = none
  m_sum : mg "sum" = none
  m_tuple : mg "tuple" = none
  m_zip : mg "zip" = none
section
variable {P : Program} {w : World} {K : PySem.W.Frag} {mg : Str → Option Value} {base : Heap}
abbrev N11 : List Str := ["script"]
abbrev N12 : List Str := ["draw", "many", "found", "cell"]
abbrev N13 : List Str := ["actual", "due", "k"]
theorem sc11 : FnScope N11 ["script"] (defScope (topS 14)) := ⟨rfl, rfl, rfl, by decide +kernel, rfl, by decide +kernel, by decide +kernel⟩
theorem sc12 : FnScope N12 ["draw", "many"] (defScope (topS 15)) := ⟨rfl, rfl, rfl, by decide +kernel, rfl, by decide +kernel, by decide +kernel⟩
theorem sc13 : FnScope N13 ["actual", "due"] (defScope (topS 16)) := ⟨rfl, rfl, rfl, by decide +kernel, rfl, by decide +kernel, by decide +kernel⟩
theorem ok_draw (X : Txt K mg) : FnOk P w K mg base CX0 1 X.f_draw X.d_draw ["script"] (SpDraw K) := by
  refine fn_okF (A := List Int) (args := fun ns => [.dict [(.none, .list (ns.map .int))]]) X.o_draw.F sc11 (fun _ => rfl) (by decide) ?_
  intro ns _ _
  exact ⟨_, jss_rt (js_ret (je_lst (ja_cons (je_fz (je_listS rfl X.m_list (je_var 0))) (ja_cons je_int (ja_cons je_int (ja_cons je_int ja_nil))))))⟩
theorem ok_next (X : Txt K mg) : FnOk P w K mg base CX0 1 X.f_next X.d_next ["draw", "many"] (SpNext K) := by
  refine fn_okO (A := Dr × Int) (ρ := Int × Dr) X.o_next.F sc12 (fun r => .int r.1) (fun r => drD r.2) (fun a => nxt a.1 a.2) (fun _ => rfl) (by decide) ?_
  rintro ⟨⟨ns, i, x, st⟩, many⟩ p ⟨hm, hm'⟩ _
  have nd : (tc P w K mg base N12 (topS 15) 0).N.Nodup := sc12.nd
  have hdv : CDivN x many := ⟨by omega, by omega⟩
  show JB (tc P w K mg base N12 (topS 15) 0) (fun r => .int r.1) (fun r : Int × Dr => endO N12 p (drD r.2)) _ [.o (some p) (drD ⟨ns, i, x, st⟩), .d (.int many), .u, .u] (nxt ⟨ns, i, x, st⟩ many)
  unfold nxt
  refine jb_ifr (jt_c (cj_gt (j2d (je_ixL (j2bd (je_varB 0) je_int) rfl) je_int))) (fun hc => ?_) (fun hc => ?_)
  · refine jb_cons (e1 := [.o (some p) (drD ⟨ns, i, x, st⟩), .d (.int many), .d (.int (Int.fmod x many)), .u]) (js_set 2 nd (je_mod (j2d (je_intI rfl X.m_int (je_ixL (j2bd (je_varB 0) je_int) rfl)) (je_var 1)) (by show many ≠ 0; omega))) ?_
    refine jb_let (F := fun found => [.o (some p) (drD ⟨ns, i, x, st⟩), .d (.int many), .d (.int found), .u]) fun found h => ?_
    refine jb_cons (e1 := [.o (some p) (drD ⟨ns, i, Int.fdiv x many, st⟩), .d (.int many), .d (.int found), .u]) (js_setIx 0 (xs := [.list (ns.map .int), .int i, .int x, .int st]) (m := 2) rfl rfl (je_fdiv (j2d (je_ixL (j2bd (je_varB 0) je_int) rfl) (je_var 1)) hdv) je_int ⟨_, rfl⟩ rfl rfl) ?_
    refine jb_let (F := fun d : Dr => [.o (some p) (drD d), .d (.int many), .d (.int found), .u]) fun d h => ?_
    exact jb_ret (r := (found, d)) (je_var 2) (by walk_at "le")
  · refine jb_or (E := fun d : Dr => [.o (some p) (drD d), .d (.int many), .u, .u]) ?_ ?_
    · unfold nxtM
      refine js_ifM (jt_c (cj_lt (j2d (je_ixL (j2bd (je_varB 0) je_int) rfl) (je_lenL' rfl X.m_len (je_b (je_ixL (j2bd (je_varB 0) je_int) rfl)))))) (fun hc => ?_) (fun hc => ?_)
      · have hir : inR ns.length i := by
          have := of_decide_eq_true hc
          exact ⟨by omega, this⟩
        refine jm_cons (e1 := [.o (some p) (drD ⟨ns, i, x, st⟩), .d (.int many), .u, .d (.int (iabs (gI ns i)))]) (js_set 3 nd (je_abs rfl X.m_abs (je_ixL' (enc := PyData.int) (xs := ns) (j2d (je_ixL (j2bd (je_varB 0) je_int) rfl) (je_ixL (j2bd (je_varB 0) je_int) rfl)) hir))) ?_
        refine jm_let (F := fun cell => [.o (some p) (drD ⟨ns, i, x, st⟩), .d (.int many), .u, .d (.int cell)]) fun cell h => ?_
        refine jm_cons (e1 := [.o (some p) (drD ⟨ns, i + 1, x, st⟩), .d (.int many), .u, .d (.int cell)]) (js_setIx 0 (xs := [.list (ns.map .int), .int i, .int x, .int st]) (m := 1) rfl rfl (je_is (r := .d (.int ((i : Int) + 1))) (je_add (j2d (je_ixL (j2bd (je_varB 0) je_int) rfl) je_int)) rfl) je_int ⟨_, rfl⟩ rfl rfl) ?_
        refine jm_let (F := fun d : Dr => [.o (some p) (drD d), .d (.int many), .u, .d (.int cell)]) fun d h => ?_
        obtain ⟨ns, i, x, st⟩ := d
        refine jm_ifr (jt_c (cj_ge (j2d (je_var 3) (je_pow (j2d je_int je_int) ⟨by decide, by decide, by decide⟩)))) (fun hc => ?_) (fun hc => ?_)
        · refine jb_cons (e1 := [.o (some p) (drD ⟨ns, i, Int.fdiv cell many, st⟩), .d (.int many), .u, .d (.int cell)]) (js_setIx 0 (xs := [.list (ns.map .int), .int i, .int x, .int st]) (m := 2) rfl rfl (je_fdiv (j2d (je_var 3) (je_var 1)) ⟨by omega, by omega⟩) je_int ⟨_, rfl⟩ rfl rfl) ?_
          exact jb_ret (r := ((Int.fmod cell many, ⟨ns, i, Int.fdiv cell many, st⟩) : Int × Dr)) (je_mod (j2d (je_intI rfl X.m_int (je_var 3)) (je_var 1)) (by show many ≠ 0; omega)) (by walk_at "le")
        · refine jm_cons (e1 := [.o (some p) (drD ⟨ns, i, x, Int.fmod (st * 48271 + cell + 11) 2147483647⟩), .d (.int many), .u, .d (.int cell)]) (js_setIx 0 (xs := [.list (ns.map .int), .int i, .int x, .int st]) (m := 3) rfl rfl (je_mod (j2d (je_intI rfl X.m_int (je_add (j2d (je_add (j2d (je_mul (j2d (je_ixL (j2bd (je_varB 0) je_int) rfl) je_int) (.inr (by decide))) (je_var 3))) je_int))) je_int) (by decide)) je_int ⟨_, rfl⟩ rfl rfl) ?_
          exact jm_nil (by walk_at "le")
      · refine jm_cons (e1 := [.o (some p) (drD ⟨ns, i, x, Int.fmod (st * 48271 + 12345) 2147483647⟩), .d (.int many), .u, .u]) (js_setIx 0 (xs := [.list (ns.map .int), .int i, .int x, .int st]) (m := 3) rfl rfl (je_mod (j2d (je_intI rfl X.m_int (je_add (j2d (je_mul (j2d (je_ixL (j2bd (je_varB 0) je_int) rfl) je_int) (.inr (by decide))) je_int))) je_int) (by decide)) je_int ⟨_, rfl⟩ rfl rfl) ?_
        exact jm_nil (by walk_at "le")
    · rintro ⟨ns, i, x, st⟩ _
      exact jb_ret (r := ((Int.fmod (Int.fdiv (Int.fmod (st * 69621) 2147483629) 7) many, ⟨ns, i, x, st⟩) : Int × Dr)) (je_mod (j2d (je_fdiv (j2d (je_intI rfl X.m_int (je_mod (j2d (je_mul (j2d (je_ixL (j2bd (je_varB 0) je_int) rfl) je_int) (.inr (by decide))) je_int) (by decide))) je_int) ⟨by decide, by decide⟩) (je_var 1)) (by show many ≠ 0; omega)) (by walk_at "le")
theorem ok_same0 {f : Addr} {fd : FuncData} (F : Fun K "_law_same" "_law_same" (topS 16) f fd) (m_own : mg "_law_same" = some (.ref f)) (kp : PySem.W.keepIn K (.ref f) = true) (bi : Binds K fd ["actual", "due"] [])
    (m_isi : mg "isinstance" = none) (m_list : mg "list" = none) (m_tuple : mg "tuple" = none) (m_bool : mg "bool" = none) (m_str : mg "str" = none) (m_int : mg "int" = none) (m_len : mg "len" = none) (m_all : mg "all" = none) (m_range : mg "range" = none)
    (n : Nat) (ih : ∀ m, n = m + 1 → FnOk P w K mg base CX0 (m + 1) f fd ["actual", "due"] (SpSame K m)) : FnOk P w K mg base CX0 (n + 1) f fd ["actual", "due"] (SpSame K n) := by
  refine fn_ok (A := PyData × PyData) (args := fun a => [a.1, a.2]) F sc13 PyData.bool (fun a => sameD a.1 a.2) (fun _ => rfl) (by decide) ?_
  rintro ⟨ac, du⟩ hpre hlen
  have nd : (tc P w K mg base N13 (topS 16) n).N.Nodup := sc13.nd
  have hl1 : lenOk ac := hlen ac (by simp)
  have hl2 : lenOk du := hlen du (by simp)
  show JB (tc P w K mg base N13 (topS 16) n) PyData.bool (fun _ => uE N13) _ [.d ac, .d du, .u] (sameD ac du)
  -- due is no list and no tuple
  have A1 : ∀ {x y : PyData} {r : Bool}, noDc y = true → kitB (tyD y) "list" = some false → kitB (tyD y) "tuple" = some false →
      JB (tc P w K mg base N13 (topS 16) n) PyData.bool (fun _ => uE N13) ((defBody (topS 16)).drop 1) [.d x, .d y, .u] r → JB (tc P w K mg base N13 (topS 16) n) PyData.bool (fun _ => uE N13) (defBody (topS 16)) [.d x, .d y, .u] r := fun hy h1 h2 h3 =>
    jb_noc (jt_v (je_isi2 rfl m_isi rfl m_list b_list rfl m_tuple b_tuple (je_var 1) h1 h2 hy)) rfl h3
  -- due is None
  have A2 : ∀ {x : PyData}, JB (tc P w K mg base N13 (topS 16) n) PyData.bool (fun _ => uE N13) ((defBody (topS 16)).drop 1) [.d x, .d .none, .u] (isNoneD x) := fun {x} =>
    jb_yesc (jt_isN (je_b (je_var 1))) rfl (jb_ret (je_isN (je_b (je_var 0))) (by walk_at "le"))
  have A2n : ∀ {x y : PyData} {r : Bool}, isNoneD y = false →
      JB (tc P w K mg base N13 (topS 16) n) PyData.bool (fun _ => uE N13) ((defBody (topS 16)).drop 2) [.d x, .d y, .u] r → JB (tc P w K mg base N13 (topS 16) n) PyData.bool (fun _ => uE N13) ((defBody (topS 16)).drop 1) [.d x, .d y, .u] r := fun h h3 =>
    jb_noc (jt_isN (je_b (je_var 1))) h h3
  -- a bool against another kind
  have A3 : ∀ {x y : PyData} {b1 b2 : Bool}, noDc x = true → noDc y = true → kitB (tyD y) "bool" = some b1 → kitB (tyD x) "bool" = some b2 → b1 ≠ b2 →
      JB (tc P w K mg base N13 (topS 16) n) PyData.bool (fun _ => uE N13) ((defBody (topS 16)).drop 2) [.d x, .d y, .u] false := fun hx hy h1 h2 hne =>
    jb_yesc (jt_c (cj_neB (j2d (je_isi rfl m_isi rfl m_bool b_bool (je_var 1) h1 hy) (je_isi rfl m_isi rfl m_bool b_bool (je_var 0) h2 hx)))) (by simp [hne]) (jb_ret je_bl (by walk_at "le"))
  have A3n : ∀ {x y : PyData} {b : Bool} {r : Bool}, noDc x = true → noDc y = true → kitB (tyD y) "bool" = some b → kitB (tyD x) "bool" = some b →
      JB (tc P w K mg base N13 (topS 16) n) PyData.bool (fun _ => uE N13) ((defBody (topS 16)).drop 3) [.d x, .d y, .u] r → JB (tc P w K mg base N13 (topS 16) n) PyData.bool (fun _ => uE N13) ((defBody (topS 16)).drop 2) [.d x, .d y, .u] r := fun hx hy h1 h2 h3 =>
    jb_noc (jt_c (cj_neB (j2d (je_isi rfl m_isi rfl m_bool b_bool (je_var 1) h1 hy) (je_isi rfl m_isi rfl m_bool b_bool (je_var 0) h2 hx)))) (by simp) h3
  -- due is a text
  have A4 : ∀ {x : PyData} {t : Str} {b : Bool}, noDc x = true → kitB (tyD x) "str" = some b → shN 64 x = true →
      JB (tc P w K mg base N13 (topS 16) n) PyData.bool (fun _ => uE N13) ((defBody (topS 16)).drop 3) [.d x, .d (.str t), .u] (b && PyData.eqv x (.str t)) := fun hx h1 sh =>
    jb_yesc (jt_v (je_isi rfl m_isi rfl m_str b_str (je_var 1) (by walk_at "kt"))) rfl (jb_ret (je_and (je_isi rfl m_isi rfl m_str b_str (je_var 0) h1 hx) (fun _ => je_one (je_c (cj_eqD (j2d (je_var 0) (je_var 1)) sh)))) (by walk_at "le"))
  have A4n : ∀ {x y : PyData} {b : Bool}, noDc x = true → noDc y = true → kitB (tyD y) "str" = some false → kitB (tyD x) "int" = some b → shN 64 x = true → shN 64 y = true →
      JB (tc P w K mg base N13 (topS 16) n) PyData.bool (fun _ => uE N13) ((defBody (topS 16)).drop 3) [.d x, .d y, .u] (b && PyData.eqv x y) := fun hx hy h1 h2 sh sh2 =>
    jb_noc (jt_v (je_isi rfl m_isi rfl m_str b_str (je_var 1) h1 hy)) rfl (jb_ret (je_and (je_isi rfl m_isi rfl m_int b_int (je_var 0) h2 hx) (fun _ => je_one (je_c (cj_eqD (j2d (je_var 0) (je_var 1)) sh sh2)))) (by walk_at "le"))
  -- due is a list or a tuple, actual is none
  have A5 : ∀ {x y : PyData} {l1 l2 t1 t2 : Bool}, noDc x = true → noDc y = true → kitB (tyD y) "list" = some l1 → kitB (tyD y) "tuple" = some t1 → kitB (tyD x) "list" = some l2 → kitB (tyD x) "tuple" = some t2 → (l1 || t1) = true → ((!decide (l1 = l2)) || (!decide (t1 = t2))) = true →
      JB (tc P w K mg base N13 (topS 16) n) PyData.bool (fun _ => uE N13) (defBody (topS 16)) [.d x, .d y, .u] false := fun hx hy h1 h2 h3 h4 h5 h6 =>
    jb_yesc (jt_v (je_isi2 rfl m_isi rfl m_list b_list rfl m_tuple b_tuple (je_var 1) h1 h2 hy)) h5
      (jb_yesc (jt_w (jw_or (jt_c (cj_neB (j2d (je_isi rfl m_isi rfl m_list b_list (je_var 1) h1 hy) (je_isi rfl m_isi rfl m_list b_list (je_var 0) h3 hx))))
        (fun _ => jw_or1 (jt_c (cj_neB (j2d (je_isi rfl m_isi rfl m_tuple b_tuple (je_var 1) h2 hy) (je_isi rfl m_isi rfl m_tuple b_tuple (je_var 0) h4 hx))))))) h6 (jb_ret je_bl (by walk_at "le")))
  cases hpre with
  | non => exact A1 rfl (by walk_at "kt") (by walk_at "kt") A2
  | non2 hx => exact A1 rfl (by walk_at "kt") (by walk_at "kt") (jb_is A2 (by cases ac <;> first | rfl | cases hx))
  | int i j => exact A1 rfl (by walk_at "kt") (by walk_at "kt") (A2n rfl (A3n rfl rfl (b := false) (by walk_at "kt") (by walk_at "kt") (jb_is (A4n rfl rfl (b := true) (by walk_at "kt") (by walk_at "kt") rfl rfl) (by simp [sameD, PyData.eqv, Bool.beq_eq_decide_eq]))))
  | bool i j => exact A1 rfl (by walk_at "kt") (by walk_at "kt") (A2n rfl (A3n rfl rfl (b := true) (by walk_at "kt") (by walk_at "kt") (jb_is (A4n rfl rfl (b := true) (by walk_at "kt") (by walk_at "kt") rfl rfl) (by simp [sameD, PyData.eqv, Bool.beq_eq_decide_eq]))))
  | str i j => exact A1 rfl (by walk_at "kt") (by walk_at "kt") (A2n rfl (A3n rfl rfl (b := false) (by walk_at "kt") (by walk_at "kt") (jb_is (A4 rfl (b := true) (by walk_at "kt") rfl) (by simp [sameD, PyData.eqv, Bool.beq_eq_decide_eq]))))
  | non1 hy =>
    rcases noDc_cases hy with rfl | ⟨b, rfl⟩ | ⟨b, rfl⟩ | ⟨b, rfl⟩ | ⟨b, rfl⟩ | ⟨b, rfl⟩
    · exact A1 rfl (by walk_at "kt") (by walk_at "kt") A2
    · exact A1 rfl (by walk_at "kt") (by walk_at "kt") (A2n rfl (A3 rfl rfl (b1 := true) (b2 := false) (by walk_at "kt") (by walk_at "kt") (by decide)))
    · exact A1 rfl (by walk_at "kt") (by walk_at "kt") (A2n rfl (A3n rfl rfl (b := false) (by walk_at "kt") (by walk_at "kt") (jb_is (A4n rfl rfl (b := false) (by walk_at "kt") (by walk_at "kt") rfl rfl) rfl)))
    · exact A1 rfl (by walk_at "kt") (by walk_at "kt") (A2n rfl (A3n rfl rfl (b := false) (by walk_at "kt") (by walk_at "kt") (jb_is (A4 rfl (b := false) (by walk_at "kt") rfl) rfl)))
    · exact A5 rfl rfl (l1 := true) (t1 := false) (l2 := false) (t2 := false) (by walk_at "kt") (by walk_at "kt") (by walk_at "kt") (by walk_at "kt") rfl rfl
    · exact A5 rfl rfl (l1 := false) (t1 := true) (l2 := false) (t2 := false) (by walk_at "kt") (by walk_at "kt") (by walk_at "kt") (by walk_at "kt") rfl rfl
  | @lst m xs ys hxy =>
    have hl1 : xs.length ≤ 16777216 := hl1
    have hl2 : ys.length ≤ 16777216 := hl2
    refine jb_yesc (jt_v (je_isi2 (b1 := true) (b2 := false) rfl m_isi rfl m_list b_list rfl m_tuple b_tuple (je_var 1) (by walk_at "kt") (by walk_at "kt"))) rfl ?_
    refine jb_noc (jt_w (jw_or (jt_c (cj_neB (j2d (je_isi (c := true) rfl m_isi rfl m_list b_list (je_var 1) (by walk_at "kt")) (je_isi (c := true) rfl m_isi rfl m_list b_list (je_var 0) (by walk_at "kt")))))
        (fun _ => jw_or1 (jt_c (cj_neB (j2d (je_isi (c := false) rfl m_isi rfl m_tuple b_tuple (je_var 1) (by walk_at "kt")) (je_isi (c := false) rfl m_isi rfl m_tuple b_tuple (je_var 0) (by walk_at "kt")))))))) rfl ?_
    refine jb_is (jb_ifr (r := false) (r' := sameD.sameAll xs ys) (jt_c (cj_neI (j2d (je_lenL rfl m_len (je_b (je_var 0))) (je_lenL rfl m_len (je_b (je_var 1)))))) (fun _ => jb_ret je_bl (by walk_at "le")) (fun hc => ?_)) (sameD_list xs ys)
    have hl := of_nec hc
    rw [sameAll_map xs ys hl]
    refine jb_ret (je_all rfl m_all (je_b (je_fz (je_lc0 (enc := PyData.int) (dec := PyData.bool) [("k", 2)] (fun k => sameD (gI xs k) (gI ys k)) (ji_range1 rfl m_range (je_lenL rfl m_len (je_b (je_var 1))) ⟨by omega, by omega⟩) nd rfl (unk_of rfl) (fun k hk => ?_))))) (by walk_at "le")
    have hk := rgI_mem hk
    refine lcp (js := [2]) (by simp) (jg_name 2 nd) jts_nil (le_r (le_r (le_u le_nil))) fun _ => ?_
    refine je_call' (A := PyData × PyData) (ih m rfl) (gI xs k, gI ys k) m_own kp bi (ja_cons (je_ixL (j2d (je_var 0) (je_var 2)) (gI_some ⟨by omega, by omega⟩)) (ja_cons (je_ixL (j2d (je_var 1) (je_var 2)) (gI_some ⟨by omega, by omega⟩)) ja_nil)) ?_ rfl (Nat.le_refl _)
    refine hxy k.toNat _ _ (gI_getE ⟨by omega, by omega⟩) (gI_getE ⟨by omega, by omega⟩)
  | @tup m xs ys hxy =>
    have hl1 : xs.length ≤ 16777216 := hl1
    have hl2 : ys.length ≤ 16777216 := hl2
    refine jb_yesc (jt_v (je_isi2 (b1 := false) (b2 := true) rfl m_isi rfl m_list b_list rfl m_tuple b_tuple (je_var 1) (by walk_at "kt") (by walk_at "kt"))) rfl ?_
    refine jb_noc (jt_w (jw_or (jt_c (cj_neB (j2d (je_isi (c := false) rfl m_isi rfl m_list b_list (je_var 1) (by walk_at "kt")) (je_isi (c := false) rfl m_isi rfl m_list b_list (je_var 0) (by walk_at "kt")))))
        (fun _ => jw_or1 (jt_c (cj_neB (j2d (je_isi (c := true) rfl m_isi rfl m_tuple b_tuple (je_var 1) (by walk_at "kt")) (je_isi (c := true) rfl m_isi rfl m_tuple b_tuple (je_var 0) (by walk_at "kt")))))))) rfl ?_
    refine jb_is (jb_ifr (r := false) (r' := sameD.sameAll xs ys) (jt_c (cj_neI (j2d (je_lenT rfl m_len (je_b (je_var 0))) (je_lenT rfl m_len (je_b (je_var 1)))))) (fun _ => jb_ret je_bl (by walk_at "le")) (fun hc => ?_)) (sameD_tuple xs ys)
    have hl := of_nec hc
    rw [sameAll_map xs ys hl]
    refine jb_ret (je_all rfl m_all (je_b (je_fz (je_lc0 (enc := PyData.int) (dec := PyData.bool) [("k", 2)] (fun k => sameD (gI xs k) (gI ys k)) (ji_range1 rfl m_range (je_lenT rfl m_len (je_b (je_var 1))) ⟨by omega, by omega⟩) nd rfl (unk_of rfl) (fun k hk => ?_))))) (by walk_at "le")
    have hk := rgI_mem hk
    refine lcp (js := [2]) (by simp) (jg_name 2 nd) jts_nil (le_r (le_r (le_u le_nil))) fun _ => ?_
    refine je_call' (A := PyData × PyData) (ih m rfl) (gI xs k, gI ys k) m_own kp bi (ja_cons (je_ixT (j2d (je_var 0) (je_var 2)) (gI_some ⟨by omega, by omega⟩)) (ja_cons (je_ixT (j2d (je_var 1) (je_var 2)) (gI_some ⟨by omega, by omega⟩)) ja_nil)) ?_ rfl (Nat.le_refl _)
    refine hxy k.toNat _ _ (gI_getE ⟨by omega, by omega⟩) (gI_getE ⟨by omega, by omega⟩)
theorem ok_same (X : Txt K mg) : ∀ n : Nat, FnOk P w K mg base CX0 (n + 1) X.f_same X.d_same ["actual", "due"] (SpSame K n) := by
  intro n
  induction n with
  | zero => exact ok_same0 X.o_same.F X.o_same.m X.o_same.F.kp X.o_same.b X.m_isinstance X.m_list X.m_tuple X.m_bool X.m_str X.m_int X.m_len X.m_all X.m_range 0 (fun m h => by cases h)
  | succ n ih => exact ok_same0 X.o_same.F X.o_same.m X.o_same.F.kp X.o_same.b X.m_isinstance X.m_list X.m_tuple X.m_bool X.m_str X.m_int X.m_len X.m_all X.m_range (n + 1) (fun m h => by cases h; exact ih)
def far_from (taken_0 : (List Int)) (place_0 : Int) : Int :=
  (pyMin PyData.int (taken_0.map fun x_1 : Int => (iabs (place_0 - x_1))))
def far_from_ok (taken_0 : (List Int)) (place_0 : Int) : Prop :=
  ((taken_0.map fun x_1 : Int => (iabs (place_0 - x_1))) ≠ [])
abbrev N_far_from : List Str := ["taken", "place", "other"]
theorem sc_far_from : FnScope N_far_from ["taken", "place"] (defScope (topS 9)) := ⟨rfl, rfl, rfl, by decide +kernel, rfl, by decide +kernel, by decide +kernel⟩
theorem ok_far_from (X : Txt K mg) : FnOk P w K mg base CX0 1 X.f_far_from X.d_far_from ["taken", "place"] (SpD K (fun a : (List Int) × Int => far_from_ok a.1 a.2) (fun a => [(eT PyData.int) a.1, PyData.int a.2]) (fun a => PyData.int (far_from a.1 a.2))) := by
  refine fn_ok (A := (List Int) × Int) (args := fun a => [(eT PyData.int) a.1, PyData.int a.2]) X.o_far_from.F sc_far_from PyData.int (fun a => far_from a.1 a.2) (fun _ => rfl) (by decide) ?_
  rintro ⟨taken_0, place_0⟩ hok hlen
  have nd : (tc P w K mg base N_far_from (topS 9) 0).N.Nodup := sc_far_from.nd
  show JB (tc P w K mg base N_far_from (topS 9) 0) PyData.int (fun _ => uE N_far_from) _ [.d ((eT PyData.int) taken_0), .d (PyData.int place_0), .u] (far_from taken_0 place_0)
  have hok : far_from_ok taken_0 place_0 := hok
  unfold far_from_ok at hok
  unfold far_from
  have hs_4 := hok
  exact jb_ret (je_minL (enc := PyData.int) rfl X.m_min (je_fb (je_lc0 (enc := PyData.int) (dec := PyData.int) [("other", 2)] (fun x_1 : Int => (iabs (place_0 - x_1))) (ji_tup (je_var 0)) (by exact nd) rfl (unk_of rfl) (fun x_1 hx_2 => lcp (js := [2]) (E1 := [.d ((eT PyData.int) taken_0), .d (PyData.int place_0), .d (PyData.int x_1)]) (by simp) (jg_name 2 (by exact nd)) jts_nil (by walk_at "le") fun hc_3 => (je_abs rfl X.m_abs (je_sub (j2d (je_var 1) (je_var 2))))))) alk_int hs_4) (by walk_at "le")

def row_of_c_4 (places_0 : Int) (l_3 : (List Int)) : Bool :=
  (decide ((l_3.length : Int) < places_0))
def row_of_c_4_ok (places_0 : Int) (l_3 : (List Int)) : Prop :=
  True
def row_of_s_12 (places_0 : Int) (l_3 : (List Int)) : (List Int) :=
  Let ((((rgI 0 places_0).filter fun x_5 : Int => (!inB x_5 l_3)).map fun x_5 : Int => ((-(far_from l_3 x_5)), x_5)) : (List (Int × Int))) fun free_9 =>
  Let ((l_3 ++ ([(pyMin (eP2 PyData.int PyData.int) free_9).2] : (List Int))) : (List Int)) fun taken_11 =>
  taken_11
def row_of_s_12_ok (places_0 : Int) (l_3 : (List Int)) : Prop :=
  ((rg1 places_0) ∧ (∀ x_5 : Int, x_5 ∈ (rgI 0 places_0) → ((!inB x_5 l_3) = true → (far_from_ok l_3 x_5)))) ∧
  Let ((((rgI 0 places_0).filter fun x_5 : Int => (!inB x_5 l_3)).map fun x_5 : Int => ((-(far_from l_3 x_5)), x_5)) : (List (Int × Int))) fun free_9 =>
  ((free_9 ≠ []) ∧ (l_3.length + ([(pyMin (eP2 PyData.int PyData.int) free_9).2] : (List Int)).length ≤ LN)) ∧
  Let ((l_3 ++ ([(pyMin (eP2 PyData.int PyData.int) free_9).2] : (List Int))) : (List Int)) fun taken_11 =>
  True
def row_of (places_0 : Int) : (List Int) :=
  Let (([(0 : Int)] : (List Int)) : (List Int)) fun taken_2 =>
  Let (whileL (row_of_c_4 places_0) (row_of_s_12 places_0) J.fuel taken_2 : (List Int)) fun l_19 =>
  l_19
def row_of_ok (places_0 : Int) : Prop :=
  Let (([(0 : Int)] : (List Int)) : (List Int)) fun taken_2 =>
  whileEnds (ρ := PyData) (row_of_c_4 places_0) (fun l => .inl (row_of_s_12 places_0 l)) J.fuel taken_2 ∧
  (∀ l_3 : (List Int), Reach (ρ := PyData) (row_of_c_4 places_0) (fun l => .inl (row_of_s_12 places_0 l)) taken_2 l_3 → row_of_c_4_ok places_0 l_3) ∧
  (∀ l_3 : (List Int), Reach (ρ := PyData) (row_of_c_4 places_0) (fun l => .inl (row_of_s_12 places_0 l)) taken_2 l_3 → row_of_c_4 places_0 l_3 = true → row_of_s_12_ok places_0 l_3) ∧
  Let (whileL (row_of_c_4 places_0) (row_of_s_12 places_0) J.fuel taken_2 : (List Int)) fun l_19 =>
  True
abbrev N_row_of : List Str := ["places", "taken", "free", "place"]
theorem sc_row_of : FnScope N_row_of ["places"] (defScope (topS 10)) := ⟨rfl, rfl, rfl, by decide +kernel, rfl, by decide +kernel, by decide +kernel⟩
theorem ok_row_of (X : Txt K mg) : FnOk P w K mg base CX0 2 X.f_row_of X.d_row_of ["places"] (SpD K (fun a : Int => row_of_ok a) (fun a => [PyData.int a]) (fun a => (eT PyData.int) (row_of a))) := by
  refine fn_ok (A := Int) (args := fun a => [PyData.int a]) X.o_row_of.F sc_row_of (eT PyData.int) (fun a => row_of a) (fun _ => rfl) (by decide) ?_
  intro places_0 hok hlen
  have nd : (tc P w K mg base N_row_of (topS 10) 1).N.Nodup := sc_row_of.nd
  show JB (tc P w K mg base N_row_of (topS 10) 1) (eT PyData.int) (fun _ => uE N_row_of) _ [.d (PyData.int places_0), .u, .u, .u] (row_of places_0)
  have hok : row_of_ok places_0 := hok
  unfold row_of_ok at hok
  unfold row_of
  refine jb_cons (js_set 1 nd (je_tup (ja_cons je_int ja_nil))) ?_
  refine jb_let (F := fun taken_2 : (List Int) => [.d (PyData.int places_0), .d ((eT PyData.int) taken_2), .u, .u]) (v := (([(0 : Int)] : (List Int)) : (List Int))) fun taken_2 e_taken_2 => ?_
  have hok := let_ok hok taken_2 e_taken_2
  obtain ⟨he_13, ht_14, hb_15, hok⟩ := hok
  refine jb_cons (js_whileN (fun l : (List Int) => [.d (PyData.int places_0), .d ((eT PyData.int) l), .u, .u]) (row_of_c_4 places_0) (row_of_s_12 places_0) J.fuel taken_2 (by walk_at "le") he_13 (fun l_3 hr_16 => ?_) (fun l_3 hr_16 hc_17 => ?_)) ?_
  · have hs_18 := ht_14 l_3 hr_16
    unfold row_of_c_4_ok at hs_18
    unfold row_of_c_4
    exact (jt_c (cj_lt (j2d (je_lenT' rfl X.m_len (je_b (je_var 1))) (je_var 0))))
  · have hok := hb_15 l_3 hr_16 hc_17
    unfold row_of_s_12_ok at hok
    unfold row_of_s_12
    obtain ⟨hs_8, hok⟩ := hok
    refine jn_cons (js_frz (i := 2) (k0 := none) (js_lc1 2 (enc := PyData.int) (dec := (eP2 PyData.int PyData.int)) [("place", 3)] (fun x_5 : Int => (!inB x_5 l_3)) (fun x_5 : Int => ((-(far_from l_3 x_5)), x_5)) (ji_range1 rfl X.m_range (je_var 0) hs_8.1) (by exact nd) rfl (unk_of rfl) (fun x_5 hx_6 => lcp (js := [3]) (E1 := [.d (PyData.int places_0), .d ((eT PyData.int) l_3), .u, .d (PyData.int x_5)]) (by simp) (jg_name 3 (by exact nd)) (jts_one (jt_c (cj_notInTB (enc := PyData.int) (x := x_5) (ys := l_3) (j2d (je_var 3) (je_var 1)) fl_int eqe_int))) (by walk_at "le") fun hc_7 => (je_tup (ja_cons (je_neg (je_call' (d := PyData.int (far_from l_3 x_5)) (ok_far_from X) (l_3, x_5) X.o_far_from.m X.o_far_from.F.kp X.o_far_from.b (ja_cons (je_var 1) (ja_cons (je_var 3) ja_nil)) ((hs_8.2 x_5 hx_6) hc_7))) (ja_cons (je_var 3) ja_nil))))) rfl) ?_
    refine jn_let (F := fun free_9 : (List (Int × Int)) => [.d (PyData.int places_0), .d ((eT PyData.int) l_3), .d ((eL (eP2 PyData.int PyData.int)) free_9), .u]) (v := ((((rgI 0 places_0).filter fun x_5 : Int => (!inB x_5 l_3)).map fun x_5 : Int => ((-(far_from l_3 x_5)), x_5)) : (List (Int × Int)))) fun free_9 e_free_9 => ?_
    have hok := let_ok hok free_9 e_free_9
    obtain ⟨hs_10, hok⟩ := hok
    refine jn_cons (js_set 1 nd (je_catT' (enc := PyData.int) (j2d (je_var 1) (je_tup (ja_cons (je_ixT (z := PyData.int (pyMin (eP2 PyData.int PyData.int) free_9).2) (j2d (je_minL (enc := (eP2 PyData.int PyData.int)) rfl X.m_min (je_b (je_var 2)) (alk_p2 alk_int alk_int) hs_10.1) je_int) rfl) ja_nil))) hs_10.2)) ?_
    refine jn_let (F := fun taken_11 : (List Int) => [.d (PyData.int places_0), .d ((eT PyData.int) taken_11), .d ((eL (eP2 PyData.int PyData.int)) free_9), .u]) (v := ((l_3 ++ ([(pyMin (eP2 PyData.int PyData.int) free_9).2] : (List Int))) : (List Int))) fun taken_11 e_taken_11 => ?_
    have hok := let_ok hok taken_11 e_taken_11
    exact jn_nil (by walk_at "le")
  refine jb_let (F := fun l : (List Int) => [.d (PyData.int places_0), .d ((eT PyData.int) l), .u, .u]) fun l_19 e_l_19 => ?_
  have hok := let_ok hok l_19 e_l_19
  have hs_20 := hok
  exact jb_ret (je_var 1) (by walk_at "le")

def far_from_v2 (taken_0 : (List Int)) (place_0 : Int) : Int :=
  (pyMin PyData.int (taken_0.map fun x_1 : Int => (iabs (place_0 - x_1))))
def far_from_v2_ok (taken_0 : (List Int)) (place_0 : Int) : Prop :=
  ((taken_0.map fun x_1 : Int => (iabs (place_0 - x_1))) ≠ [])
abbrev N_far_from_v2 : List Str := ["taken", "place", "other"]
theorem sc_far_from_v2 : FnScope N_far_from_v2 ["taken", "place"] (defScope (topS 9)) := ⟨rfl, rfl, rfl, by decide +kernel, rfl, by decide +kernel, by decide +kernel⟩
theorem ok_far_from_v2 (X : Txt K mg) : FnOk P w K mg base CX0 1 X.f_far_from X.d_far_from ["taken", "place"] (SpD K (fun a : (List Int) × Int => far_from_v2_ok a.1 a.2) (fun a => [(eL PyData.int) a.1, PyData.int a.2]) (fun a => PyData.int (far_from_v2 a.1 a.2))) := by
  refine fn_ok (A := (List Int) × Int) (args := fun a => [(eL PyData.int) a.1, PyData.int a.2]) X.o_far_from.F sc_far_from_v2 PyData.int (fun a => far_from_v2 a.1 a.2) (fun _ => rfl) (by decide) ?_
  rintro ⟨taken_0, place_0⟩ hok hlen
  have nd : (tc P w K mg base N_far_from_v2 (topS 9) 0).N.Nodup := sc_far_from_v2.nd
  show JB (tc P w K mg base N_far_from_v2 (topS 9) 0) PyData.int (fun _ => uE N_far_from_v2) _ [.d ((eL PyData.int) taken_0), .d (PyData.int place_0), .u] (far_from_v2 taken_0 place_0)
  have hok : far_from_v2_ok taken_0 place_0 := hok
  unfold far_from_v2_ok at hok
  unfold far_from_v2
  have hs_4 := hok
  exact jb_ret (je_minL (enc := PyData.int) rfl X.m_min (je_fb (je_lc0 (enc := PyData.int) (dec := PyData.int) [("other", 2)] (fun x_1 : Int => (iabs (place_0 - x_1))) (ji_list (je_var 0)) (by exact nd) rfl (unk_of rfl) (fun x_1 hx_2 => lcp (js := [2]) (E1 := [.d ((eL PyData.int) taken_0), .d (PyData.int place_0), .d (PyData.int x_1)]) (by simp) (jg_name 2 (by exact nd)) jts_nil (by walk_at "le") fun hc_3 => (je_abs rfl X.m_abs (je_sub (j2d (je_var 1) (je_var 2))))))) alk_int hs_4) (by walk_at "le")

def nearest_s_17 (taken_2 : (List Int)) (l_6 : (List (Int × (Option Int)))) (x_7 : Int) : (List (Int × (Option Int))) :=
  Let (((taken_2.filter fun x_8 : Int => (!decide (x_8 = x_7))).map fun x_8 : Int => x_8) : (List Int)) fun others_12 =>
  Let ((l_6 ++ [(x_7, (if (!others_12.isEmpty) = true then (some (far_from_v2 others_12 x_7)) else (none : (Option Int))))]) : (List (Int × (Option Int)))) fun found_15 =>
  found_15
def nearest_s_17_ok (taken_2 : (List Int)) (l_6 : (List (Int × (Option Int)))) (x_7 : Int) : Prop :=
  Let (((taken_2.filter fun x_8 : Int => (!decide (x_8 = x_7))).map fun x_8 : Int => x_8) : (List Int)) fun others_12 =>
  (((!others_12.isEmpty) = true → (far_from_v2_ok others_12 x_7)) ∧ (l_6.length < LN)) ∧
  Let ((l_6 ++ [(x_7, (if (!others_12.isEmpty) = true then (some (far_from_v2 others_12 x_7)) else (none : (Option Int))))]) : (List (Int × (Option Int)))) fun found_15 =>
  True
def nearest (places_0 : Int) (guests_0 : Int) : (List (Int × (Option Int))) :=
  Let ((cutL (row_of places_0) none (some guests_0)) : (List Int)) fun taken_2 =>
  Let (([] : (List (Int × (Option Int)))) : (List (Int × (Option Int)))) fun found_4 =>
  Let ((pySort PyData.int taken_2).foldl (nearest_s_17 taken_2) found_4 : (List (Int × (Option Int)))) fun l_22 =>
  l_22
def nearest_ok (places_0 : Int) (guests_0 : Int) : Prop :=
  ((row_of_ok places_0)) ∧
  Let ((cutL (row_of places_0) none (some guests_0)) : (List Int)) fun taken_2 =>
  Let (([] : (List (Int × (Option Int)))) : (List (Int × (Option Int)))) fun found_4 =>
  (∀ (i_20 : Nat) (x_7 : Int) (l_6 : (List (Int × (Option Int)))), (pySort PyData.int taken_2)[i_20]? = some x_7 → l_6 = ((pySort PyData.int taken_2).take i_20).foldl (nearest_s_17 taken_2) found_4 → nearest_s_17_ok taken_2 l_6 x_7) ∧
  Let ((pySort PyData.int taken_2).foldl (nearest_s_17 taken_2) found_4 : (List (Int × (Option Int)))) fun l_22 =>
  True
abbrev N_nearest : List Str := ["places", "guests", "taken", "found", "place", "others", "other"]
theorem sc_nearest : FnScope N_nearest ["places", "guests"] (defScope (topS 11)) := ⟨rfl, rfl, rfl, by decide +kernel, rfl, by decide +kernel, by decide +kernel⟩
theorem ok_nearest (X : Txt K mg) : FnOk P w K mg base CX0 3 X.f_nearest X.d_nearest ["places", "guests"] (SpD K (fun a : Int × Int => nearest_ok a.1 a.2) (fun a => [PyData.int a.1, PyData.int a.2]) (fun a => (eT (eP2 PyData.int (eO PyData.int))) (nearest a.1 a.2))) := by
  refine fn_ok (A := Int × Int) (args := fun a => [PyData.int a.1, PyData.int a.2]) X.o_nearest.F sc_nearest (eT (eP2 PyData.int (eO PyData.int))) (fun a => nearest a.1 a.2) (fun _ => rfl) (by decide) ?_
  rintro ⟨places_0, guests_0⟩ hok hlen
  have nd : (tc P w K mg base N_nearest (topS 11) 2).N.Nodup := sc_nearest.nd
  show JB (tc P w K mg base N_nearest (topS 11) 2) (eT (eP2 PyData.int (eO PyData.int))) (fun _ => uE N_nearest) _ [.d (PyData.int places_0), .d (PyData.int guests_0), .u, .u, .u, .u, .u] (nearest places_0 guests_0)
  have hok : nearest_ok places_0 guests_0 := hok
  unfold nearest_ok at hok
  unfold nearest
  obtain ⟨hs_1, hok⟩ := hok
  refine jb_cons (js_set 2 nd (je_slT' (enc := PyData.int) (xs := (row_of places_0)) (je_call' (d := (eT PyData.int) (row_of places_0)) (ok_row_of X) (places_0) X.o_row_of.m X.o_row_of.F.kp X.o_row_of.b (ja_cons (je_var 0) ja_nil) hs_1) jo_none (jo_some (je_var 1)))) ?_
  refine jb_let (F := fun taken_2 : (List Int) => [.d (PyData.int places_0), .d (PyData.int guests_0), .d ((eT PyData.int) taken_2), .u, .u, .u, .u]) (v := ((cutL (row_of places_0) none (some guests_0)) : (List Int))) fun taken_2 e_taken_2 => ?_
  have hok := let_ok hok taken_2 e_taken_2
  refine jb_cons (js_setO 3 nd (je_lst ja_nil)) ?_
  refine jb_let (F := fun found_4 : (List (Int × (Option Int))) => [.d (PyData.int places_0), .d (PyData.int guests_0), .d ((eT PyData.int) taken_2), .o none ((eL (eP2 PyData.int (eO PyData.int))) found_4), .u, .u, .u]) (v := (([] : (List (Int × (Option Int)))) : (List (Int × (Option Int))))) fun found_4 e_found_4 => ?_
  have hok := let_ok hok found_4 e_found_4
  obtain ⟨hf_21, hok⟩ := hok
  refine jb_cons (js_forN (enc := PyData.int) (fun l : (List (Int × (Option Int))) => [.d (PyData.int places_0), .d (PyData.int guests_0), .d ((eT PyData.int) taken_2), .o none ((eL (eP2 PyData.int (eO PyData.int))) l), .u, .u, .u]) (nearest_s_17 taken_2) found_4 (ji_list (je_fz (je_sortT (enc := PyData.int) (xs := taken_2) rfl X.m_sorted (je_b (je_var 2)) alk_int srt_int (by simp [shN])))) (by walk_at "le") (fun i_20 x_7 l_6 hx_18 hl_19 => ?_)) ?_
  · have hok := hf_21 i_20 x_7 l_6 hx_18 hl_19
    unfold nearest_s_17_ok at hok
    unfold nearest_s_17
    refine ⟨[4], [.d (PyData.int places_0), .d (PyData.int guests_0), .d ((eT PyData.int) taken_2), .o none ((eL (eP2 PyData.int (eO PyData.int))) l_6), .d (PyData.int x_7), .u, .u], (jg_name 4 (by exact nd)), ?_⟩
    refine jn_cons (js_frz (i := 5) (k0 := none) (js_lc1 5 (enc := PyData.int) (dec := PyData.int) [("other", 6)] (fun x_8 : Int => (!decide (x_8 = x_7))) (fun x_8 : Int => x_8) (ji_tup (je_var 2)) (by exact nd) rfl (unk_of rfl) (fun x_8 hx_9 => lcp (js := [6]) (E1 := [.d (PyData.int places_0), .d (PyData.int guests_0), .d ((eT PyData.int) taken_2), .o none ((eL (eP2 PyData.int (eO PyData.int))) l_6), .d (PyData.int x_7), .u, .d (PyData.int x_8)]) (by simp) (jg_name 6 (by exact nd)) (jts_one (jt_c (cj_neI (j2d (je_var 6) (je_var 4))))) (by walk_at "le") fun hc_10 => (je_var 6))) rfl) ?_
    refine jn_let (F := fun others_12 : (List Int) => [.d (PyData.int places_0), .d (PyData.int guests_0), .d ((eT PyData.int) taken_2), .o none ((eL (eP2 PyData.int (eO PyData.int))) l_6), .d (PyData.int x_7), .d ((eL PyData.int) others_12), .u]) (v := (((taken_2.filter fun x_8 : Int => (!decide (x_8 = x_7))).map fun x_8 : Int => x_8) : (List Int))) fun others_12 e_others_12 => ?_
    have hok := let_ok hok others_12 e_others_12
    obtain ⟨hs_14, hok⟩ := hok
    refine jn_cons (js_expr (je_append' (enc := (eP2 PyData.int (eO PyData.int))) (xs := l_6) (x := (x_7, (if (!others_12.isEmpty) = true then (some (far_from_v2 others_12 x_7)) else (none : (Option Int))))) 3 (je_tup (ja_cons (je_var 4) (ja_cons (je_ifc (u := (some (far_from_v2 others_12 x_7))) (w := (none : (Option Int))) (eO PyData.int) (jt_tL (je_b (je_var 5))) (fun hc_13 => (je_call' (d := PyData.int (far_from_v2 others_12 x_7)) (ok_far_from_v2 X) (others_12, x_7) X.o_far_from.m X.o_far_from.F.kp X.o_far_from.b (ja_cons (je_var 5) (ja_cons (je_var 4) ja_nil)) (hs_14.1 hc_13))) (fun hc_13 => je_non)) ja_nil))) hs_14.2)) ?_
    refine jn_let (F := fun found_15 : (List (Int × (Option Int))) => [.d (PyData.int places_0), .d (PyData.int guests_0), .d ((eT PyData.int) taken_2), .o none ((eL (eP2 PyData.int (eO PyData.int))) found_15), .d (PyData.int x_7), .d ((eL PyData.int) others_12), .u]) (v := ((l_6 ++ [(x_7, (if (!others_12.isEmpty) = true then (some (far_from_v2 others_12 x_7)) else (none : (Option Int))))]) : (List (Int × (Option Int))))) fun found_15 e_found_15 => ?_
    have hok := let_ok hok found_15 e_found_15
    exact jn_nil (by walk_at "le")
  refine jb_let (F := fun l : (List (Int × (Option Int))) => [.d (PyData.int places_0), .d (PyData.int guests_0), .d ((eT PyData.int) taken_2), .o none ((eL (eP2 PyData.int (eO PyData.int))) l), .u, .u, .u]) fun l_22 e_l_22 => ?_
  have hok := let_ok hok l_22 e_l_22
  have hs_23 := hok
  exact jb_ret (je_tupL (xs := l_22.map (eP2 PyData.int (eO PyData.int))) rfl X.m_tuple (je_varB 3)) (by walk_at "le")

def apart_c_8 (places_0 : Int) (l_3 : Int) : Bool :=
  ((decide (l_3 < places_0)) && (decide ((1 : Int) < (pyMin PyData.int (((nearest places_0 (l_3 + (1 : Int))).map fun x_4 : (Int × (Option Int)) => x_4.2).map unO)))))
def apart_c_8_ok (places_0 : Int) (l_3 : Int) : Prop :=
  ((decide (l_3 < places_0)) = true → (nearest_ok places_0 (l_3 + (1 : Int))) ∧ (∀ x ∈ ((nearest places_0 (l_3 + (1 : Int))).map fun x_4 : (Int × (Option Int)) => x_4.2), x.isSome = true) ∧ ((((nearest places_0 (l_3 + (1 : Int))).map fun x_4 : (Int × (Option Int)) => x_4.2).map unO) ≠ []))
def apart_s_11 (l_3 : Int) : Int :=
  Let ((l_3 + (1 : Int)) : Int) fun guests_10 =>
  guests_10
def apart_s_11_ok (l_3 : Int) : Prop :=
  Let ((l_3 + (1 : Int)) : Int) fun guests_10 =>
  True
def apart (places_0 : Int) : Int :=
  Let ((1 : Int) : Int) fun guests_2 =>
  Let (whileL (apart_c_8 places_0) (apart_s_11) J.fuel guests_2 : Int) fun l_18 =>
  l_18
def apart_ok (places_0 : Int) : Prop :=
  Let ((1 : Int) : Int) fun guests_2 =>
  whileEnds (ρ := PyData) (apart_c_8 places_0) (fun l => .inl (apart_s_11 l)) J.fuel guests_2 ∧
  (∀ l_3 : Int, Reach (ρ := PyData) (apart_c_8 places_0) (fun l => .inl (apart_s_11 l)) guests_2 l_3 → apart_c_8_ok places_0 l_3) ∧
  (∀ l_3 : Int, Reach (ρ := PyData) (apart_c_8 places_0) (fun l => .inl (apart_s_11 l)) guests_2 l_3 → apart_c_8 places_0 l_3 = true → apart_s_11_ok l_3) ∧
  Let (whileL (apart_c_8 places_0) (apart_s_11) J.fuel guests_2 : Int) fun l_18 =>
  True
abbrev N_apart : List Str := ["places", "guests", "_", "far"]
theorem sc_apart : FnScope N_apart ["places"] (defScope (topS 12)) := ⟨rfl, rfl, rfl, by decide +kernel, rfl, by decide +kernel, by decide +kernel⟩
theorem ok_apart (X : Txt K mg) : FnOk P w K mg base CX0 4 X.f_apart X.d_apart ["places"] (SpD K (fun a : Int => apart_ok a) (fun a => [PyData.int a]) (fun a => PyData.int (apart a))) := by
  refine fn_ok (A := Int) (args := fun a => [PyData.int a]) X.o_apart.F sc_apart PyData.int (fun a => apart a) (fun _ => rfl) (by decide) ?_
  intro places_0 hok hlen
  have nd : (tc P w K mg base N_apart (topS 12) 3).N.Nodup := sc_apart.nd
  show JB (tc P w K mg base N_apart (topS 12) 3) PyData.int (fun _ => uE N_apart) _ [.d (PyData.int places_0), .u, .u, .u] (apart places_0)
  have hok : apart_ok places_0 := hok
  unfold apart_ok at hok
  unfold apart
  refine jb_cons (js_set 1 nd je_int) ?_
  refine jb_let (F := fun guests_2 : Int => [.d (PyData.int places_0), .d (PyData.int guests_2), .u, .u]) (v := ((1 : Int) : Int)) fun guests_2 e_guests_2 => ?_
  have hok := let_ok hok guests_2 e_guests_2
  obtain ⟨he_12, ht_13, hb_14, hok⟩ := hok
  refine jb_cons (js_whileN (fun l : Int => [.d (PyData.int places_0), .d (PyData.int l), .u, .u]) (apart_c_8 places_0) (apart_s_11) J.fuel guests_2 (by walk_at "le") he_12 (fun l_3 hr_15 => ?_) (fun l_3 hr_15 hc_16 => ?_)) ?_
  · have hs_17 := ht_13 l_3 hr_15
    unfold apart_c_8_ok at hs_17
    unfold apart_c_8
    exact (jt_w (jw_and (jt_c (cj_lt (j2d (je_var 1) (je_var 0)))) (fun hc_7 => (jw_and1 (jt_c (cj_gt (j2d (je_minL (enc := PyData.int) rfl X.m_min (je_unLb (enc := PyData.int) (je_fb (je_lc0 (enc := (eP2 PyData.int (eO PyData.int))) (dec := (eO PyData.int)) [("_", 2), ("far", 3)] (fun x_4 : (Int × (Option Int)) => x_4.2) (ji_tup (je_call' (d := (eT (eP2 PyData.int (eO PyData.int))) (nearest places_0 (l_3 + (1 : Int)))) (ok_nearest X) (places_0, (l_3 + (1 : Int))) X.o_nearest.m X.o_nearest.F.kp X.o_nearest.b (ja_cons (je_var 0) (ja_cons (je_add (j2d (je_var 1) je_int)) ja_nil)) (hs_17 hc_7).1)) (by exact nd) rfl (unk_of rfl) (fun x_4 hx_5 => lcp (js := [2, 3]) (E1 := [.d (PyData.int places_0), .d (PyData.int l_3), .d (PyData.int x_4.1), .d ((eO PyData.int) x_4.2)]) (by simp) (jg_tup (jgs_cons (jg_name 2 (by exact nd)) (jgs_cons (jg_name 3 (by exact nd)) jgs_nil))) jts_nil (by walk_at "le") fun hc_6 => (je_var 3)))) (hs_17 hc_7).2.1) alk_int (hs_17 hc_7).2.2) je_int)))))))
  · have hok := hb_14 l_3 hr_15 hc_16
    unfold apart_s_11_ok at hok
    unfold apart_s_11
    refine jn_cons (js_set 1 nd (je_add (j2d (je_var 1) je_int))) ?_
    refine jn_let (F := fun guests_10 : Int => [.d (PyData.int places_0), .d (PyData.int guests_10), .u, .u]) (v := ((l_3 + (1 : Int)) : Int)) fun guests_10 e_guests_10 => ?_
    have hok := let_ok hok guests_10 e_guests_10
    exact jn_nil (by walk_at "le")
  refine jb_let (F := fun l : Int => [.d (PyData.int places_0), .d (PyData.int l), .u, .u]) fun l_18 e_l_18 => ?_
  have hok := let_ok hok l_18 e_l_18
  have hs_19 := hok
  exact jb_ret (je_var 1) (by walk_at "le")

def law_saved (vouchers_0 : (List (Str × Int × Int))) (bills_0 : (List (Int × Int))) (row_0 : (List (Option Int))) : Int :=
  ((rgI 0 (bills_0.length : Int)).map fun x_1 : Int => (min (gI bills_0 x_1).2 (((rgI 0 (row_0.length : Int)).filter fun x_2 : Int => (decide (((gI row_0 x_2) : (Option Int)) = (some x_1)))).map fun x_2 : Int => (gI vouchers_0 x_2).2.1).sum)).sum
def law_saved_ok (vouchers_0 : (List (Str × Int × Int))) (bills_0 : (List (Int × Int))) (row_0 : (List (Option Int))) : Prop :=
  (rg1 (bills_0.length : Int)) ∧ (∀ x_1 : Int, x_1 ∈ (rgI 0 (bills_0.length : Int)) → (inR bills_0.length x_1) ∧ (rg1 (row_0.length : Int)) ∧ (∀ x_2 : Int, x_2 ∈ (rgI 0 (row_0.length : Int)) → (inR row_0.length x_2) ∧ ((decide (((gI row_0 x_2) : (Option Int)) = (some x_1))) = true → (inR vouchers_0.length x_2))))
abbrev N_law_saved : List Str := ["vouchers", "bills", "row", "k", "j"]
theorem sc_law_saved : FnScope N_law_saved ["vouchers", "bills", "row"] (defScope (topS 17)) := ⟨rfl, rfl, rfl, by decide +kernel, rfl, by decide +kernel, by decide +kernel⟩
theorem ok_law_saved (X : Txt K mg) : FnOk P w K mg base CX0 1 X.f_law_saved X.d_law_saved ["vouchers", "bills", "row"] (SpD K (fun a : (List (Str × Int × Int)) × (List (Int × Int)) × (List (Option Int)) => law_saved_ok a.1 a.2.1 a.2.2) (fun a => [(eT (eP3 PyData.str PyData.int PyData.int)) a.1, (eT (eP2 PyData.int PyData.int)) a.2.1, (eT (eO PyData.int)) a.2.2]) (fun a => PyData.int (law_saved a.1 a.2.1 a.2.2))) := by
  refine fn_ok (A := (List (Str × Int × Int)) × (List (Int × Int)) × (List (Option Int))) (args := fun a => [(eT (eP3 PyData.str PyData.int PyData.int)) a.1, (eT (eP2 PyData.int PyData.int)) a.2.1, (eT (eO PyData.int)) a.2.2]) X.o_law_saved.F sc_law_saved PyData.int (fun a => law_saved a.1 a.2.1 a.2.2) (fun _ => rfl) (by decide) ?_
  rintro ⟨vouchers_0, bills_0, row_0⟩ hok hlen
  have nd : (tc P w K mg base N_law_saved (topS 17) 0).N.Nodup := sc_law_saved.nd
  show JB (tc P w K mg base N_law_saved (topS 17) 0) PyData.int (fun _ => uE N_law_saved) _ [.d ((eT (eP3 PyData.str PyData.int PyData.int)) vouchers_0), .d ((eT (eP2 PyData.int PyData.int)) bills_0), .d ((eT (eO PyData.int)) row_0), .u, .u] (law_saved vouchers_0 bills_0 row_0)
  have hok : law_saved_ok vouchers_0 bills_0 row_0 := hok
  unfold law_saved_ok at hok
  unfold law_saved
  have hs_7 := hok
  exact jb_ret (je_sum rfl X.m_sum (je_fb (je_lc0 (enc := PyData.int) (dec := PyData.int) [("k", 3)] (fun x_1 : Int => (min (gI bills_0 x_1).2 (((rgI 0 (row_0.length : Int)).filter fun x_2 : Int => (decide (((gI row_0 x_2) : (Option Int)) = (some x_1)))).map fun x_2 : Int => (gI vouchers_0 x_2).2.1).sum)) (ji_range1 rfl X.m_range (je_lenT' rfl X.m_len (je_b (je_var 1))) hs_7.1) (by exact nd) rfl (unk_of rfl) (fun x_1 hx_5 => lcp (js := [3]) (E1 := [.d ((eT (eP3 PyData.str PyData.int PyData.int)) vouchers_0), .d ((eT (eP2 PyData.int PyData.int)) bills_0), .d ((eT (eO PyData.int)) row_0), .d (PyData.int x_1), .u]) (by simp) (jg_name 3 (by exact nd)) jts_nil (by walk_at "le") fun hc_6 => (je_min2 rfl X.m_min (ja_cons (je_ixT (z := PyData.int (gI bills_0 x_1).2) (j2d (je_ixT' (enc := (eP2 PyData.int PyData.int)) (j2d (je_var 1) (je_var 3)) (hs_7.2 x_1 hx_5).1) je_int) rfl) (ja_cons (je_sum rfl X.m_sum (je_fb (je_lc1 (enc := PyData.int) (dec := PyData.int) [("j", 4)] (fun x_2 : Int => (decide (((gI row_0 x_2) : (Option Int)) = (some x_1)))) (fun x_2 : Int => (gI vouchers_0 x_2).2.1) (ji_range1 rfl X.m_range (je_lenT' rfl X.m_len (je_b (je_var 2))) (hs_7.2 x_1 hx_5).2.1) (by exact nd) rfl (unk_of rfl) (fun x_2 hx_3 => lcp (js := [4]) (E1 := [.d ((eT (eP3 PyData.str PyData.int PyData.int)) vouchers_0), .d ((eT (eP2 PyData.int PyData.int)) bills_0), .d ((eT (eO PyData.int)) row_0), .d (PyData.int x_1), .d (PyData.int x_2)]) (by simp) (jg_name 4 (by exact nd)) (jts_one (jt_c (cj_eqE (enc := (eO PyData.int)) (x := (gI row_0 x_2)) (y := (some x_1)) (j2d (je_ixT' (enc := (eO PyData.int)) (j2d (je_var 2) (je_var 4)) ((hs_7.2 x_1 hx_5).2.2 x_2 hx_3).1) (je_var 3)) (sh_o sh_int) (eqe_o eqe_int (fun _ => ⟨by rfl, by rfl⟩))))) (by walk_at "le") fun hc_4 => (je_ixT (z := PyData.int (gI vouchers_0 x_2).2.1) (j2d (je_ixT' (enc := (eP3 PyData.str PyData.int PyData.int)) (j2d (je_var 0) (je_var 4)) (((hs_7.2 x_1 hx_5).2.2 x_2 hx_3).2 hc_4)) je_int) rfl))))) ja_nil))))))) (by walk_at "le")

def saved_s_12 (vouchers_0 : (List (Str × Int × Int))) (use_0 : (List (Option Int))) (l_4 : Int) (x_5 : (Int × (Int × Int))) : Int :=
  Let ((l_4 + (min x_5.2.2 (((vouchers_0.zip use_0).filter fun x_6 : ((Str × Int × Int) × (Option Int)) => (decide ((x_6.2 : (Option Int)) = (some x_5.1)))).map fun x_6 : ((Str × Int × Int) × (Option Int)) => x_6.1.2.1).sum)) : Int) fun found_10 =>
  found_10
def saved_s_12_ok (vouchers_0 : (List (Str × Int × Int))) (use_0 : (List (Option Int))) (l_4 : Int) (x_5 : (Int × (Int × Int))) : Prop :=
  Let ((l_4 + (min x_5.2.2 (((vouchers_0.zip use_0).filter fun x_6 : ((Str × Int × Int) × (Option Int)) => (decide ((x_6.2 : (Option Int)) = (some x_5.1)))).map fun x_6 : ((Str × Int × Int) × (Option Int)) => x_6.1.2.1).sum)) : Int) fun found_10 =>
  True
def saved (vouchers_0 : (List (Str × Int × Int))) (bills_0 : (List (Int × Int))) (use_0 : (List (Option Int))) : Int :=
  Let ((0 : Int) : Int) fun found_2 =>
  Let ((enumL bills_0).foldl (saved_s_12 vouchers_0 use_0) found_2 : Int) fun l_17 =>
  l_17
def saved_ok (vouchers_0 : (List (Str × Int × Int))) (bills_0 : (List (Int × Int))) (use_0 : (List (Option Int))) : Prop :=
  Let ((0 : Int) : Int) fun found_2 =>
  (∀ (i_15 : Nat) (x_5 : (Int × (Int × Int))) (l_4 : Int), (enumL bills_0)[i_15]? = some x_5 → l_4 = ((enumL bills_0).take i_15).foldl (saved_s_12 vouchers_0 use_0) found_2 → saved_s_12_ok vouchers_0 use_0 l_4 x_5) ∧
  Let ((enumL bills_0).foldl (saved_s_12 vouchers_0 use_0) found_2 : Int) fun l_17 =>
  True
abbrev N_saved : List Str := ["vouchers", "bills", "use", "found", "number", "_", "coins", "voucher", "bill"]
theorem sc_saved : FnScope N_saved ["vouchers", "bills", "use"] (defScope (topS 6)) := ⟨rfl, rfl, rfl, by decide +kernel, rfl, by decide +kernel, by decide +kernel⟩
theorem ok_saved (X : Txt K mg) : FnOk P w K mg base CX0 1 X.f_saved X.d_saved ["vouchers", "bills", "use"] (SpD K (fun a : (List (Str × Int × Int)) × (List (Int × Int)) × (List (Option Int)) => saved_ok a.1 a.2.1 a.2.2) (fun a => [(eT (eP3 PyData.str PyData.int PyData.int)) a.1, (eT (eP2 PyData.int PyData.int)) a.2.1, (eT (eO PyData.int)) a.2.2]) (fun a => PyData.int (saved a.1 a.2.1 a.2.2))) := by
  refine fn_ok (A := (List (Str × Int × Int)) × (List (Int × Int)) × (List (Option Int))) (args := fun a => [(eT (eP3 PyData.str PyData.int PyData.int)) a.1, (eT (eP2 PyData.int PyData.int)) a.2.1, (eT (eO PyData.int)) a.2.2]) X.o_saved.F sc_saved PyData.int (fun a => saved a.1 a.2.1 a.2.2) (fun _ => rfl) (by decide) ?_
  rintro ⟨vouchers_0, bills_0, use_0⟩ hok hlen
  have nd : (tc P w K mg base N_saved (topS 6) 0).N.Nodup := sc_saved.nd
  show JB (tc P w K mg base N_saved (topS 6) 0) PyData.int (fun _ => uE N_saved) _ [.d ((eT (eP3 PyData.str PyData.int PyData.int)) vouchers_0), .d ((eT (eP2 PyData.int PyData.int)) bills_0), .d ((eT (eO PyData.int)) use_0), .u, .u, .u, .u, .u, .u] (saved vouchers_0 bills_0 use_0)
  have hok : saved_ok vouchers_0 bills_0 use_0 := hok
  unfold saved_ok at hok
  unfold saved
  refine jb_cons (js_set 3 nd je_int) ?_
  refine jb_let (F := fun found_2 : Int => [.d ((eT (eP3 PyData.str PyData.int PyData.int)) vouchers_0), .d ((eT (eP2 PyData.int PyData.int)) bills_0), .d ((eT (eO PyData.int)) use_0), .d (PyData.int found_2), .u, .u, .u, .u, .u]) (v := ((0 : Int) : Int)) fun found_2 e_found_2 => ?_
  have hok := let_ok hok found_2 e_found_2
  obtain ⟨hf_16, hok⟩ := hok
  refine jb_cons (js_forN (enc := (eP2 PyData.int (eP2 PyData.int PyData.int))) (fun l : Int => [.d ((eT (eP3 PyData.str PyData.int PyData.int)) vouchers_0), .d ((eT (eP2 PyData.int PyData.int)) bills_0), .d ((eT (eO PyData.int)) use_0), .d (PyData.int l), .u, .u, .u, .u, .u]) (saved_s_12 vouchers_0 use_0) found_2 (ji_enumT' rfl X.m_enumerate (je_var 1)) (by walk_at "le") (fun i_15 x_5 l_4 hx_13 hl_14 => ?_)) ?_
  · have hok := hf_16 i_15 x_5 l_4 hx_13 hl_14
    unfold saved_s_12_ok at hok
    unfold saved_s_12
    refine ⟨[4, 5, 6], [.d ((eT (eP3 PyData.str PyData.int PyData.int)) vouchers_0), .d ((eT (eP2 PyData.int PyData.int)) bills_0), .d ((eT (eO PyData.int)) use_0), .d (PyData.int l_4), .d (PyData.int x_5.1), .d (PyData.int x_5.2.1), .d (PyData.int x_5.2.2), .u, .u], (jg_tup (jgs_cons (jg_name 4 (by exact nd)) (jgs_cons (jg_tup (jgs_cons (jg_name 5 (by exact nd)) (jgs_cons (jg_name 6 (by exact nd)) jgs_nil))) jgs_nil))), ?_⟩
    refine jn_cons (js_set 3 nd (je_add (j2d (je_var 3) (je_min2 rfl X.m_min (ja_cons (je_var 6) (ja_cons (je_sum rfl X.m_sum (je_fb (je_lc1 (enc := (eP2 (eP3 PyData.str PyData.int PyData.int) (eO PyData.int))) (dec := PyData.int) [("voucher", 7), ("bill", 8)] (fun x_6 : ((Str × Int × Int) × (Option Int)) => (decide ((x_6.2 : (Option Int)) = (some x_5.1)))) (fun x_6 : ((Str × Int × Int) × (Option Int)) => x_6.1.2.1) (ji_zipT' rfl X.m_zip (ja_cons (je_var 0) (ja_cons (je_var 2) ja_nil))) (by exact nd) rfl (unk_of rfl) (fun x_6 hx_7 => lcp (js := [7, 8]) (E1 := [.d ((eT (eP3 PyData.str PyData.int PyData.int)) vouchers_0), .d ((eT (eP2 PyData.int PyData.int)) bills_0), .d ((eT (eO PyData.int)) use_0), .d (PyData.int l_4), .d (PyData.int x_5.1), .d (PyData.int x_5.2.1), .d (PyData.int x_5.2.2), .d ((eP3 PyData.str PyData.int PyData.int) x_6.1), .d ((eO PyData.int) x_6.2)]) (by simp) (jg_tup (jgs_cons (jg_name 7 (by exact nd)) (jgs_cons (jg_name 8 (by exact nd)) jgs_nil))) (jts_one (jt_c (cj_eqE (enc := (eO PyData.int)) (x := x_6.2) (y := (some x_5.1)) (j2d (je_var 8) (je_var 4)) (sh_o sh_int) (eqe_o eqe_int (fun _ => ⟨by rfl, by rfl⟩))))) (by walk_at "le") fun hc_8 => (je_ixT (z := PyData.int x_6.1.2.1) (j2d (je_var 7) je_int) rfl))))) ja_nil)))))) ?_
    refine jn_let (F := fun found_10 : Int => [.d ((eT (eP3 PyData.str PyData.int PyData.int)) vouchers_0), .d ((eT (eP2 PyData.int PyData.int)) bills_0), .d ((eT (eO PyData.int)) use_0), .d (PyData.int found_10), .d (PyData.int x_5.1), .d (PyData.int x_5.2.1), .d (PyData.int x_5.2.2), .u, .u]) (v := ((l_4 + (min x_5.2.2 (((vouchers_0.zip use_0).filter fun x_6 : ((Str × Int × Int) × (Option Int)) => (decide ((x_6.2 : (Option Int)) = (some x_5.1)))).map fun x_6 : ((Str × Int × Int) × (Option Int)) => x_6.1.2.1).sum)) : Int)) fun found_10 e_found_10 => ?_
    have hok := let_ok hok found_10 e_found_10
    exact jn_nil (by walk_at "le")
  refine jb_let (F := fun l : Int => [.d ((eT (eP3 PyData.str PyData.int PyData.int)) vouchers_0), .d ((eT (eP2 PyData.int PyData.int)) bills_0), .d ((eT (eO PyData.int)) use_0), .d (PyData.int l), .u, .u, .u, .u, .u]) fun l_17 e_l_17 => ?_
  have hok := let_ok hok l_17 e_l_17
  have hs_18 := hok
  exact jb_ret (je_var 3) (by walk_at "le")

def best_use_s_19 (bills_0 : (List (Int × Int))) (x_5 : (Str × Int × Int)) (l_9 : (List (List (Option Int)))) (x_10 : (List (Option Int))) : (List (List (Option Int))) :=
  Let ((l_9 ++ (((rgI 0 (bills_0.length : Int)).filter fun x_11 : Int => (decide ((gI bills_0 x_11).1 ≤ x_5.2.2))).map fun x_11 : Int => (x_10 ++ ([(some x_11)] : (List (Option Int)))))) : (List (List (Option Int)))) fun longer_15 =>
  Let ((longer_15 ++ [(x_10 ++ ([(none : (Option Int))] : (List (Option Int))))]) : (List (List (Option Int)))) fun longer_17 =>
  longer_17
def best_use_s_19_ok (bills_0 : (List (Int × Int))) (x_5 : (Str × Int × Int)) (l_9 : (List (List (Option Int)))) (x_10 : (List (Option Int))) : Prop :=
  ((rg1 (bills_0.length : Int)) ∧ (∀ x_11 : Int, x_11 ∈ (rgI 0 (bills_0.length : Int)) → (inR bills_0.length x_11) ∧ ((decide ((gI bills_0 x_11).1 ≤ x_5.2.2)) = true → (x_10.length + ([(some x_11)] : (List (Option Int))).length ≤ LN))) ∧ (l_9.length + (((rgI 0 (bills_0.length : Int)).filter fun x_11 : Int => (decide ((gI bills_0 x_11).1 ≤ x_5.2.2))).map fun x_11 : Int => (x_10 ++ ([(some x_11)] : (List (Option Int))))).length ≤ LN)) ∧
  Let ((l_9 ++ (((rgI 0 (bills_0.length : Int)).filter fun x_11 : Int => (decide ((gI bills_0 x_11).1 ≤ x_5.2.2))).map fun x_11 : Int => (x_10 ++ ([(some x_11)] : (List (Option Int)))))) : (List (List (Option Int)))) fun longer_15 =>
  ((x_10.length + ([(none : (Option Int))] : (List (Option Int))).length ≤ LN) ∧ (longer_15.length < LN)) ∧
  Let ((longer_15 ++ [(x_10 ++ ([(none : (Option Int))] : (List (Option Int))))]) : (List (List (Option Int)))) fun longer_17 =>
  True
def best_use_s_28 (bills_0 : (List (Int × Int))) (l_4 : (List (List (Option Int)))) (x_5 : (Str × Int × Int)) : (List (List (Option Int))) :=
  Let (([] : (List (List (Option Int)))) : (List (List (Option Int)))) fun longer_7 =>
  Let (l_4.foldl (best_use_s_19 bills_0 x_5) longer_7 : (List (List (Option Int)))) fun l_24 =>
  Let (l_24 : (List (List (Option Int)))) fun rows_26 =>
  rows_26
def best_use_s_28_ok (bills_0 : (List (Int × Int))) (l_4 : (List (List (Option Int)))) (x_5 : (Str × Int × Int)) : Prop :=
  Let (([] : (List (List (Option Int)))) : (List (List (Option Int)))) fun longer_7 =>
  (∀ (i_22 : Nat) (x_10 : (List (Option Int))) (l_9 : (List (List (Option Int)))), l_4[i_22]? = some x_10 → l_9 = (l_4.take i_22).foldl (best_use_s_19 bills_0 x_5) longer_7 → best_use_s_19_ok bills_0 x_5 l_9 x_10) ∧
  Let (l_4.foldl (best_use_s_19 bills_0 x_5) longer_7 : (List (List (Option Int)))) fun l_24 =>
  Let (l_24 : (List (List (Option Int)))) fun rows_26 =>
  True
def best_use_t_49 (x_38 : (List (Option Int))) (told_43 : (Int × Int)) : (Option ((Int × Int) × (List (Option Int)))) :=
  Let ((some (told_43, x_38)) : (Option ((Int × Int) × (List (Option Int))))) fun best_48 =>
  best_48
def best_use_t_49_ok (x_38 : (List (Option Int))) (told_43 : (Int × Int)) : Prop :=
  Let ((some (told_43, x_38)) : (Option ((Int × Int) × (List (Option Int))))) fun best_48 =>
  True
def best_use_e_50 (l_37 : (Option ((Int × Int) × (List (Option Int))))) : (Option ((Int × Int) × (List (Option Int)))) :=
  l_37
def best_use_e_50_ok (l_37 : (Option ((Int × Int) × (List (Option Int))))) : Prop :=
  True
def best_use_s_55 (vouchers_0 : (List (Str × Int × Int))) (bills_0 : (List (Int × Int))) (l_37 : (Option ((Int × Int) × (List (Option Int))))) (x_38 : (List (Option Int))) : (Option ((Int × Int) × (List (Option Int)))) :=
  Let (((-(saved vouchers_0 bills_0 x_38)), (((x_38.filter fun x_39 : (Option Int) => (!x_39.isNone)).map fun x_39 : (Option Int) => (1 : Int)).length : Int)) : (Int × Int)) fun told_43 =>
  Let (if (l_37.isNone || (ltB (eP2 PyData.int PyData.int) told_43 (unO l_37).1)) = true then best_use_t_49 x_38 told_43 else best_use_e_50 l_37 : (Option ((Int × Int) × (List (Option Int))))) fun l_51 =>
  l_51
def best_use_s_55_ok (vouchers_0 : (List (Str × Int × Int))) (bills_0 : (List (Int × Int))) (l_37 : (Option ((Int × Int) × (List (Option Int))))) (x_38 : (List (Option Int))) : Prop :=
  ((saved_ok vouchers_0 bills_0 x_38)) ∧
  Let (((-(saved vouchers_0 bills_0 x_38)), (((x_38.filter fun x_39 : (Option Int) => (!x_39.isNone)).map fun x_39 : (Option Int) => (1 : Int)).length : Int)) : (Int × Int)) fun told_43 =>
  ((l_37.isNone = false → (l_37.isSome = true))) ∧
  ((l_37.isNone || (ltB (eP2 PyData.int PyData.int) told_43 (unO l_37).1)) = true → best_use_t_49_ok x_38 told_43) ∧
  ((l_37.isNone || (ltB (eP2 PyData.int PyData.int) told_43 (unO l_37).1)) = false → best_use_e_50_ok l_37) ∧
  Let (if (l_37.isNone || (ltB (eP2 PyData.int PyData.int) told_43 (unO l_37).1)) = true then best_use_t_49 x_38 told_43 else best_use_e_50 l_37 : (Option ((Int × Int) × (List (Option Int))))) fun l_51 =>
  True
def best_use (vouchers_0 : (List (Str × Int × Int))) (bills_0 : (List (Int × Int))) : (Int × (List (Option Int))) :=
  Let (([([] : (List (Option Int)))] : (List (List (Option Int)))) : (List (List (Option Int)))) fun rows_2 =>
  Let (vouchers_0.foldl (best_use_s_28 bills_0) rows_2 : (List (List (Option Int)))) fun l_33 =>
  Let ((none : (Option ((Int × Int) × (List (Option Int))))) : (Option ((Int × Int) × (List (Option Int))))) fun best_35 =>
  Let (l_33.foldl (best_use_s_55 vouchers_0 bills_0) best_35 : (Option ((Int × Int) × (List (Option Int))))) fun l_60 =>
  ((-(unO l_60).1.1), (unO l_60).2)
def best_use_ok (vouchers_0 : (List (Str × Int × Int))) (bills_0 : (List (Int × Int))) : Prop :=
  Let (([([] : (List (Option Int)))] : (List (List (Option Int)))) : (List (List (Option Int)))) fun rows_2 =>
  (∀ (i_31 : Nat) (x_5 : (Str × Int × Int)) (l_4 : (List (List (Option Int)))), vouchers_0[i_31]? = some x_5 → l_4 = (vouchers_0.take i_31).foldl (best_use_s_28 bills_0) rows_2 → best_use_s_28_ok bills_0 l_4 x_5) ∧
  Let (vouchers_0.foldl (best_use_s_28 bills_0) rows_2 : (List (List (Option Int)))) fun l_33 =>
  Let ((none : (Option ((Int × Int) × (List (Option Int))))) : (Option ((Int × Int) × (List (Option Int))))) fun best_35 =>
  (∀ (i_58 : Nat) (x_38 : (List (Option Int))) (l_37 : (Option ((Int × Int) × (List (Option Int))))), l_33[i_58]? = some x_38 → l_37 = (l_33.take i_58).foldl (best_use_s_55 vouchers_0 bills_0) best_35 → best_use_s_55_ok vouchers_0 bills_0 l_37 x_38) ∧
  Let (l_33.foldl (best_use_s_55 vouchers_0 bills_0) best_35 : (Option ((Int × Int) × (List (Option Int))))) fun l_60 =>
  (l_60.isSome = true) ∧ (l_60.isSome = true)
abbrev N_best_use : List Str := ["vouchers", "bills", "rows", "voucher", "longer", "row", "best", "told", "bill"]
theorem sc_best_use : FnScope N_best_use ["vouchers", "bills"] (defScope (topS 7)) := ⟨rfl, rfl, rfl, by decide +kernel, rfl, by decide +kernel, by decide +kernel⟩
theorem ok_best_use (X : Txt K mg) : FnOk P w K mg base CX0 2 X.f_best_use X.d_best_use ["vouchers", "bills"] (SpD K (fun a : (List (Str × Int × Int)) × (List (Int × Int)) => best_use_ok a.1 a.2) (fun a => [(eT (eP3 PyData.str PyData.int PyData.int)) a.1, (eT (eP2 PyData.int PyData.int)) a.2]) (fun a => (eP2 PyData.int (eT (eO PyData.int))) (best_use a.1 a.2))) := by
  refine fn_ok (A := (List (Str × Int × Int)) × (List (Int × Int))) (args := fun a => [(eT (eP3 PyData.str PyData.int PyData.int)) a.1, (eT (eP2 PyData.int PyData.int)) a.2]) X.o_best_use.F sc_best_use (eP2 PyData.int (eT (eO PyData.int))) (fun a => best_use a.1 a.2) (fun _ => rfl) (by decide) ?_
  rintro ⟨vouchers_0, bills_0⟩ hok hlen
  have nd : (tc P w K mg base N_best_use (topS 7) 1).N.Nodup := sc_best_use.nd
  show JB (tc P w K mg base N_best_use (topS 7) 1) (eP2 PyData.int (eT (eO PyData.int))) (fun _ => uE N_best_use) _ [.d ((eT (eP3 PyData.str PyData.int PyData.int)) vouchers_0), .d ((eT (eP2 PyData.int PyData.int)) bills_0), .u, .u, .u, .u, .u, .u, .u] (best_use vouchers_0 bills_0)
  have hok : best_use_ok vouchers_0 bills_0 := hok
  unfold best_use_ok at hok
  unfold best_use
  refine jb_cons (js_set 2 nd (je_fz (je_lst (ja_cons (je_tup ja_nil) ja_nil)))) ?_
  refine jb_let (F := fun rows_2 : (List (List (Option Int))) => [.d ((eT (eP3 PyData.str PyData.int PyData.int)) vouchers_0), .d ((eT (eP2 PyData.int PyData.int)) bills_0), .d ((eL (eT (eO PyData.int))) rows_2), .u, .u, .u, .u, .u, .u]) (v := (([([] : (List (Option Int)))] : (List (List (Option Int)))) : (List (List (Option Int))))) fun rows_2 e_rows_2 => ?_
  have hok := let_ok hok rows_2 e_rows_2
  obtain ⟨hf_32, hok⟩ := hok
  refine jb_cons (js_forN (enc := (eP3 PyData.str PyData.int PyData.int)) (fun l : (List (List (Option Int))) => [.d ((eT (eP3 PyData.str PyData.int PyData.int)) vouchers_0), .d ((eT (eP2 PyData.int PyData.int)) bills_0), .d ((eL (eT (eO PyData.int))) l), .u, .u, .u, .u, .u, .u]) (best_use_s_28 bills_0) rows_2 (ji_tup (je_var 0)) (by walk_at "le") (fun i_31 x_5 l_4 hx_29 hl_30 => ?_)) ?_
  · have hok := hf_32 i_31 x_5 l_4 hx_29 hl_30
    unfold best_use_s_28_ok at hok
    unfold best_use_s_28
    refine ⟨[3], [.d ((eT (eP3 PyData.str PyData.int PyData.int)) vouchers_0), .d ((eT (eP2 PyData.int PyData.int)) bills_0), .d ((eL (eT (eO PyData.int))) l_4), .d ((eP3 PyData.str PyData.int PyData.int) x_5), .u, .u, .u, .u, .u], (jg_name 3 (by exact nd)), ?_⟩
    refine jn_cons (js_setO 4 nd (je_lst ja_nil)) ?_
    refine jn_let (F := fun longer_7 : (List (List (Option Int))) => [.d ((eT (eP3 PyData.str PyData.int PyData.int)) vouchers_0), .d ((eT (eP2 PyData.int PyData.int)) bills_0), .d ((eL (eT (eO PyData.int))) l_4), .d ((eP3 PyData.str PyData.int PyData.int) x_5), .o none ((eL (eT (eO PyData.int))) longer_7), .u, .u, .u, .u]) (v := (([] : (List (List (Option Int)))) : (List (List (Option Int))))) fun longer_7 e_longer_7 => ?_
    have hok := let_ok hok longer_7 e_longer_7
    obtain ⟨hf_23, hok⟩ := hok
    refine jn_cons (js_forN (enc := (eT (eO PyData.int))) (fun l : (List (List (Option Int))) => [.d ((eT (eP3 PyData.str PyData.int PyData.int)) vouchers_0), .d ((eT (eP2 PyData.int PyData.int)) bills_0), .d ((eL (eT (eO PyData.int))) l_4), .d ((eP3 PyData.str PyData.int PyData.int) x_5), .o none ((eL (eT (eO PyData.int))) l), .u, .u, .u, .u]) (best_use_s_19 bills_0 x_5) longer_7 (ji_list (je_var 2)) (by walk_at "le") (fun i_22 x_10 l_9 hx_20 hl_21 => ?_)) ?_
    · have hok := hf_23 i_22 x_10 l_9 hx_20 hl_21
      unfold best_use_s_19_ok at hok
      unfold best_use_s_19
      refine ⟨[5], [.d ((eT (eP3 PyData.str PyData.int PyData.int)) vouchers_0), .d ((eT (eP2 PyData.int PyData.int)) bills_0), .d ((eL (eT (eO PyData.int))) l_4), .d ((eP3 PyData.str PyData.int PyData.int) x_5), .o none ((eL (eT (eO PyData.int))) l_9), .d ((eT (eO PyData.int)) x_10), .u, .u, .u], (jg_name 5 (by exact nd)), ?_⟩
      obtain ⟨hs_14, hok⟩ := hok
      refine jn_cons (js_expr (je_extend (enc := (eT (eO PyData.int))) (xs := l_9) (zs := (((rgI 0 (bills_0.length : Int)).filter fun x_11 : Int => (decide ((gI bills_0 x_11).1 ≤ x_5.2.2))).map fun x_11 : Int => (x_10 ++ ([(some x_11)] : (List (Option Int)))))) 4 (je_fb (je_lc1 (enc := PyData.int) (dec := (eT (eO PyData.int))) [("bill", 8)] (fun x_11 : Int => (decide ((gI bills_0 x_11).1 ≤ x_5.2.2))) (fun x_11 : Int => (x_10 ++ ([(some x_11)] : (List (Option Int))))) (ji_range1 rfl X.m_range (je_lenT' rfl X.m_len (je_b (je_var 1))) hs_14.1) (by exact nd) rfl (unk_of rfl) (fun x_11 hx_12 => lcp (js := [8]) (E1 := [.d ((eT (eP3 PyData.str PyData.int PyData.int)) vouchers_0), .d ((eT (eP2 PyData.int PyData.int)) bills_0), .d ((eL (eT (eO PyData.int))) l_4), .d ((eP3 PyData.str PyData.int PyData.int) x_5), .o none ((eL (eT (eO PyData.int))) l_9), .d ((eT (eO PyData.int)) x_10), .u, .u, .d (PyData.int x_11)]) (by simp) (jg_name 8 (by exact nd)) (jts_one (jt_c (cj_le (j2d (je_ixT (z := PyData.int (gI bills_0 x_11).1) (j2d (je_ixT' (enc := (eP2 PyData.int PyData.int)) (j2d (je_var 1) (je_var 8)) (hs_14.2.1 x_11 hx_12).1) je_int) rfl) (je_ixT (z := PyData.int x_5.2.2) (j2d (je_var 3) je_int) rfl))))) (by walk_at "le") fun hc_13 => (je_catT' (enc := (eO PyData.int)) (j2d (je_var 5) (je_tup (ja_cons (je_var 8) ja_nil))) ((hs_14.2.1 x_11 hx_12).2 hc_13))))) hs_14.2.2)) ?_
      refine jn_let (F := fun longer_15 : (List (List (Option Int))) => [.d ((eT (eP3 PyData.str PyData.int PyData.int)) vouchers_0), .d ((eT (eP2 PyData.int PyData.int)) bills_0), .d ((eL (eT (eO PyData.int))) l_4), .d ((eP3 PyData.str PyData.int PyData.int) x_5), .o none ((eL (eT (eO PyData.int))) longer_15), .d ((eT (eO PyData.int)) x_10), .u, .u, .u]) (v := ((l_9 ++ (((rgI 0 (bills_0.length : Int)).filter fun x_11 : Int => (decide ((gI bills_0 x_11).1 ≤ x_5.2.2))).map fun x_11 : Int => (x_10 ++ ([(some x_11)] : (List (Option Int)))))) : (List (List (Option Int))))) fun longer_15 e_longer_15 => ?_
      have hok := let_ok hok longer_15 e_longer_15
      obtain ⟨hs_16, hok⟩ := hok
      refine jn_cons (js_expr (je_append' (enc := (eT (eO PyData.int))) (xs := longer_15) (x := (x_10 ++ ([(none : (Option Int))] : (List (Option Int))))) 4 (je_catT' (enc := (eO PyData.int)) (j2d (je_var 5) (je_tup (ja_cons je_non ja_nil))) hs_16.1) hs_16.2)) ?_
      refine jn_let (F := fun longer_17 : (List (List (Option Int))) => [.d ((eT (eP3 PyData.str PyData.int PyData.int)) vouchers_0), .d ((eT (eP2 PyData.int PyData.int)) bills_0), .d ((eL (eT (eO PyData.int))) l_4), .d ((eP3 PyData.str PyData.int PyData.int) x_5), .o none ((eL (eT (eO PyData.int))) longer_17), .d ((eT (eO PyData.int)) x_10), .u, .u, .u]) (v := ((longer_15 ++ [(x_10 ++ ([(none : (Option Int))] : (List (Option Int))))]) : (List (List (Option Int))))) fun longer_17 e_longer_17 => ?_
      have hok := let_ok hok longer_17 e_longer_17
      exact jn_nil (by walk_at "le")
    refine jn_let (F := fun l : (List (List (Option Int))) => [.d ((eT (eP3 PyData.str PyData.int PyData.int)) vouchers_0), .d ((eT (eP2 PyData.int PyData.int)) bills_0), .d ((eL (eT (eO PyData.int))) l_4), .d ((eP3 PyData.str PyData.int PyData.int) x_5), .o none ((eL (eT (eO PyData.int))) l), .u, .u, .u, .u]) fun l_24 e_l_24 => ?_
    have hok := let_ok hok l_24 e_l_24
    refine jn_frz (i := 4) (k0 := none) rfl ?_
    refine jn_cons (js_set 2 nd (je_var 4)) ?_
    refine jn_let (F := fun rows_26 : (List (List (Option Int))) => [.d ((eT (eP3 PyData.str PyData.int PyData.int)) vouchers_0), .d ((eT (eP2 PyData.int PyData.int)) bills_0), .d ((eL (eT (eO PyData.int))) rows_26), .d ((eP3 PyData.str PyData.int PyData.int) x_5), .d ((eL (eT (eO PyData.int))) l_24), .u, .u, .u, .u]) (v := (l_24 : (List (List (Option Int))))) fun rows_26 e_rows_26 => ?_
    have hok := let_ok hok rows_26 e_rows_26
    exact jn_nil (by walk_at "le")
  refine jb_let (F := fun l : (List (List (Option Int))) => [.d ((eT (eP3 PyData.str PyData.int PyData.int)) vouchers_0), .d ((eT (eP2 PyData.int PyData.int)) bills_0), .d ((eL (eT (eO PyData.int))) l), .u, .u, .u, .u, .u, .u]) fun l_33 e_l_33 => ?_
  have hok := let_ok hok l_33 e_l_33
  refine jb_cons (js_set 6 nd je_non) ?_
  refine jb_let (F := fun best_35 : (Option ((Int × Int) × (List (Option Int)))) => [.d ((eT (eP3 PyData.str PyData.int PyData.int)) vouchers_0), .d ((eT (eP2 PyData.int PyData.int)) bills_0), .d ((eL (eT (eO PyData.int))) l_33), .u, .u, .u, .d ((eO (eP2 (eP2 PyData.int PyData.int) (eT (eO PyData.int)))) best_35), .u, .u]) (v := ((none : (Option ((Int × Int) × (List (Option Int))))) : (Option ((Int × Int) × (List (Option Int)))))) fun best_35 e_best_35 => ?_
  have hok := let_ok hok best_35 e_best_35
  obtain ⟨hf_59, hok⟩ := hok
  refine jb_cons (js_forN (enc := (eT (eO PyData.int))) (fun l : (Option ((Int × Int) × (List (Option Int)))) => [.d ((eT (eP3 PyData.str PyData.int PyData.int)) vouchers_0), .d ((eT (eP2 PyData.int PyData.int)) bills_0), .d ((eL (eT (eO PyData.int))) l_33), .u, .u, .u, .d ((eO (eP2 (eP2 PyData.int PyData.int) (eT (eO PyData.int)))) l), .u, .u]) (best_use_s_55 vouchers_0 bills_0) best_35 (ji_list (je_var 2)) (by walk_at "le") (fun i_58 x_38 l_37 hx_56 hl_57 => ?_)) ?_
  · have hok := hf_59 i_58 x_38 l_37 hx_56 hl_57
    unfold best_use_s_55_ok at hok
    unfold best_use_s_55
    refine ⟨[5], [.d ((eT (eP3 PyData.str PyData.int PyData.int)) vouchers_0), .d ((eT (eP2 PyData.int PyData.int)) bills_0), .d ((eL (eT (eO PyData.int))) l_33), .u, .u, .d ((eT (eO PyData.int)) x_38), .d ((eO (eP2 (eP2 PyData.int PyData.int) (eT (eO PyData.int)))) l_37), .u, .u], (jg_name 5 (by exact nd)), ?_⟩
    obtain ⟨hs_42, hok⟩ := hok
    refine jn_cons (js_set 7 nd (je_tup (ja_cons (je_neg (je_call' (d := PyData.int (saved vouchers_0 bills_0 x_38)) (ok_saved X) (vouchers_0, bills_0, x_38) X.o_saved.m X.o_saved.F.kp X.o_saved.b (ja_cons (je_var 0) (ja_cons (je_var 1) (ja_cons (je_var 5) ja_nil))) hs_42)) (ja_cons (je_lenL' rfl X.m_len (je_fb (je_lc1 (enc := (eO PyData.int)) (dec := PyData.int) [("bill", 8)] (fun x_39 : (Option Int) => (!x_39.isNone)) (fun x_39 : (Option Int) => (1 : Int)) (ji_tup (je_var 5)) (by exact nd) rfl (unk_of rfl) (fun x_39 hx_40 => lcp (js := [8]) (E1 := [.d ((eT (eP3 PyData.str PyData.int PyData.int)) vouchers_0), .d ((eT (eP2 PyData.int PyData.int)) bills_0), .d ((eL (eT (eO PyData.int))) l_33), .u, .u, .d ((eT (eO PyData.int)) x_38), .d ((eO (eP2 (eP2 PyData.int PyData.int) (eT (eO PyData.int)))) l_37), .u, .d ((eO PyData.int) x_39)]) (by simp) (jg_name 8 (by exact nd)) (jts_one (jt_notNo (enc := PyData.int) (je_b (je_var 8)))) (by walk_at "le") fun hc_41 => je_int)))) ja_nil)))) ?_
    refine jn_let (F := fun told_43 : (Int × Int) => [.d ((eT (eP3 PyData.str PyData.int PyData.int)) vouchers_0), .d ((eT (eP2 PyData.int PyData.int)) bills_0), .d ((eL (eT (eO PyData.int))) l_33), .u, .u, .d ((eT (eO PyData.int)) x_38), .d ((eO (eP2 (eP2 PyData.int PyData.int) (eT (eO PyData.int)))) l_37), .d ((eP2 PyData.int PyData.int) told_43), .u]) (v := (((-(saved vouchers_0 bills_0 x_38)), (((x_38.filter fun x_39 : (Option Int) => (!x_39.isNone)).map fun x_39 : (Option Int) => (1 : Int)).length : Int)) : (Int × Int))) fun told_43 e_told_43 => ?_
    have hok := let_ok hok told_43 e_told_43
    obtain ⟨hs_45, hok⟩ := hok
    obtain ⟨ha_52, hb_53, hok⟩ := hok
    refine jn_cons (js_ifN (l := best_use_t_49 x_38 told_43) (l' := best_use_e_50 l_37) (E := fun l : (Option ((Int × Int) × (List (Option Int)))) => [.d ((eT (eP3 PyData.str PyData.int PyData.int)) vouchers_0), .d ((eT (eP2 PyData.int PyData.int)) bills_0), .d ((eL (eT (eO PyData.int))) l_33), .u, .u, .d ((eT (eO PyData.int)) x_38), .d ((eO (eP2 (eP2 PyData.int PyData.int) (eT (eO PyData.int)))) l), .d ((eP2 PyData.int PyData.int) told_43), .u]) (jt_w (jw_or (jt_isNo (enc := (eP2 (eP2 PyData.int PyData.int) (eT (eO PyData.int)))) (je_b (je_var 6))) (fun hc_44 => (jw_or1 (jt_c (cj_ltE (enc := (eP2 PyData.int PyData.int)) (x := told_43) (y := (unO l_37).1) (j2d (je_var 7) (je_ixT (z := (eP2 PyData.int PyData.int) (unO l_37).1) (j2d (je_un (enc := (eP2 (eP2 PyData.int PyData.int) (eT (eO PyData.int)))) (o := l_37) (je_var 6) (hs_45 hc_44)) je_int) rfl)) (alk_p2 alk_int alk_int) (sh_p2 sh_int sh_int))))))) (fun hc_46 => ?_) (fun hc_46 => ?_)) ?_
    · have hok := ha_52 hc_46
      unfold best_use_t_49_ok at hok
      unfold best_use_t_49
      refine jn_cons (js_set 6 nd (je_tup (ja_cons (je_var 7) (ja_cons (je_var 5) ja_nil)))) ?_
      refine jn_let (F := fun best_48 : (Option ((Int × Int) × (List (Option Int)))) => [.d ((eT (eP3 PyData.str PyData.int PyData.int)) vouchers_0), .d ((eT (eP2 PyData.int PyData.int)) bills_0), .d ((eL (eT (eO PyData.int))) l_33), .u, .u, .d ((eT (eO PyData.int)) x_38), .d ((eO (eP2 (eP2 PyData.int PyData.int) (eT (eO PyData.int)))) best_48), .d ((eP2 PyData.int PyData.int) told_43), .u]) (v := ((some (told_43, x_38)) : (Option ((Int × Int) × (List (Option Int)))))) fun best_48 e_best_48 => ?_
      have hok := let_ok hok best_48 e_best_48
      exact jn_nil (by walk_at "le")
    · have hok := hb_53 hc_46
      unfold best_use_e_50_ok at hok
      unfold best_use_e_50
      exact jn_nil (by walk_at "le")
    refine jn_let (F := fun l : (Option ((Int × Int) × (List (Option Int)))) => [.d ((eT (eP3 PyData.str PyData.int PyData.int)) vouchers_0), .d ((eT (eP2 PyData.int PyData.int)) bills_0), .d ((eL (eT (eO PyData.int))) l_33), .u, .u, .d ((eT (eO PyData.int)) x_38), .d ((eO (eP2 (eP2 PyData.int PyData.int) (eT (eO PyData.int)))) l), .d ((eP2 PyData.int PyData.int) told_43), .u]) fun l_51 e_l_51 => ?_
    have hok := let_ok hok l_51 e_l_51
    exact jn_nil (by walk_at "le")
  refine jb_let (F := fun l : (Option ((Int × Int) × (List (Option Int)))) => [.d ((eT (eP3 PyData.str PyData.int PyData.int)) vouchers_0), .d ((eT (eP2 PyData.int PyData.int)) bills_0), .d ((eL (eT (eO PyData.int))) l_33), .u, .u, .u, .d ((eO (eP2 (eP2 PyData.int PyData.int) (eT (eO PyData.int)))) l), .u, .u]) fun l_60 e_l_60 => ?_
  have hok := let_ok hok l_60 e_l_60
  have hs_61 := hok
  exact jb_ret (je_tup (ja_cons (je_neg (je_ixT (z := PyData.int (unO l_60).1.1) (j2d (je_ixT (z := (eP2 PyData.int PyData.int) (unO l_60).1) (j2d (je_un (enc := (eP2 (eP2 PyData.int PyData.int) (eT (eO PyData.int)))) (o := l_60) (je_var 6) hs_61.1) je_int) rfl) je_int) rfl)) (ja_cons (je_ixT (z := (eT (eO PyData.int)) (unO l_60).2) (j2d (je_un (enc := (eP2 (eP2 PyData.int PyData.int) (eT (eO PyData.int)))) (o := l_60) (je_var 6) hs_61.2) je_int) rfl) ja_nil))) (by walk_at "le")

def is_row (thing_0 : PyData) (least_0 : Int) (most_0 : Int) : Bool :=
  ((isTup thing_0) && (decide (least_0 ≤ (((dT dA) thing_0).length : Int)) && decide ((((dT dA) thing_0).length : Int) ≤ most_0)))
def is_row_ok (thing_0 : PyData) (least_0 : Int) (most_0 : Int) : Prop :=
  (noDc thing_0 = true) ∧ ((isTup thing_0) = true → ((eT eD) ((dT dA) thing_0) = thing_0))
abbrev N_is_row : List Str := ["thing", "least", "most"]
theorem sc_is_row : FnScope N_is_row ["thing", "least", "most"] (defScope (topS 3)) := ⟨rfl, rfl, rfl, by decide +kernel, rfl, by decide +kernel, by decide +kernel⟩
theorem ok_is_row (X : Txt K mg) : FnOk P w K mg base CX0 1 X.f_is_row X.d_is_row ["thing", "least", "most"] (SpD K (fun a : PyData × Int × Int => is_row_ok a.1 a.2.1 a.2.2) (fun a => [eD a.1, PyData.int a.2.1, PyData.int a.2.2]) (fun a => PyData.bool (is_row a.1 a.2.1 a.2.2))) := by
  refine fn_ok (A := PyData × Int × Int) (args := fun a => [eD a.1, PyData.int a.2.1, PyData.int a.2.2]) X.o_is_row.F sc_is_row PyData.bool (fun a => is_row a.1 a.2.1 a.2.2) (fun _ => rfl) (by decide) ?_
  rintro ⟨thing_0, least_0, most_0⟩ hok hlen
  have nd : (tc P w K mg base N_is_row (topS 3) 0).N.Nodup := sc_is_row.nd
  show JB (tc P w K mg base N_is_row (topS 3) 0) PyData.bool (fun _ => uE N_is_row) _ [.d (eD thing_0), .d (PyData.int least_0), .d (PyData.int most_0)] (is_row thing_0 least_0 most_0)
  have hok : is_row_ok thing_0 least_0 most_0 := hok
  unfold is_row_ok at hok
  unfold is_row
  have hs_3 := hok
  exact jb_ret (je_and (je_isi rfl X.m_isinstance rfl X.m_tuple b_tuple (je_var 0) (kitTup hs_3.1) hs_3.1) (fun hc_2 => (je_one (je_lele (je_var 1) (je_lenT' rfl X.m_len (je_b (je_dec (je_var 0) (hs_3.2 hc_2)))) (fun hc_1 => (je_var 2)))))) (by walk_at "le")

def is_integer (thing_0 : PyData) : Bool :=
  ((isInt thing_0) && (!(isBoo thing_0)))
def is_integer_ok (thing_0 : PyData) : Prop :=
  (noDc thing_0 = true) ∧ ((isInt thing_0) = true → (noDc thing_0 = true))
abbrev N_is_integer : List Str := ["thing"]
theorem sc_is_integer : FnScope N_is_integer ["thing"] (defScope (topS 1)) := ⟨rfl, rfl, rfl, by decide +kernel, rfl, by decide +kernel, by decide +kernel⟩
theorem ok_is_integer (X : Txt K mg) : FnOk P w K mg base CX0 1 X.f_is_integer X.d_is_integer ["thing"] (SpD K (fun a : PyData => is_integer_ok a) (fun a => [eD a]) (fun a => PyData.bool (is_integer a))) := by
  refine fn_ok (A := PyData) (args := fun a => [eD a]) X.o_is_integer.F sc_is_integer PyData.bool (fun a => is_integer a) (fun _ => rfl) (by decide) ?_
  intro thing_0 hok hlen
  have nd : (tc P w K mg base N_is_integer (topS 1) 0).N.Nodup := sc_is_integer.nd
  show JB (tc P w K mg base N_is_integer (topS 1) 0) PyData.bool (fun _ => uE N_is_integer) _ [.d (eD thing_0)] (is_integer thing_0)
  have hok : is_integer_ok thing_0 := hok
  unfold is_integer_ok at hok
  unfold is_integer
  have hs_2 := hok
  exact jb_ret (je_and (je_isi rfl X.m_isinstance rfl X.m_int b_int (je_var 0) (kitInt hs_2.1) hs_2.1) (fun hc_1 => (je_one (je_not (je_isi rfl X.m_isinstance rfl X.m_bool b_bool (je_var 0) (kitBoo (hs_2.2 hc_1)) (hs_2.2 hc_1)))))) (by walk_at "le")

def is_number (thing_0 : PyData) (least_0 : Int) (most_0 : Int) : Bool :=
  ((is_integer thing_0) && ((decide (least_0 ≤ (dI thing_0))) && (false || (decide ((dI thing_0) ≤ most_0)))))
def is_number_ok (thing_0 : PyData) (least_0 : Int) (most_0 : Int) : Prop :=
  (is_integer_ok thing_0) ∧ ((is_integer thing_0) = true → (PyData.int (dI thing_0) = thing_0) ∧ ((decide (least_0 ≤ (dI thing_0))) = true → (false = false → (PyData.int (dI thing_0) = thing_0))))
abbrev N_is_number : List Str := ["thing", "least", "most"]
theorem sc_is_number : FnScope N_is_number ["thing", "least", "most"] (defScope (topS 2)) := ⟨rfl, rfl, rfl, by decide +kernel, rfl, by decide +kernel, by decide +kernel⟩
theorem ok_is_number (X : Txt K mg) : FnOk P w K mg base CX0 2 X.f_is_number X.d_is_number ["thing", "least", "most"] (SpD K (fun a : PyData × Int × Int => is_number_ok a.1 a.2.1 a.2.2) (fun a => [eD a.1, PyData.int a.2.1, PyData.int a.2.2]) (fun a => PyData.bool (is_number a.1 a.2.1 a.2.2))) := by
  refine fn_ok (A := PyData × Int × Int) (args := fun a => [eD a.1, PyData.int a.2.1, PyData.int a.2.2]) X.o_is_number.F sc_is_number PyData.bool (fun a => is_number a.1 a.2.1 a.2.2) (fun _ => rfl) (by decide) ?_
  rintro ⟨thing_0, least_0, most_0⟩ hok hlen
  have nd : (tc P w K mg base N_is_number (topS 2) 1).N.Nodup := sc_is_number.nd
  show JB (tc P w K mg base N_is_number (topS 2) 1) PyData.bool (fun _ => uE N_is_number) _ [.d (eD thing_0), .d (PyData.int least_0), .d (PyData.int most_0)] (is_number thing_0 least_0 most_0)
  have hok : is_number_ok thing_0 least_0 most_0 := hok
  unfold is_number_ok at hok
  unfold is_number
  have hs_4 := hok
  exact jb_ret (je_and (je_call' (d := PyData.bool (is_integer thing_0)) (ok_is_integer X) (thing_0) X.o_is_integer.m X.o_is_integer.F.kp X.o_is_integer.b (ja_cons (je_var 0) ja_nil) hs_4.1) (fun hc_3 => (je_and (je_c (cj_ge (j2d (je_dec (je_var 0) (hs_4.2 hc_3).1) (je_var 1)))) (fun hc_2 => (je_one (je_or (je_isN (x := PyData.int most_0) (je_b (je_var 2))) (fun hc_1 => (je_one (je_c (cj_le (j2d (je_dec (je_var 0) (((hs_4.2 hc_3).2 hc_2) hc_1)) (je_var 2)))))))))))) (by walk_at "le")

def is_use_t_13 (bills_0 : (List (Int × Int))) (x_6 : ((Str × Int × Int) × PyData)) : (Unit ⊕ Bool) :=
  if ((!(is_number x_6.2 (0 : Int) ((bills_0.length : Int) - (1 : Int)))) || (decide (x_6.1.2.2 < (gI bills_0 (dI x_6.2)).1))) = true then
  (.inr (false))
  else
  (.inl ())
def is_use_t_13_ok (bills_0 : (List (Int × Int))) (x_6 : ((Str × Int × Int) × PyData)) : Prop :=
  ((is_number_ok x_6.2 (0 : Int) ((bills_0.length : Int) - (1 : Int))) ∧ ((!(is_number x_6.2 (0 : Int) ((bills_0.length : Int) - (1 : Int)))) = false → (PyData.int (dI x_6.2) = x_6.2) ∧ (inR bills_0.length (dI x_6.2)))) ∧
  (((!(is_number x_6.2 (0 : Int) ((bills_0.length : Int) - (1 : Int)))) || (decide (x_6.1.2.2 < (gI bills_0 (dI x_6.2)).1))) = true → True) ∧
  (((!(is_number x_6.2 (0 : Int) ((bills_0.length : Int) - (1 : Int)))) || (decide (x_6.1.2.2 < (gI bills_0 (dI x_6.2)).1))) = false → True)
def is_use_e_14 : (Unit ⊕ Bool) :=
  (.inl ())
def is_use_e_14_ok : Prop :=
  True
def is_use_s_20 (bills_0 : (List (Int × Int))) (l_5 : Unit) (x_6 : ((Str × Int × Int) × PyData)) : (Unit ⊕ Bool) :=
  orJ (if (!isNoneD x_6.2) = true then is_use_t_13 bills_0 x_6 else is_use_e_14) fun l_15 : Unit =>
  (.inl ())
def is_use_s_20_ok (bills_0 : (List (Int × Int))) (l_5 : Unit) (x_6 : ((Str × Int × Int) × PyData)) : Prop :=
  ((!isNoneD x_6.2) = true → is_use_t_13_ok bills_0 x_6) ∧
  ((!isNoneD x_6.2) = false → is_use_e_14_ok) ∧
  (∀ l_15 : Unit, (if (!isNoneD x_6.2) = true then is_use_t_13 bills_0 x_6 else is_use_e_14) = .inl l_15 → True)
def is_use (vouchers_0 : (List (Str × Int × Int))) (bills_0 : (List (Int × Int))) (thing_0 : PyData) : Bool :=
  if (!(is_row thing_0 (vouchers_0.length : Int) (vouchers_0.length : Int))) = true then
  false
  else
  orR (forR (is_use_s_20 bills_0) () (vouchers_0.zip ((dT dA) thing_0))) fun l_25 : Unit =>
  true
def is_use_ok (vouchers_0 : (List (Str × Int × Int))) (bills_0 : (List (Int × Int))) (thing_0 : PyData) : Prop :=
  ((is_row_ok thing_0 (vouchers_0.length : Int) (vouchers_0.length : Int))) ∧
  ((!(is_row thing_0 (vouchers_0.length : Int) (vouchers_0.length : Int))) = true → True) ∧
  ((!(is_row thing_0 (vouchers_0.length : Int) (vouchers_0.length : Int))) = false → (((eT eD) ((dT dA) thing_0) = thing_0)) ∧
  (∀ (i_23 : Nat) (x_6 : ((Str × Int × Int) × PyData)) (l_5 : Unit), (vouchers_0.zip ((dT dA) thing_0))[i_23]? = some x_6 → forR (is_use_s_20 bills_0) () ((vouchers_0.zip ((dT dA) thing_0)).take i_23) = .inl l_5 → is_use_s_20_ok bills_0 l_5 x_6) ∧
  (∀ l_25 : Unit, forR (is_use_s_20 bills_0) () (vouchers_0.zip ((dT dA) thing_0)) = .inl l_25 → True))
abbrev N_is_use : List Str := ["vouchers", "bills", "thing", "voucher", "bill"]
theorem sc_is_use : FnScope N_is_use ["vouchers", "bills", "thing"] (defScope (topS 5)) := ⟨rfl, rfl, rfl, by decide +kernel, rfl, by decide +kernel, by decide +kernel⟩
theorem ok_is_use (X : Txt K mg) : FnOk P w K mg base CX0 3 X.f_is_use X.d_is_use ["vouchers", "bills", "thing"] (SpD K (fun a : (List (Str × Int × Int)) × (List (Int × Int)) × PyData => is_use_ok a.1 a.2.1 a.2.2) (fun a => [(eT (eP3 PyData.str PyData.int PyData.int)) a.1, (eT (eP2 PyData.int PyData.int)) a.2.1, eD a.2.2]) (fun a => PyData.bool (is_use a.1 a.2.1 a.2.2))) := by
  refine fn_ok (A := (List (Str × Int × Int)) × (List (Int × Int)) × PyData) (args := fun a => [(eT (eP3 PyData.str PyData.int PyData.int)) a.1, (eT (eP2 PyData.int PyData.int)) a.2.1, eD a.2.2]) X.o_is_use.F sc_is_use PyData.bool (fun a => is_use a.1 a.2.1 a.2.2) (fun _ => rfl) (by decide) ?_
  rintro ⟨vouchers_0, bills_0, thing_0⟩ hok hlen
  have nd : (tc P w K mg base N_is_use (topS 5) 2).N.Nodup := sc_is_use.nd
  show JB (tc P w K mg base N_is_use (topS 5) 2) PyData.bool (fun _ => uE N_is_use) _ [.d ((eT (eP3 PyData.str PyData.int PyData.int)) vouchers_0), .d ((eT (eP2 PyData.int PyData.int)) bills_0), .d (eD thing_0), .u, .u] (is_use vouchers_0 bills_0 thing_0)
  have hok : is_use_ok vouchers_0 bills_0 thing_0 := hok
  unfold is_use_ok at hok
  unfold is_use
  obtain ⟨hs_1, hok⟩ := hok
  refine jb_ifr (jt_not (jt_v (je_call' (d := PyData.bool (is_row thing_0 (vouchers_0.length : Int) (vouchers_0.length : Int))) (ok_is_row X) (thing_0, (vouchers_0.length : Int), (vouchers_0.length : Int)) X.o_is_row.m X.o_is_row.F.kp X.o_is_row.b (ja_cons (je_var 2) (ja_cons (je_lenT' rfl X.m_len (je_b (je_var 0))) (ja_cons (je_lenT' rfl X.m_len (je_b (je_var 0))) ja_nil))) hs_1))) (fun hc_2 => ?_) (fun hc_2 => ?_)
  · have hok := hok.1 hc_2
    have hs_3 := hok
    exact jb_ret je_bl (by walk_at "le")
  · have hok := hok.2 hc_2
    obtain ⟨hs_4, hok⟩ := hok
    obtain ⟨hf_24, hok⟩ := hok
    refine jb_or (js_forM (enc := (eP2 (eP3 PyData.str PyData.int PyData.int) eD)) (fun l : Unit => [.d ((eT (eP3 PyData.str PyData.int PyData.int)) vouchers_0), .d ((eT (eP2 PyData.int PyData.int)) bills_0), .d (eD thing_0), .u, .u]) (is_use_s_20 bills_0) () (ji_zipT' rfl X.m_zip (ja_cons (je_var 0) (ja_cons (je_dec (je_var 2) hs_4) ja_nil))) (by walk_at "le") (fun i_23 x_6 l_5 hx_21 hl_22 => ?_)) (fun l_25 el_26 => ?_)
    · have hok := hf_24 i_23 x_6 l_5 hx_21 hl_22
      unfold is_use_s_20_ok at hok
      unfold is_use_s_20
      refine ⟨[3, 4], [.d ((eT (eP3 PyData.str PyData.int PyData.int)) vouchers_0), .d ((eT (eP2 PyData.int PyData.int)) bills_0), .d (eD thing_0), .d ((eP3 PyData.str PyData.int PyData.int) x_6.1), .d (eD x_6.2)], (jg_tup (jgs_cons (jg_name 3 (by exact nd)) (jgs_cons (jg_name 4 (by exact nd)) jgs_nil))), ?_⟩
      obtain ⟨ha_16, hb_17, hok⟩ := hok
      refine jm_orJ (js_ifM (o := is_use_t_13 bills_0 x_6) (o' := is_use_e_14) (E := fun l : Unit => [.d ((eT (eP3 PyData.str PyData.int PyData.int)) vouchers_0), .d ((eT (eP2 PyData.int PyData.int)) bills_0), .d (eD thing_0), .d ((eP3 PyData.str PyData.int PyData.int) x_6.1), .d (eD x_6.2)]) (jt_notN (je_b (je_var 4))) (fun hc_8 => ?_) (fun hc_8 => ?_)) (fun l_15 el_18 => ?_)
      · have hok := ha_16 hc_8
        unfold is_use_t_13_ok at hok
        unfold is_use_t_13
        obtain ⟨hs_10, hok⟩ := hok
        refine jm_ifr (jt_w (jw_or (jt_not (jt_v (je_call' (d := PyData.bool (is_number x_6.2 (0 : Int) ((bills_0.length : Int) - (1 : Int)))) (ok_is_number X) (x_6.2, (0 : Int), ((bills_0.length : Int) - (1 : Int))) X.o_is_number.m X.o_is_number.F.kp X.o_is_number.b (ja_cons (je_var 4) (ja_cons je_int (ja_cons (je_sub (j2d (je_lenT' rfl X.m_len (je_b (je_var 1))) je_int)) ja_nil))) hs_10.1))) (fun hc_9 => (jw_or1 (jt_c (cj_gt (j2d (je_ixT (z := PyData.int (gI bills_0 (dI x_6.2)).1) (j2d (je_ixT' (enc := (eP2 PyData.int PyData.int)) (j2d (je_var 1) (je_dec (je_var 4) (hs_10.2 hc_9).1)) (hs_10.2 hc_9).2) je_int) rfl) (je_ixT (z := PyData.int x_6.1.2.2) (j2d (je_var 3) je_int) rfl)))))))) (fun hc_11 => ?_) (fun hc_11 => ?_)
        · have hok := hok.1 hc_11
          have hs_12 := hok
          exact jb_ret je_bl (by walk_at "le")
        · have hok := hok.2 hc_11
          exact jm_nil (by walk_at "le")
      · have hok := hb_17 hc_8
        unfold is_use_e_14_ok at hok
        unfold is_use_e_14
        exact jm_nil (by walk_at "le")
      · have hok := hok l_15 el_18
        exact jm_nil (by walk_at "le")
    · have hok := hok l_25 el_26
      have hs_27 := hok
      exact jb_ret je_bl (by walk_at "le")

def law_s_21 (places_5 : Int) (l_8 : (List Int)) (x_9 : Int) : (List Int) :=
  Let (((rgI 0 places_5).map fun x_10 : Int => (pyMin PyData.int (l_8.map fun x_11 : Int => (iabs (x_10 - x_11))))) : (List Int)) fun far_17 =>
  Let ((l_8 ++ [(idxL far_17 (pyMax PyData.int far_17))]) : (List Int)) fun taken_19 =>
  taken_19
def law_s_21_ok (places_5 : Int) (l_8 : (List Int)) (x_9 : Int) : Prop :=
  ((rg1 places_5) ∧ (∀ x_10 : Int, x_10 ∈ (rgI 0 places_5) → ((l_8.map fun x_11 : Int => (iabs (x_10 - x_11))) ≠ []))) ∧
  Let (((rgI 0 places_5).map fun x_10 : Int => (pyMin PyData.int (l_8.map fun x_11 : Int => (iabs (x_10 - x_11))))) : (List Int)) fun far_17 =>
  ((far_17 ≠ []) ∧ ((pyMax PyData.int far_17) ∈ far_17) ∧ (l_8.length < LN)) ∧
  Let ((l_8 ++ [(idxL far_17 (pyMax PyData.int far_17))]) : (List Int)) fun taken_19 =>
  True
def law_s_61 (l_26 : (List Int)) (l_50 : Int) (x_51 : Int) : Int :=
  Let ((pySort PyData.int (cutL l_26 none (some x_51))) : (List Int)) fun here_53 =>
  Let ((if (((rgI (1 : Int) x_51).map fun x_54 : Int => (decide ((1 : Int) < ((gI here_53 x_54) - (gI here_53 (x_54 - (1 : Int))))))).all id) = true then x_51 else l_50) : Int) fun most_59 =>
  most_59
def law_s_61_ok (l_26 : (List Int)) (l_50 : Int) (x_51 : Int) : Prop :=
  Let ((pySort PyData.int (cutL l_26 none (some x_51))) : (List Int)) fun here_53 =>
  ((rg2 (1 : Int) x_51) ∧ (∀ x_54 : Int, x_54 ∈ (rgI (1 : Int) x_51) → (inR here_53.length x_54) ∧ (inR here_53.length (x_54 - (1 : Int))))) ∧
  Let ((if (((rgI (1 : Int) x_51).map fun x_54 : Int => (decide ((1 : Int) < ((gI here_53 x_54) - (gI here_53 (x_54 - (1 : Int))))))).all id) = true then x_51 else l_50) : Int) fun most_59 =>
  True
def law_s_104 (bills_87 : (List (Int × Int))) (l_96 : (List (List (Option Int)))) (x_97 : (List (Option Int))) : (List (List (Option Int))) :=
  Let ((l_96 ++ ((((rgI 0 (bills_87.length : Int)).map some) ++ ([(none : (Option Int))] : (List (Option Int)))).map fun x_98 : (Option Int) => (x_97 ++ ([x_98] : (List (Option Int)))))) : (List (List (Option Int)))) fun longer_102 =>
  longer_102
def law_s_104_ok (bills_87 : (List (Int × Int))) (l_96 : (List (List (Option Int)))) (x_97 : (List (Option Int))) : Prop :=
  ((rg1 (bills_87.length : Int)) ∧ (((rgI 0 (bills_87.length : Int)).map some).length + ([(none : (Option Int))] : (List (Option Int))).length ≤ LN) ∧ (∀ x_98 : (Option Int), x_98 ∈ (((rgI 0 (bills_87.length : Int)).map some) ++ ([(none : (Option Int))] : (List (Option Int)))) → (x_97.length + ([x_98] : (List (Option Int))).length ≤ LN)) ∧ (l_96.length + ((((rgI 0 (bills_87.length : Int)).map some) ++ ([(none : (Option Int))] : (List (Option Int)))).map fun x_98 : (Option Int) => (x_97 ++ ([x_98] : (List (Option Int))))).length ≤ LN)) ∧
  Let ((l_96 ++ ((((rgI 0 (bills_87.length : Int)).map some) ++ ([(none : (Option Int))] : (List (Option Int)))).map fun x_98 : (Option Int) => (x_97 ++ ([x_98] : (List (Option Int)))))) : (List (List (Option Int)))) fun longer_102 =>
  True
def law_s_113 (bills_87 : (List (Int × Int))) (l_91 : (List (List (Option Int)))) (x_92 : (Str × Int × Int)) : (List (List (Option Int))) :=
  Let (([] : (List (List (Option Int)))) : (List (List (Option Int)))) fun longer_94 =>
  Let (l_91.foldl (law_s_104 bills_87) longer_94 : (List (List (Option Int)))) fun l_109 =>
  Let (l_109 : (List (List (Option Int)))) fun rows_111 =>
  rows_111
def law_s_113_ok (bills_87 : (List (Int × Int))) (l_91 : (List (List (Option Int)))) (x_92 : (Str × Int × Int)) : Prop :=
  Let (([] : (List (List (Option Int)))) : (List (List (Option Int)))) fun longer_94 =>
  (∀ (i_107 : Nat) (x_97 : (List (Option Int))) (l_96 : (List (List (Option Int)))), l_91[i_107]? = some x_97 → l_96 = (l_91.take i_107).foldl (law_s_104 bills_87) longer_94 → law_s_104_ok bills_87 l_96 x_97) ∧
  Let (l_91.foldl (law_s_104 bills_87) longer_94 : (List (List (Option Int)))) fun l_109 =>
  Let (l_109 : (List (List (Option Int)))) fun rows_111 =>
  True
def law_t_138 (vouchers_78 : (List (Str × Int × Int))) (bills_87 : (List (Int × Int))) (l_118 : (List (List (Option Int)))) (l_123 : ((List (List (Option Int))) × (List (Int × Int × Int)))) (x_124 : Int) : ((List (List (Option Int))) × (List (Int × Int × Int))) :=
  Let ((l_123.1 ++ [(gI l_118 x_124)]) : (List (List (Option Int)))) fun good_132 =>
  Let ((l_123.2 ++ [(((0 : Int) - (law_saved vouchers_78 bills_87 (gI l_118 x_124))), ((((gI l_118 x_124).filter fun x_133 : (Option Int) => (!x_133.isNone)).map fun x_133 : (Option Int) => (unO x_133)).length : Int), x_124)]) : (List (Int × Int × Int))) fun ranked_137 =>
  (good_132, ranked_137)
def law_t_138_ok (vouchers_78 : (List (Str × Int × Int))) (bills_87 : (List (Int × Int))) (l_118 : (List (List (Option Int)))) (l_123 : ((List (List (Option Int))) × (List (Int × Int × Int)))) (x_124 : Int) : Prop :=
  ((inR l_118.length x_124) ∧ (l_123.1.length < LN)) ∧
  Let ((l_123.1 ++ [(gI l_118 x_124)]) : (List (List (Option Int)))) fun good_132 =>
  ((inR l_118.length x_124) ∧ (law_saved_ok vouchers_78 bills_87 (gI l_118 x_124)) ∧ (inR l_118.length x_124) ∧ (∀ x_133 : (Option Int), x_133 ∈ (gI l_118 x_124) → ((!x_133.isNone) = true → (x_133.isSome = true))) ∧ (l_123.2.length < LN)) ∧
  Let ((l_123.2 ++ [(((0 : Int) - (law_saved vouchers_78 bills_87 (gI l_118 x_124))), ((((gI l_118 x_124).filter fun x_133 : (Option Int) => (!x_133.isNone)).map fun x_133 : (Option Int) => (unO x_133)).length : Int), x_124)]) : (List (Int × Int × Int))) fun ranked_137 =>
  True
def law_e_139 (l_123 : ((List (List (Option Int))) × (List (Int × Int × Int)))) : ((List (List (Option Int))) × (List (Int × Int × Int))) :=
  (l_123.1, l_123.2)
def law_e_139_ok (l_123 : ((List (List (Option Int))) × (List (Int × Int × Int)))) : Prop :=
  True
def law_s_144 (vouchers_78 : (List (Str × Int × Int))) (bills_87 : (List (Int × Int))) (l_118 : (List (List (Option Int)))) (l_123 : ((List (List (Option Int))) × (List (Int × Int × Int)))) (x_124 : Int) : ((List (List (Option Int))) × (List (Int × Int × Int))) :=
  Let (if (((rgI 0 (vouchers_78.length : Int)).map fun x_125 : Int => ((gI (gI l_118 x_124) x_125).isNone || (decide ((gI bills_87 (unO (gI (gI l_118 x_124) x_125))).1 ≤ (gI vouchers_78 x_125).2.2)))).all id) = true then law_t_138 vouchers_78 bills_87 l_118 l_123 x_124 else law_e_139 l_123 : ((List (List (Option Int))) × (List (Int × Int × Int)))) fun l_140 =>
  (l_140.1, l_140.2)
def law_s_144_ok (vouchers_78 : (List (Str × Int × Int))) (bills_87 : (List (Int × Int))) (l_118 : (List (List (Option Int)))) (l_123 : ((List (List (Option Int))) × (List (Int × Int × Int)))) (x_124 : Int) : Prop :=
  ((rg1 (vouchers_78.length : Int)) ∧ (∀ x_125 : Int, x_125 ∈ (rgI 0 (vouchers_78.length : Int)) → (inR l_118.length x_124) ∧ (inR (gI l_118 x_124).length x_125) ∧ ((gI (gI l_118 x_124) x_125).isNone = false → (inR l_118.length x_124) ∧ (inR (gI l_118 x_124).length x_125) ∧ ((gI (gI l_118 x_124) x_125).isSome = true) ∧ (inR bills_87.length (unO (gI (gI l_118 x_124) x_125))) ∧ (inR vouchers_78.length x_125)))) ∧
  ((((rgI 0 (vouchers_78.length : Int)).map fun x_125 : Int => ((gI (gI l_118 x_124) x_125).isNone || (decide ((gI bills_87 (unO (gI (gI l_118 x_124) x_125))).1 ≤ (gI vouchers_78 x_125).2.2)))).all id) = true → law_t_138_ok vouchers_78 bills_87 l_118 l_123 x_124) ∧
  ((((rgI 0 (vouchers_78.length : Int)).map fun x_125 : Int => ((gI (gI l_118 x_124) x_125).isNone || (decide ((gI bills_87 (unO (gI (gI l_118 x_124) x_125))).1 ≤ (gI vouchers_78 x_125).2.2)))).all id) = false → law_e_139_ok l_123) ∧
  Let (if (((rgI 0 (vouchers_78.length : Int)).map fun x_125 : Int => ((gI (gI l_118 x_124) x_125).isNone || (decide ((gI bills_87 (unO (gI (gI l_118 x_124) x_125))).1 ≤ (gI vouchers_78 x_125).2.2)))).all id) = true then law_t_138 vouchers_78 bills_87 l_118 l_123 x_124 else law_e_139 l_123 : ((List (List (Option Int))) × (List (Int × Int × Int)))) fun l_140 =>
  True
def law (script : (List Int)) : Bool :=
  Let ((⟨script, 0, 0, 17⟩ : Dr) : Dr) fun draw_2 =>
  Let (nxt draw_2 (9 : Int)) fun q_3 : (Int × Dr) =>
  Let (((1 : Int) + q_3.1) : Int) fun places_5 =>
  Let (([(0 : Int)] : (List Int)) : (List Int)) fun taken_6 =>
  Let ((rgI 0 (places_5 - (1 : Int))).foldl (law_s_21 places_5) taken_6 : (List Int)) fun l_26 =>
  if (!(decide (((row_of places_5) : (List Int)) = l_26))) = true then
  false
  else
  Let (nxt q_3.2 places_5) fun q_30 : (Int × Dr) =>
  Let (((1 : Int) + q_30.1) : Int) fun guests_32 =>
  Let ((1 : Int) : Int) fun most_33 =>
  Let (((pySort PyData.int (cutL l_26 none (some guests_32))).map fun x_34 : Int => (x_34, (pyMin PyData.int ((((cutL l_26 none (some guests_32)).filter fun x_35 : Int => (!decide (x_35 = x_34))).map fun x_35 : Int => (iabs (x_34 - x_35))) ++ ([(99 : Int)] : (List Int)))))) : (List (Int × Int))) fun told_41 =>
  if (!(decide (((nearest places_5 guests_32) : (List (Int × (Option Int)))) = (told_41.map fun x_42 : (Int × Int) => (x_42.1, (if (decide (x_42.2 = (99 : Int))) = true then (none : (Option Int)) else (some x_42.2))))))) = true then
  false
  else
  Let ((rgI (2 : Int) (places_5 + (1 : Int))).foldl (law_s_61 l_26) most_33 : Int) fun l_66 =>
  if (!(decide (((apart places_5) : Int) = l_66))) = true then
  false
  else
  Let (nxt q_30.2 (4 : Int)) fun q_70 : (Int × Dr) =>
  Let (mapS (fun (s_72 : Dr) (x_71 : Str) => (Let (nxt s_72 (6 : Int)) fun q_73 : (Int × Dr) => (Let (nxt q_73.2 (6 : Int)) fun q_74 : (Int × Dr) => ((x_71, ((1 : Int) + q_73.1), q_74.1), q_74.2)))) q_70.2 (cutL ([("va" : Str), ("vb" : Str), ("vc" : Str)] : (List Str)) none (some q_70.1))) fun m_76 : (List (Str × Int × Int) × Dr) =>
  Let (m_76.1 : (List (Str × Int × Int))) fun vouchers_78 =>
  Let (nxt m_76.2 (4 : Int)) fun q_79 : (Int × Dr) =>
  Let (mapS (fun (s_81 : Dr) (x_80 : Int) => (Let (nxt s_81 (7 : Int)) fun q_82 : (Int × Dr) => (Let (nxt q_82.2 (9 : Int)) fun q_83 : (Int × Dr) => ((q_82.1, q_83.1), q_83.2)))) q_79.2 (rgI 0 q_79.1)) fun m_85 : (List (Int × Int) × Dr) =>
  Let ((pySort (eP2 PyData.int PyData.int) m_85.1) : (List (Int × Int))) fun bills_87 =>
  Let (([([] : (List (Option Int)))] : (List (List (Option Int)))) : (List (List (Option Int)))) fun rows_89 =>
  Let (vouchers_78.foldl (law_s_113 bills_87) rows_89 : (List (List (Option Int)))) fun l_118 =>
  Let (([] : (List (List (Option Int)))) : (List (List (Option Int)))) fun good_120 =>
  Let (([] : (List (Int × Int × Int))) : (List (Int × Int × Int))) fun ranked_121 =>
  Let ((rgI 0 (l_118.length : Int)).foldl (law_s_144 vouchers_78 bills_87 l_118) (good_120, ranked_121) : ((List (List (Option Int))) × (List (Int × Int × Int)))) fun l_149 =>
  Let (nxt m_85.2 (l_149.1.length : Int)) fun q_150 : (Int × Dr) =>
  Let ((gI l_149.1 q_150.1) : (List (Option Int))) fun pick_152 =>
  if ((!(decide (((saved vouchers_78 bills_87 pick_152) : Int) = (law_saved vouchers_78 bills_87 pick_152)))) || (!(decide (((best_use vouchers_78 bills_87) : (Int × (List (Option Int)))) = (((0 : Int) - (pyMin (eP3 PyData.int PyData.int PyData.int) l_149.2).1), (gI l_118 (pyMin (eP3 PyData.int PyData.int PyData.int) l_149.2).2.2)))))) = true then
  false
  else
  Let (nxt q_150.2 (l_118.length : Int)) fun q_157 : (Int × Dr) =>
  Let ((gI l_118 q_157.1) : (List (Option Int))) fun row_159 =>
  Let (([((eL (eO PyData.int)) pick_152), PyData.none, ((eT (eO PyData.int)) (pick_152 ++ ([(none : (Option Int))] : (List (Option Int))))), ((eT eD) (((vouchers_78.map fun x_160 : (Str × Int × Int) => ("0" : Str)).map PyData.str) ++ ([(PyData.int (0 : Int))] : (List PyData)))), ((eT eD) (((vouchers_78.map fun x_163 : (Str × Int × Int) => (bills_87.length : Int)).map PyData.int) ++ ([PyData.none] : (List PyData)))), ((eT PyData.bool) ((vouchers_78.map fun x_166 : (Str × Int × Int) => true) ++ ([false] : (List Bool))))] : (List PyData)) : (List PyData)) fun wrong_170 =>
  Let (mapS (fun (s_172 : Dr) (x_171 : (Str × Int × Int)) => (Let (nxt s_172 (4 : Int)) fun q_173 : (Int × Dr) => ((gI ([(PyData.int (bills_87.length : Int)), (PyData.int (-(1 : Int))), (PyData.str ("0" : Str)), (PyData.bool true)] : (List PyData)) q_173.1), q_173.2))) q_157.2 vouchers_78) fun m_175 : (List PyData × Dr) =>
  if ((!vouchers_78.isEmpty) && (!decide ((is_use vouchers_78 bills_87 ((eT eD) m_175.1)) = false))) = true then
  false
  else
  Let (nxt (if (!vouchers_78.isEmpty) = true then m_175.2 else q_157.2) (6 : Int)) fun q_180 : (Int × Dr) =>
  ((decide (((is_use vouchers_78 bills_87 ((eT (eO PyData.int)) row_159)) : Bool) = (inB row_159 l_149.1))) && (decide ((is_use vouchers_78 bills_87 (gI wrong_170 q_180.1)) = false)))
def law_ok (script : (List Int)) : Prop :=
  Let ((⟨script, 0, 0, 17⟩ : Dr) : Dr) fun draw_2 =>
  Let (nxt draw_2 (9 : Int)) fun q_3 : (Int × Dr) =>
  Let (((1 : Int) + q_3.1) : Int) fun places_5 =>
  Let (([(0 : Int)] : (List Int)) : (List Int)) fun taken_6 =>
  ((rg1 (places_5 - (1 : Int)))) ∧
  (∀ (i_24 : Nat) (x_9 : Int) (l_8 : (List Int)), (rgI 0 (places_5 - (1 : Int)))[i_24]? = some x_9 → l_8 = ((rgI 0 (places_5 - (1 : Int))).take i_24).foldl (law_s_21 places_5) taken_6 → law_s_21_ok places_5 l_8 x_9) ∧
  Let ((rgI 0 (places_5 - (1 : Int))).foldl (law_s_21 places_5) taken_6 : (List Int)) fun l_26 =>
  ((row_of_ok places_5)) ∧
  ((!(decide (((row_of places_5) : (List Int)) = l_26))) = true → True) ∧
  ((!(decide (((row_of places_5) : (List Int)) = l_26))) = false → Let (nxt q_3.2 places_5) fun q_30 : (Int × Dr) =>
  ((drN places_5)) ∧
  Let (((1 : Int) + q_30.1) : Int) fun guests_32 =>
  Let ((1 : Int) : Int) fun most_33 =>
  ((∀ x_34 : Int, x_34 ∈ (pySort PyData.int (cutL l_26 none (some guests_32))) → ((((cutL l_26 none (some guests_32)).filter fun x_35 : Int => (!decide (x_35 = x_34))).map fun x_35 : Int => (iabs (x_34 - x_35))).length + ([(99 : Int)] : (List Int)).length ≤ LN) ∧ (((((cutL l_26 none (some guests_32)).filter fun x_35 : Int => (!decide (x_35 = x_34))).map fun x_35 : Int => (iabs (x_34 - x_35))) ++ ([(99 : Int)] : (List Int))) ≠ []))) ∧
  Let (((pySort PyData.int (cutL l_26 none (some guests_32))).map fun x_34 : Int => (x_34, (pyMin PyData.int ((((cutL l_26 none (some guests_32)).filter fun x_35 : Int => (!decide (x_35 = x_34))).map fun x_35 : Int => (iabs (x_34 - x_35))) ++ ([(99 : Int)] : (List Int)))))) : (List (Int × Int))) fun told_41 =>
  ((nearest_ok places_5 guests_32)) ∧
  ((!(decide (((nearest places_5 guests_32) : (List (Int × (Option Int)))) = (told_41.map fun x_42 : (Int × Int) => (x_42.1, (if (decide (x_42.2 = (99 : Int))) = true then (none : (Option Int)) else (some x_42.2))))))) = true → True) ∧
  ((!(decide (((nearest places_5 guests_32) : (List (Int × (Option Int)))) = (told_41.map fun x_42 : (Int × Int) => (x_42.1, (if (decide (x_42.2 = (99 : Int))) = true then (none : (Option Int)) else (some x_42.2))))))) = false → ((rg2 (2 : Int) (places_5 + (1 : Int)))) ∧
  (∀ (i_64 : Nat) (x_51 : Int) (l_50 : Int), (rgI (2 : Int) (places_5 + (1 : Int)))[i_64]? = some x_51 → l_50 = ((rgI (2 : Int) (places_5 + (1 : Int))).take i_64).foldl (law_s_61 l_26) most_33 → law_s_61_ok l_26 l_50 x_51) ∧
  Let ((rgI (2 : Int) (places_5 + (1 : Int))).foldl (law_s_61 l_26) most_33 : Int) fun l_66 =>
  ((apart_ok places_5)) ∧
  ((!(decide (((apart places_5) : Int) = l_66))) = true → True) ∧
  ((!(decide (((apart places_5) : Int) = l_66))) = false → Let (nxt q_30.2 (4 : Int)) fun q_70 : (Int × Dr) =>
  Let (mapS (fun (s_72 : Dr) (x_71 : Str) => (Let (nxt s_72 (6 : Int)) fun q_73 : (Int × Dr) => (Let (nxt q_73.2 (6 : Int)) fun q_74 : (Int × Dr) => ((x_71, ((1 : Int) + q_73.1), q_74.1), q_74.2)))) q_70.2 (cutL ([("va" : Str), ("vb" : Str), ("vc" : Str)] : (List Str)) none (some q_70.1))) fun m_76 : (List (Str × Int × Int) × Dr) =>
  Let (m_76.1 : (List (Str × Int × Int))) fun vouchers_78 =>
  Let (nxt m_76.2 (4 : Int)) fun q_79 : (Int × Dr) =>
  Let (mapS (fun (s_81 : Dr) (x_80 : Int) => (Let (nxt s_81 (7 : Int)) fun q_82 : (Int × Dr) => (Let (nxt q_82.2 (9 : Int)) fun q_83 : (Int × Dr) => ((q_82.1, q_83.1), q_83.2)))) q_79.2 (rgI 0 q_79.1)) fun m_85 : (List (Int × Int) × Dr) =>
  ((rg1 q_79.1)) ∧
  Let ((pySort (eP2 PyData.int PyData.int) m_85.1) : (List (Int × Int))) fun bills_87 =>
  Let (([([] : (List (Option Int)))] : (List (List (Option Int)))) : (List (List (Option Int)))) fun rows_89 =>
  (∀ (i_116 : Nat) (x_92 : (Str × Int × Int)) (l_91 : (List (List (Option Int)))), vouchers_78[i_116]? = some x_92 → l_91 = (vouchers_78.take i_116).foldl (law_s_113 bills_87) rows_89 → law_s_113_ok bills_87 l_91 x_92) ∧
  Let (vouchers_78.foldl (law_s_113 bills_87) rows_89 : (List (List (Option Int)))) fun l_118 =>
  Let (([] : (List (List (Option Int)))) : (List (List (Option Int)))) fun good_120 =>
  Let (([] : (List (Int × Int × Int))) : (List (Int × Int × Int))) fun ranked_121 =>
  ((rg1 (l_118.length : Int))) ∧
  (∀ (i_147 : Nat) (x_124 : Int) (l_123 : ((List (List (Option Int))) × (List (Int × Int × Int)))), (rgI 0 (l_118.length : Int))[i_147]? = some x_124 → l_123 = ((rgI 0 (l_118.length : Int)).take i_147).foldl (law_s_144 vouchers_78 bills_87 l_118) (good_120, ranked_121) → law_s_144_ok vouchers_78 bills_87 l_118 l_123 x_124) ∧
  Let ((rgI 0 (l_118.length : Int)).foldl (law_s_144 vouchers_78 bills_87 l_118) (good_120, ranked_121) : ((List (List (Option Int))) × (List (Int × Int × Int)))) fun l_149 =>
  Let (nxt m_85.2 (l_149.1.length : Int)) fun q_150 : (Int × Dr) =>
  ((drN (l_149.1.length : Int)) ∧ (inR l_149.1.length q_150.1)) ∧
  Let ((gI l_149.1 q_150.1) : (List (Option Int))) fun pick_152 =>
  ((saved_ok vouchers_78 bills_87 pick_152) ∧ (law_saved_ok vouchers_78 bills_87 pick_152) ∧ ((!(decide (((saved vouchers_78 bills_87 pick_152) : Int) = (law_saved vouchers_78 bills_87 pick_152)))) = false → (best_use_ok vouchers_78 bills_87) ∧ (l_149.2 ≠ []) ∧ (l_149.2 ≠ []) ∧ (inR l_118.length (pyMin (eP3 PyData.int PyData.int PyData.int) l_149.2).2.2))) ∧
  (((!(decide (((saved vouchers_78 bills_87 pick_152) : Int) = (law_saved vouchers_78 bills_87 pick_152)))) || (!(decide (((best_use vouchers_78 bills_87) : (Int × (List (Option Int)))) = (((0 : Int) - (pyMin (eP3 PyData.int PyData.int PyData.int) l_149.2).1), (gI l_118 (pyMin (eP3 PyData.int PyData.int PyData.int) l_149.2).2.2)))))) = true → True) ∧
  (((!(decide (((saved vouchers_78 bills_87 pick_152) : Int) = (law_saved vouchers_78 bills_87 pick_152)))) || (!(decide (((best_use vouchers_78 bills_87) : (Int × (List (Option Int)))) = (((0 : Int) - (pyMin (eP3 PyData.int PyData.int PyData.int) l_149.2).1), (gI l_118 (pyMin (eP3 PyData.int PyData.int PyData.int) l_149.2).2.2)))))) = false → Let (nxt q_150.2 (l_118.length : Int)) fun q_157 : (Int × Dr) =>
  ((drN (l_118.length : Int)) ∧ (inR l_118.length q_157.1)) ∧
  Let ((gI l_118 q_157.1) : (List (Option Int))) fun row_159 =>
  ((pick_152.length + ([(none : (Option Int))] : (List (Option Int))).length ≤ LN) ∧ (((vouchers_78.map fun x_160 : (Str × Int × Int) => ("0" : Str)).map PyData.str).length + ([(PyData.int (0 : Int))] : (List PyData)).length ≤ LN) ∧ (((vouchers_78.map fun x_163 : (Str × Int × Int) => (bills_87.length : Int)).map PyData.int).length + ([PyData.none] : (List PyData)).length ≤ LN) ∧ ((vouchers_78.map fun x_166 : (Str × Int × Int) => true).length + ([false] : (List Bool)).length ≤ LN)) ∧
  Let (([((eL (eO PyData.int)) pick_152), PyData.none, ((eT (eO PyData.int)) (pick_152 ++ ([(none : (Option Int))] : (List (Option Int))))), ((eT eD) (((vouchers_78.map fun x_160 : (Str × Int × Int) => ("0" : Str)).map PyData.str) ++ ([(PyData.int (0 : Int))] : (List PyData)))), ((eT eD) (((vouchers_78.map fun x_163 : (Str × Int × Int) => (bills_87.length : Int)).map PyData.int) ++ ([PyData.none] : (List PyData)))), ((eT PyData.bool) ((vouchers_78.map fun x_166 : (Str × Int × Int) => true) ++ ([false] : (List Bool))))] : (List PyData)) : (List PyData)) fun wrong_170 =>
  Let (mapS (fun (s_172 : Dr) (x_171 : (Str × Int × Int)) => (Let (nxt s_172 (4 : Int)) fun q_173 : (Int × Dr) => ((gI ([(PyData.int (bills_87.length : Int)), (PyData.int (-(1 : Int))), (PyData.str ("0" : Str)), (PyData.bool true)] : (List PyData)) q_173.1), q_173.2))) q_157.2 vouchers_78) fun m_175 : (List PyData × Dr) =>
  (((!vouchers_78.isEmpty) = true → (∀ (s_172 : Dr) (x_171 : (Str × Int × Int)), x_171 ∈ vouchers_78 → ∀ q_173 : (Int × Dr), q_173 = (nxt s_172 (4 : Int)) → (inR ([(PyData.int (bills_87.length : Int)), (PyData.int (-(1 : Int))), (PyData.str ("0" : Str)), (PyData.bool true)] : (List PyData)).length q_173.1)) ∧ (is_use_ok vouchers_78 bills_87 ((eT eD) m_175.1)))) ∧
  (((!vouchers_78.isEmpty) && (!decide ((is_use vouchers_78 bills_87 ((eT eD) m_175.1)) = false))) = true → True) ∧
  (((!vouchers_78.isEmpty) && (!decide ((is_use vouchers_78 bills_87 ((eT eD) m_175.1)) = false))) = false → Let (nxt (if (!vouchers_78.isEmpty) = true then m_175.2 else q_157.2) (6 : Int)) fun q_180 : (Int × Dr) =>
  (is_use_ok vouchers_78 bills_87 ((eT (eO PyData.int)) row_159)) ∧ ((decide (((is_use vouchers_78 bills_87 ((eT (eO PyData.int)) row_159)) : Bool) = (inB row_159 l_149.1))) = true → (inR wrong_170.length q_180.1) ∧ (is_use_ok vouchers_78 bills_87 (gI wrong_170 q_180.1))))))))
abbrev N_law : List Str := ["script", "draw", "places", "taken", "turn", "far", "guests", "most", "told", "many", "here", "vouchers", "bills", "rows", "voucher", "longer", "row", "good", "ranked", "k", "pick", "wrong", "place", "name", "j", "other", "bill"]
theorem sc_law : FnScope N_law ["script"] (defScope (topS 18)) := ⟨rfl, rfl, rfl, by decide +kernel, rfl, by decide +kernel, by decide +kernel⟩
theorem ok_law (X : Txt K mg) : FnOk P w K mg base CX0 10 X.f_law X.d_law ["script"] (SpD K (fun a : (List Int) => law_ok a) (fun a => [.dict [(.none, .list (a.map .int))]]) (fun a => PyData.bool (law a))) := by
  refine fn_ok (A := (List Int)) (args := fun a => [.dict [(.none, .list (a.map .int))]]) X.o_law.F sc_law PyData.bool (fun a => law a) (fun _ => rfl) (by decide) ?_
  intro script hok hlen
  have nd : (tc P w K mg base N_law (topS 18) 9).N.Nodup := sc_law.nd
  show JB (tc P w K mg base N_law (topS 18) 9) PyData.bool (fun _ => uE N_law) _ [.d (.dict [(.none, .list (script.map .int))]), .u, .u, .u, .u, .u, .u, .u, .u, .u, .u, .u, .u, .u, .u, .u, .u, .u, .u, .u, .u, .u, .u, .u, .u, .u, .u] (law script)
  have hok : law_ok script := hok
  unfold law_ok at hok
  unfold law
  refine jb_cons (js_setO 1 nd (je_callF' (d := drD ⟨script, 0, 0, 17⟩) (ok_draw X) script X.o_draw.m X.o_draw.F.kp X.o_draw.b (ja_cons (je_var 0) ja_nil) True.intro)) ?_
  refine jb_let (F := fun draw_2 : Dr => [.d (.dict [(.none, .list (script.map .int))]), .o none (drD draw_2), .u, .u, .u, .u, .u, .u, .u, .u, .u, .u, .u, .u, .u, .u, .u, .u, .u, .u, .u, .u, .u, .u, .u, .u, .u]) (v := ((⟨script, 0, 0, 17⟩ : Dr) : Dr)) fun draw_2 e_draw_2 => ?_
  have hok := let_ok hok draw_2 e_draw_2
  refine jb_pre fun q_3 e_q_3 => ?_
  have hok := let_ok hok q_3 e_q_3
  refine jb_cons (js_parN [2, 3] (jns_cons 2 nd (jns_cons 3 nd jns_nil)) (jao_d (je_add (j2d je_int (je_callO' 1 (d := .int q_3.1) (e2 := [.d (.dict [(.none, .list (script.map .int))]), .o none (drD q_3.2), .u, .u, .u, .u, .u, .u, .u, .u, .u, .u, .u, .u, .u, .u, .u, .u, .u, .u, .u, .u, .u, .u, .u, .u, .u]) (ok_next X) (draw_2, (9 : Int)) X.o_next.m X.o_next.F.kp X.o_next.b (ja_cons je_int ja_nil) (show drN (9 : Int) from ⟨by decide, by decide⟩) (hq := by subst e_q_3; rfl) (he := by subst e_q_3; rfl)))) (jao_o (je_lst (ja_cons je_int ja_nil)) jao_nil)) (hw := by walk_at "hw")) ?_
  refine jb_let (F := fun places_5 : Int => [.d (.dict [(.none, .list (script.map .int))]), .o none (drD q_3.2), .d (PyData.int places_5), .o none ((eL PyData.int) ([(0 : Int)] : (List Int))), .u, .u, .u, .u, .u, .u, .u, .u, .u, .u, .u, .u, .u, .u, .u, .u, .u, .u, .u, .u, .u, .u, .u]) (v := (((1 : Int) + q_3.1) : Int)) fun places_5 e_places_5 => ?_
  have hok := let_ok hok places_5 e_places_5
  refine jb_let (F := fun taken_6 : (List Int) => [.d (.dict [(.none, .list (script.map .int))]), .o none (drD q_3.2), .d (PyData.int places_5), .o none ((eL PyData.int) taken_6), .u, .u, .u, .u, .u, .u, .u, .u, .u, .u, .u, .u, .u, .u, .u, .u, .u, .u, .u, .u, .u, .u, .u]) (v := (([(0 : Int)] : (List Int)) : (List Int))) fun taken_6 e_taken_6 => ?_
  have hok := let_ok hok taken_6 e_taken_6
  obtain ⟨hs_7, hok⟩ := hok
  obtain ⟨hf_25, hok⟩ := hok
  refine jb_cons (js_forN (enc := PyData.int) (fun l : (List Int) => [.d (.dict [(.none, .list (script.map .int))]), .o none (drD q_3.2), .d (PyData.int places_5), .o none ((eL PyData.int) l), .u, .u, .u, .u, .u, .u, .u, .u, .u, .u, .u, .u, .u, .u, .u, .u, .u, .u, .u, .u, .u, .u, .u]) (law_s_21 places_5) taken_6 (ji_range1 rfl X.m_range (je_sub (j2d (je_var 2) je_int)) hs_7) (by walk_at "le") (fun i_24 x_9 l_8 hx_22 hl_23 => ?_)) ?_
  · have hok := hf_25 i_24 x_9 l_8 hx_22 hl_23
    unfold law_s_21_ok at hok
    unfold law_s_21
    refine ⟨[4], [.d (.dict [(.none, .list (script.map .int))]), .o none (drD q_3.2), .d (PyData.int places_5), .o none ((eL PyData.int) l_8), .d (PyData.int x_9), .u, .u, .u, .u, .u, .u, .u, .u, .u, .u, .u, .u, .u, .u, .u, .u, .u, .u, .u, .u, .u, .u], (jg_name 4 (by exact nd)), ?_⟩
    obtain ⟨hs_16, hok⟩ := hok
    refine jn_cons (js_frz (i := 5) (k0 := none) (js_lc0 5 (enc := PyData.int) (dec := PyData.int) [("place", 22)] (fun x_10 : Int => (pyMin PyData.int (l_8.map fun x_11 : Int => (iabs (x_10 - x_11))))) (ji_range1 rfl X.m_range (je_var 2) hs_16.1) (by exact nd) rfl (unk_of rfl) (fun x_10 hx_14 => lcp (js := [22]) (E1 := [.d (.dict [(.none, .list (script.map .int))]), .o none (drD q_3.2), .d (PyData.int places_5), .o none ((eL PyData.int) l_8), .d (PyData.int x_9), .u, .u, .u, .u, .u, .u, .u, .u, .u, .u, .u, .u, .u, .u, .u, .u, .u, .d (PyData.int x_10), .u, .u, .u, .u]) (by simp) (jg_name 22 (by exact nd)) jts_nil (by walk_at "le") fun hc_15 => (je_minL (enc := PyData.int) rfl X.m_min (je_fb (je_lcB0 (enc := PyData.int) (dec := PyData.int) [("other", 25)] (fun x_11 : Int => (iabs (x_10 - x_11))) (jie_var 3) (by exact nd) rfl (unk_of rfl) (fun x_11 hx_12 => lcp (js := [25]) (E1 := [.d (.dict [(.none, .list (script.map .int))]), .o none (drD q_3.2), .d (PyData.int places_5), .o none ((eL PyData.int) l_8), .d (PyData.int x_9), .u, .u, .u, .u, .u, .u, .u, .u, .u, .u, .u, .u, .u, .u, .u, .u, .u, .d (PyData.int x_10), .u, .u, .d (PyData.int x_11), .u]) (by simp) (jg_name 25 (by exact nd)) jts_nil (by walk_at "le") fun hc_13 => (je_abs rfl X.m_abs (je_sub (j2d (je_var 22) (je_var 25))))))) alk_int (hs_16.2 x_10 hx_14)))) rfl) ?_
    refine jn_let (F := fun far_17 : (List Int) => [.d (.dict [(.none, .list (script.map .int))]), .o none (drD q_3.2), .d (PyData.int places_5), .o none ((eL PyData.int) l_8), .d (PyData.int x_9), .d ((eL PyData.int) far_17), .u, .u, .u, .u, .u, .u, .u, .u, .u, .u, .u, .u, .u, .u, .u, .u, .u, .u, .u, .u, .u]) (v := (((rgI 0 places_5).map fun x_10 : Int => (pyMin PyData.int (l_8.map fun x_11 : Int => (iabs (x_10 - x_11))))) : (List Int))) fun far_17 e_far_17 => ?_
    have hok := let_ok hok far_17 e_far_17
    obtain ⟨hs_18, hok⟩ := hok
    refine jn_cons (js_expr (je_append' (enc := PyData.int) (xs := l_8) (x := (idxL far_17 (pyMax PyData.int far_17))) 3 (je_index (enc := PyData.int) (je_var 5) (je_maxL (enc := PyData.int) rfl X.m_max (je_b (je_var 5)) alk_int hs_18.1) sh_int sh_int eqe_int hs_18.2.1) hs_18.2.2)) ?_
    refine jn_let (F := fun taken_19 : (List Int) => [.d (.dict [(.none, .list (script.map .int))]), .o none (drD q_3.2), .d (PyData.int places_5), .o none ((eL PyData.int) taken_19), .d (PyData.int x_9), .d ((eL PyData.int) far_17), .u, .u, .u, .u, .u, .u, .u, .u, .u, .u, .u, .u, .u, .u, .u, .u, .u, .u, .u, .u, .u]) (v := ((l_8 ++ [(idxL far_17 (pyMax PyData.int far_17))]) : (List Int))) fun taken_19 e_taken_19 => ?_
    have hok := let_ok hok taken_19 e_taken_19
    exact jn_nil (by walk_at "le")
  refine jb_let (F := fun l : (List Int) => [.d (.dict [(.none, .list (script.map .int))]), .o none (drD q_3.2), .d (PyData.int places_5), .o none ((eL PyData.int) l), .u, .u, .u, .u, .u, .u, .u, .u, .u, .u, .u, .u, .u, .u, .u, .u, .u, .u, .u, .u, .u, .u, .u]) fun l_26 e_l_26 => ?_
  have hok := let_ok hok l_26 e_l_26
  obtain ⟨hs_27, hok⟩ := hok
  refine jb_ifr (jt_not (jt_v (je_call' (ok_same X 1) ((eT PyData.int) (row_of places_5), (eT PyData.int) l_26) X.o_same.m X.o_same.F.kp X.o_same.b (ja_cons (je_call' (d := (eT PyData.int) (row_of places_5)) (ok_row_of X) (places_5) X.o_row_of.m X.o_row_of.F.kp X.o_row_of.b (ja_cons (je_var 2) ja_nil) hs_27) (ja_cons (je_tupL (xs := l_26.map PyData.int) rfl X.m_tuple (je_varB 3)) ja_nil)) ((sp_t sp_int) (row_of places_5) l_26) (hq := same_q (sm_t sm_int) (row_of places_5) l_26)))) (fun hc_28 => ?_) (fun hc_28 => ?_)
  · have hok := hok.1 hc_28
    have hs_29 := hok
    exact jb_ret je_bl (by walk_at "le")
  · have hok := hok.2 hc_28
    refine jb_pre fun q_30 e_q_30 => ?_
    have hok := let_ok hok q_30 e_q_30
    obtain ⟨hs_31, hok⟩ := hok
    refine jb_cons (js_parN [6, 7] (jns_cons 6 nd (jns_cons 7 nd jns_nil)) (jao_d (je_add (j2d je_int (je_callO' 1 (d := .int q_30.1) (e2 := [.d (.dict [(.none, .list (script.map .int))]), .o none (drD q_30.2), .d (PyData.int places_5), .o none ((eL PyData.int) l_26), .u, .u, .u, .u, .u, .u, .u, .u, .u, .u, .u, .u, .u, .u, .u, .u, .u, .u, .u, .u, .u, .u, .u]) (ok_next X) (q_3.2, places_5) X.o_next.m X.o_next.F.kp X.o_next.b (ja_cons (je_var 2) ja_nil) hs_31 (hq := by subst e_q_30; rfl) (he := by subst e_q_30; rfl)))) (jao_d je_int jao_nil)) (hw := by walk_at "hw")) ?_
    refine jb_let (F := fun guests_32 : Int => [.d (.dict [(.none, .list (script.map .int))]), .o none (drD q_30.2), .d (PyData.int places_5), .o none ((eL PyData.int) l_26), .u, .u, .d (PyData.int guests_32), .d (PyData.int (1 : Int)), .u, .u, .u, .u, .u, .u, .u, .u, .u, .u, .u, .u, .u, .u, .u, .u, .u, .u, .u]) (v := (((1 : Int) + q_30.1) : Int)) fun guests_32 e_guests_32 => ?_
    have hok := let_ok hok guests_32 e_guests_32
    refine jb_let (F := fun most_33 : Int => [.d (.dict [(.none, .list (script.map .int))]), .o none (drD q_30.2), .d (PyData.int places_5), .o none ((eL PyData.int) l_26), .u, .u, .d (PyData.int guests_32), .d (PyData.int most_33), .u, .u, .u, .u, .u, .u, .u, .u, .u, .u, .u, .u, .u, .u, .u, .u, .u, .u, .u]) (v := ((1 : Int) : Int)) fun most_33 e_most_33 => ?_
    have hok := let_ok hok most_33 e_most_33
    obtain ⟨hs_40, hok⟩ := hok
    refine jb_cons (js_frz (i := 8) (k0 := none) (js_lc0 8 (enc := PyData.int) (dec := (eP2 PyData.int PyData.int)) [("place", 22)] (fun x_34 : Int => (x_34, (pyMin PyData.int ((((cutL l_26 none (some guests_32)).filter fun x_35 : Int => (!decide (x_35 = x_34))).map fun x_35 : Int => (iabs (x_34 - x_35))) ++ ([(99 : Int)] : (List Int)))))) (ji_list (je_fz (je_sortL (enc := PyData.int) rfl X.m_sorted (je_fb (je_slLb' (enc := PyData.int) (xs := l_26) (je_varB 3) jo_none (jo_some (je_var 6)))) alk_int srt_int))) (by exact nd) rfl (unk_of rfl) (fun x_34 hx_38 => lcp (js := [22]) (E1 := [.d (.dict [(.none, .list (script.map .int))]), .o none (drD q_30.2), .d (PyData.int places_5), .o none ((eL PyData.int) l_26), .u, .u, .d (PyData.int guests_32), .d (PyData.int most_33), .u, .u, .u, .u, .u, .u, .u, .u, .u, .u, .u, .u, .u, .u, .d (PyData.int x_34), .u, .u, .u, .u]) (by simp) (jg_name 22 (by exact nd)) jts_nil (by walk_at "le") fun hc_39 => (je_tup (ja_cons (je_var 22) (ja_cons (je_minL (enc := PyData.int) rfl X.m_min (je_fb (je_catL' (enc := PyData.int) (j2d (je_fz (je_lc1 (enc := PyData.int) (dec := PyData.int) [("other", 25)] (fun x_35 : Int => (!decide (x_35 = x_34))) (fun x_35 : Int => (iabs (x_34 - x_35))) (ji_list (je_fz (je_slLb' (enc := PyData.int) (xs := l_26) (je_varB 3) jo_none (jo_some (je_var 6))))) (by exact nd) rfl (unk_of rfl) (fun x_35 hx_36 => lcp (js := [25]) (E1 := [.d (.dict [(.none, .list (script.map .int))]), .o none (drD q_30.2), .d (PyData.int places_5), .o none ((eL PyData.int) l_26), .u, .u, .d (PyData.int guests_32), .d (PyData.int most_33), .u, .u, .u, .u, .u, .u, .u, .u, .u, .u, .u, .u, .u, .u, .d (PyData.int x_34), .u, .u, .d (PyData.int x_35), .u]) (by simp) (jg_name 25 (by exact nd)) (jts_one (jt_c (cj_neI (j2d (je_var 25) (je_var 22))))) (by walk_at "le") fun hc_37 => (je_abs rfl X.m_abs (je_sub (j2d (je_var 22) (je_var 25))))))) (je_fz (je_lst (ja_cons je_int ja_nil)))) (hs_40 x_34 hx_38).1)) alk_int (hs_40 x_34 hx_38).2) ja_nil))))) rfl) ?_
    refine jb_let (F := fun told_41 : (List (Int × Int)) => [.d (.dict [(.none, .list (script.map .int))]), .o none (drD q_30.2), .d (PyData.int places_5), .o none ((eL PyData.int) l_26), .u, .u, .d (PyData.int guests_32), .d (PyData.int most_33), .d ((eL (eP2 PyData.int PyData.int)) told_41), .u, .u, .u, .u, .u, .u, .u, .u, .u, .u, .u, .u, .u, .u, .u, .u, .u, .u]) (v := (((pySort PyData.int (cutL l_26 none (some guests_32))).map fun x_34 : Int => (x_34, (pyMin PyData.int ((((cutL l_26 none (some guests_32)).filter fun x_35 : Int => (!decide (x_35 = x_34))).map fun x_35 : Int => (iabs (x_34 - x_35))) ++ ([(99 : Int)] : (List Int)))))) : (List (Int × Int)))) fun told_41 e_told_41 => ?_
    have hok := let_ok hok told_41 e_told_41
    obtain ⟨hs_46, hok⟩ := hok
    refine jb_ifr (jt_not (jt_v (je_call' (ok_same X 2) ((eT (eP2 PyData.int (eO PyData.int))) (nearest places_5 guests_32), (eT (eP2 PyData.int (eO PyData.int))) (told_41.map fun x_42 : (Int × Int) => (x_42.1, (if (decide (x_42.2 = (99 : Int))) = true then (none : (Option Int)) else (some x_42.2))))) X.o_same.m X.o_same.F.kp X.o_same.b (ja_cons (je_call' (d := (eT (eP2 PyData.int (eO PyData.int))) (nearest places_5 guests_32)) (ok_nearest X) (places_5, guests_32) X.o_nearest.m X.o_nearest.F.kp X.o_nearest.b (ja_cons (je_var 2) (ja_cons (je_var 6) ja_nil)) hs_46) (ja_cons (je_tupL (xs := (told_41.map fun x_42 : (Int × Int) => (x_42.1, (if (decide (x_42.2 = (99 : Int))) = true then (none : (Option Int)) else (some x_42.2)))).map (eP2 PyData.int (eO PyData.int))) rfl X.m_tuple (je_fb (je_lc0 (enc := (eP2 PyData.int PyData.int)) (dec := (eP2 PyData.int (eO PyData.int))) [("place", 22), ("far", 5)] (fun x_42 : (Int × Int) => (x_42.1, (if (decide (x_42.2 = (99 : Int))) = true then (none : (Option Int)) else (some x_42.2)))) (ji_list (je_var 8)) (by exact nd) rfl (unk_of rfl) (fun x_42 hx_44 => lcp (js := [22, 5]) (E1 := [.d (.dict [(.none, .list (script.map .int))]), .o none (drD q_30.2), .d (PyData.int places_5), .o none ((eL PyData.int) l_26), .u, .d (PyData.int x_42.2), .d (PyData.int guests_32), .d (PyData.int most_33), .d ((eL (eP2 PyData.int PyData.int)) told_41), .u, .u, .u, .u, .u, .u, .u, .u, .u, .u, .u, .u, .u, .d (PyData.int x_42.1), .u, .u, .u, .u]) (by simp) (jg_tup (jgs_cons (jg_name 22 (by exact nd)) (jgs_cons (jg_name 5 (by exact nd)) jgs_nil))) jts_nil (by walk_at "le") fun hc_45 => (je_tup (ja_cons (je_var 22) (ja_cons (je_ifc (u := (none : (Option Int))) (w := (some x_42.2)) (eO PyData.int) (jt_c (cj_eqI (j2d (je_var 5) je_int))) (fun hc_43 => je_non) (fun hc_43 => (je_var 5))) ja_nil))))))) ja_nil)) ((sp_t (sp_p2 sp_int (sp_o sp_int (fun _ => by rfl)))) (nearest places_5 guests_32) (told_41.map fun x_42 : (Int × Int) => (x_42.1, (if (decide (x_42.2 = (99 : Int))) = true then (none : (Option Int)) else (some x_42.2))))) (hq := same_q (sm_t (sm_p2 sm_int (sm_o sm_int (fun _ => ⟨by simp [sameD], by simp [sameD]⟩)))) (nearest places_5 guests_32) (told_41.map fun x_42 : (Int × Int) => (x_42.1, (if (decide (x_42.2 = (99 : Int))) = true then (none : (Option Int)) else (some x_42.2)))))))) (fun hc_47 => ?_) (fun hc_47 => ?_)
    · have hok := hok.1 hc_47
      have hs_48 := hok
      exact jb_ret je_bl (by walk_at "le")
    · have hok := hok.2 hc_47
      obtain ⟨hs_49, hok⟩ := hok
      obtain ⟨hf_65, hok⟩ := hok
      refine jb_cons (js_forN (enc := PyData.int) (fun l : Int => [.d (.dict [(.none, .list (script.map .int))]), .o none (drD q_30.2), .d (PyData.int places_5), .o none ((eL PyData.int) l_26), .u, .u, .d (PyData.int guests_32), .d (PyData.int l), .d ((eL (eP2 PyData.int PyData.int)) told_41), .u, .u, .u, .u, .u, .u, .u, .u, .u, .u, .u, .u, .u, .u, .u, .u, .u, .u]) (law_s_61 l_26) most_33 (ji_range2 rfl X.m_range (ja_cons je_int (ja_cons (je_add (j2d (je_var 2) je_int)) ja_nil)) hs_49) (by walk_at "le") (fun i_64 x_51 l_50 hx_62 hl_63 => ?_)) ?_
      · have hok := hf_65 i_64 x_51 l_50 hx_62 hl_63
        unfold law_s_61_ok at hok
        unfold law_s_61
        refine ⟨[9], [.d (.dict [(.none, .list (script.map .int))]), .o none (drD q_30.2), .d (PyData.int places_5), .o none ((eL PyData.int) l_26), .u, .u, .d (PyData.int guests_32), .d (PyData.int l_50), .d ((eL (eP2 PyData.int PyData.int)) told_41), .d (PyData.int x_51), .u, .u, .u, .u, .u, .u, .u, .u, .u, .u, .u, .u, .u, .u, .u, .u, .u], (jg_name 9 (by exact nd)), ?_⟩
        refine jn_cons (js_set 10 nd (je_fz (je_sortL (enc := PyData.int) rfl X.m_sorted (je_fb (je_slLb' (enc := PyData.int) (xs := l_26) (je_varB 3) jo_none (jo_some (je_var 9)))) alk_int srt_int))) ?_
        refine jn_let (F := fun here_53 : (List Int) => [.d (.dict [(.none, .list (script.map .int))]), .o none (drD q_30.2), .d (PyData.int places_5), .o none ((eL PyData.int) l_26), .u, .u, .d (PyData.int guests_32), .d (PyData.int l_50), .d ((eL (eP2 PyData.int PyData.int)) told_41), .d (PyData.int x_51), .d ((eL PyData.int) here_53), .u, .u, .u, .u, .u, .u, .u, .u, .u, .u, .u, .u, .u, .u, .u, .u]) (v := ((pySort PyData.int (cutL l_26 none (some x_51))) : (List Int))) fun here_53 e_here_53 => ?_
        have hok := let_ok hok here_53 e_here_53
        obtain ⟨hs_58, hok⟩ := hok
        refine jn_cons (js_set 7 nd (je_ifc (u := x_51) (w := l_50) PyData.int (jt_v (je_all rfl X.m_all (je_fb (je_lc0 (enc := PyData.int) (dec := PyData.bool) [("k", 19)] (fun x_54 : Int => (decide ((1 : Int) < ((gI here_53 x_54) - (gI here_53 (x_54 - (1 : Int))))))) (ji_range2 rfl X.m_range (ja_cons je_int (ja_cons (je_var 9) ja_nil)) hs_58.1) (by exact nd) rfl (unk_of rfl) (fun x_54 hx_55 => lcp (js := [19]) (E1 := [.d (.dict [(.none, .list (script.map .int))]), .o none (drD q_30.2), .d (PyData.int places_5), .o none ((eL PyData.int) l_26), .u, .u, .d (PyData.int guests_32), .d (PyData.int l_50), .d ((eL (eP2 PyData.int PyData.int)) told_41), .d (PyData.int x_51), .d ((eL PyData.int) here_53), .u, .u, .u, .u, .u, .u, .u, .u, .d (PyData.int x_54), .u, .u, .u, .u, .u, .u, .u]) (by simp) (jg_name 19 (by exact nd)) jts_nil (by walk_at "le") fun hc_56 => (je_c (cj_gt (j2d (je_sub (j2d (je_ixL' (enc := PyData.int) (j2d (je_var 10) (je_var 19)) (hs_58.2 x_54 hx_55).1) (je_ixL' (enc := PyData.int) (j2d (je_var 10) (je_sub (j2d (je_var 19) je_int))) (hs_58.2 x_54 hx_55).2))) je_int)))))))) (fun hc_57 => (je_var 9)) (fun hc_57 => (je_var 7)))) ?_
        refine jn_let (F := fun most_59 : Int => [.d (.dict [(.none, .list (script.map .int))]), .o none (drD q_30.2), .d (PyData.int places_5), .o none ((eL PyData.int) l_26), .u, .u, .d (PyData.int guests_32), .d (PyData.int most_59), .d ((eL (eP2 PyData.int PyData.int)) told_41), .d (PyData.int x_51), .d ((eL PyData.int) here_53), .u, .u, .u, .u, .u, .u, .u, .u, .u, .u, .u, .u, .u, .u, .u, .u]) (v := ((if (((rgI (1 : Int) x_51).map fun x_54 : Int => (decide ((1 : Int) < ((gI here_53 x_54) - (gI here_53 (x_54 - (1 : Int))))))).all id) = true then x_51 else l_50) : Int)) fun most_59 e_most_59 => ?_
        have hok := let_ok hok most_59 e_most_59
        exact jn_nil (by walk_at "le")
      refine jb_let (F := fun l : Int => [.d (.dict [(.none, .list (script.map .int))]), .o none (drD q_30.2), .d (PyData.int places_5), .o none ((eL PyData.int) l_26), .u, .u, .d (PyData.int guests_32), .d (PyData.int l), .d ((eL (eP2 PyData.int PyData.int)) told_41), .u, .u, .u, .u, .u, .u, .u, .u, .u, .u, .u, .u, .u, .u, .u, .u, .u, .u]) fun l_66 e_l_66 => ?_
      have hok := let_ok hok l_66 e_l_66
      obtain ⟨hs_67, hok⟩ := hok
      refine jb_ifr (jt_not (jt_v (je_call' (ok_same X 0) (PyData.int (apart places_5), PyData.int l_66) X.o_same.m X.o_same.F.kp X.o_same.b (ja_cons (je_call' (d := PyData.int (apart places_5)) (ok_apart X) (places_5) X.o_apart.m X.o_apart.F.kp X.o_apart.b (ja_cons (je_var 2) ja_nil) hs_67) (ja_cons (je_var 7) ja_nil)) (sp_int (apart places_5) l_66) (hq := same_q sm_int (apart places_5) l_66)))) (fun hc_68 => ?_) (fun hc_68 => ?_)
      · have hok := hok.1 hc_68
        have hs_69 := hok
        exact jb_ret je_bl (by walk_at "le")
      · have hok := hok.2 hc_68
        refine jb_pre fun q_70 e_q_70 => ?_
        have hok := let_ok hok q_70 e_q_70
        refine jb_pre fun m_76 e_m_76 => ?_
        have hok := let_ok hok m_76 e_m_76
        refine jb_cons (js_set 11 nd (je_tupL (xs := m_76.1.map (eP3 PyData.str PyData.int PyData.int)) rfl X.m_tuple (je_fb (je_lcDq (enc := PyData.str) m_76 [("name", 23)] (fun s_72 : Dr => [.d (.dict [(.none, .list (script.map .int))]), .o none (drD s_72), .d (PyData.int places_5), .o none ((eL PyData.int) l_26), .u, .u, .d (PyData.int guests_32), .d (PyData.int l_66), .d ((eL (eP2 PyData.int PyData.int)) told_41), .u, .u, .u, .u, .u, .u, .u, .u, .u, .u, .u, .u, .u, .u, .u, .u, .u, .u]) (eP3 PyData.str PyData.int PyData.int) (fun (s_72 : Dr) (x_71 : Str) => (Let (nxt s_72 (6 : Int)) fun q_73 : (Int × Dr) => (Let (nxt q_73.2 (6 : Int)) fun q_74 : (Int × Dr) => ((x_71, ((1 : Int) + q_73.1), q_74.1), q_74.2)))) q_70.2 e_m_76 (ji_tup (je_slT' (enc := PyData.str) (xs := ([("va" : Str), ("vb" : Str), ("vc" : Str)] : (List Str))) (je_tup (ja_cons (je_str) (ja_cons (je_str) (ja_cons (je_str) ja_nil)))) jo_none (jo_some (je_callO' 1 (d := .int q_70.1) (e2 := [.d (.dict [(.none, .list (script.map .int))]), .o none (drD q_70.2), .d (PyData.int places_5), .o none ((eL PyData.int) l_26), .u, .u, .d (PyData.int guests_32), .d (PyData.int l_66), .d ((eL (eP2 PyData.int PyData.int)) told_41), .u, .u, .u, .u, .u, .u, .u, .u, .u, .u, .u, .u, .u, .u, .u, .u, .u, .u]) (ok_next X) (q_30.2, (4 : Int)) X.o_next.m X.o_next.F.kp X.o_next.b (ja_cons je_int ja_nil) (show drN (4 : Int) from ⟨by decide, by decide⟩) (hq := by subst e_q_70; rfl) (he := by subst e_q_70; rfl))))) (by exact nd) rfl (fun _ => unk_of rfl) (fun s_72 x_71 hx_75 => lcd_let (w := (nxt s_72 (6 : Int))) fun q_73 e_q_73 => lcd_let (w := (nxt q_73.2 (6 : Int))) fun q_74 e_q_74 => lcd (js := [23]) (E1 := [.d (.dict [(.none, .list (script.map .int))]), .o none (drD s_72), .d (PyData.int places_5), .o none ((eL PyData.int) l_26), .u, .u, .d (PyData.int guests_32), .d (PyData.int l_66), .d ((eL (eP2 PyData.int PyData.int)) told_41), .u, .u, .u, .u, .u, .u, .u, .u, .u, .u, .u, .u, .u, .u, .d (PyData.str x_71), .u, .u, .u]) (E2 := [.d (.dict [(.none, .list (script.map .int))]), .o none (drD q_74.2), .d (PyData.int places_5), .o none ((eL PyData.int) l_26), .u, .u, .d (PyData.int guests_32), .d (PyData.int l_66), .d ((eL (eP2 PyData.int PyData.int)) told_41), .u, .u, .u, .u, .u, .u, .u, .u, .u, .u, .u, .u, .u, .u, .d (PyData.str x_71), .u, .u, .u]) (by simp) (jg_name 23 (by exact nd)) (je_tup (ja_cons (je_var 23) (ja_cons (je_add (j2d je_int (je_callO' 1 (d := .int q_73.1) (e2 := [.d (.dict [(.none, .list (script.map .int))]), .o none (drD q_73.2), .d (PyData.int places_5), .o none ((eL PyData.int) l_26), .u, .u, .d (PyData.int guests_32), .d (PyData.int l_66), .d ((eL (eP2 PyData.int PyData.int)) told_41), .u, .u, .u, .u, .u, .u, .u, .u, .u, .u, .u, .u, .u, .u, .d (PyData.str x_71), .u, .u, .u]) (ok_next X) (s_72, (6 : Int)) X.o_next.m X.o_next.F.kp X.o_next.b (ja_cons je_int ja_nil) (show drN (6 : Int) from ⟨by decide, by decide⟩) (hq := by subst e_q_73; rfl) (he := by subst e_q_73; rfl)))) (ja_cons (je_callO' 1 (d := .int q_74.1) (e2 := [.d (.dict [(.none, .list (script.map .int))]), .o none (drD q_74.2), .d (PyData.int places_5), .o none ((eL PyData.int) l_26), .u, .u, .d (PyData.int guests_32), .d (PyData.int l_66), .d ((eL (eP2 PyData.int PyData.int)) told_41), .u, .u, .u, .u, .u, .u, .u, .u, .u, .u, .u, .u, .u, .u, .d (PyData.str x_71), .u, .u, .u]) (ok_next X) (q_73.2, (6 : Int)) X.o_next.m X.o_next.F.kp X.o_next.b (ja_cons je_int ja_nil) (show drN (6 : Int) from ⟨by decide, by decide⟩) (hq := by subst e_q_74; rfl) (he := by subst e_q_74; rfl)) ja_nil)))) (by walk_at "le")))))) ?_
        refine jb_let (F := fun vouchers_78 : (List (Str × Int × Int)) => [.d (.dict [(.none, .list (script.map .int))]), .o none (drD m_76.2), .d (PyData.int places_5), .o none ((eL PyData.int) l_26), .u, .u, .d (PyData.int guests_32), .d (PyData.int l_66), .d ((eL (eP2 PyData.int PyData.int)) told_41), .u, .u, .d ((eT (eP3 PyData.str PyData.int PyData.int)) vouchers_78), .u, .u, .u, .u, .u, .u, .u, .u, .u, .u, .u, .u, .u, .u, .u]) (v := (m_76.1 : (List (Str × Int × Int)))) fun vouchers_78 e_vouchers_78 => ?_
        have hok := let_ok hok vouchers_78 e_vouchers_78
        refine jb_pre fun q_79 e_q_79 => ?_
        have hok := let_ok hok q_79 e_q_79
        refine jb_pre fun m_85 e_m_85 => ?_
        have hok := let_ok hok m_85 e_m_85
        obtain ⟨hs_86, hok⟩ := hok
        refine jb_cons (js_set 12 nd (je_tupL (xs := (pySort (eP2 PyData.int PyData.int) m_85.1).map (eP2 PyData.int PyData.int)) rfl X.m_tuple (je_fb (je_sortL (enc := (eP2 PyData.int PyData.int)) rfl X.m_sorted (je_fb (je_lcDq (enc := PyData.int) m_85 [("k", 19)] (fun s_81 : Dr => [.d (.dict [(.none, .list (script.map .int))]), .o none (drD s_81), .d (PyData.int places_5), .o none ((eL PyData.int) l_26), .u, .u, .d (PyData.int guests_32), .d (PyData.int l_66), .d ((eL (eP2 PyData.int PyData.int)) told_41), .u, .u, .d ((eT (eP3 PyData.str PyData.int PyData.int)) vouchers_78), .u, .u, .u, .u, .u, .u, .u, .u, .u, .u, .u, .u, .u, .u, .u]) (eP2 PyData.int PyData.int) (fun (s_81 : Dr) (x_80 : Int) => (Let (nxt s_81 (7 : Int)) fun q_82 : (Int × Dr) => (Let (nxt q_82.2 (9 : Int)) fun q_83 : (Int × Dr) => ((q_82.1, q_83.1), q_83.2)))) q_79.2 e_m_85 (ji_range1 rfl X.m_range (je_callO' 1 (d := .int q_79.1) (e2 := [.d (.dict [(.none, .list (script.map .int))]), .o none (drD q_79.2), .d (PyData.int places_5), .o none ((eL PyData.int) l_26), .u, .u, .d (PyData.int guests_32), .d (PyData.int l_66), .d ((eL (eP2 PyData.int PyData.int)) told_41), .u, .u, .d ((eT (eP3 PyData.str PyData.int PyData.int)) vouchers_78), .u, .u, .u, .u, .u, .u, .u, .u, .u, .u, .u, .u, .u, .u, .u]) (ok_next X) (m_76.2, (4 : Int)) X.o_next.m X.o_next.F.kp X.o_next.b (ja_cons je_int ja_nil) (show drN (4 : Int) from ⟨by decide, by decide⟩) (hq := by subst e_q_79; rfl) (he := by subst e_q_79; rfl)) hs_86) (by exact nd) rfl (fun _ => unk_of rfl) (fun s_81 x_80 hx_84 => lcd_let (w := (nxt s_81 (7 : Int))) fun q_82 e_q_82 => lcd_let (w := (nxt q_82.2 (9 : Int))) fun q_83 e_q_83 => lcd (js := [19]) (E1 := [.d (.dict [(.none, .list (script.map .int))]), .o none (drD s_81), .d (PyData.int places_5), .o none ((eL PyData.int) l_26), .u, .u, .d (PyData.int guests_32), .d (PyData.int l_66), .d ((eL (eP2 PyData.int PyData.int)) told_41), .u, .u, .d ((eT (eP3 PyData.str PyData.int PyData.int)) vouchers_78), .u, .u, .u, .u, .u, .u, .u, .d (PyData.int x_80), .u, .u, .u, .u, .u, .u, .u]) (E2 := [.d (.dict [(.none, .list (script.map .int))]), .o none (drD q_83.2), .d (PyData.int places_5), .o none ((eL PyData.int) l_26), .u, .u, .d (PyData.int guests_32), .d (PyData.int l_66), .d ((eL (eP2 PyData.int PyData.int)) told_41), .u, .u, .d ((eT (eP3 PyData.str PyData.int PyData.int)) vouchers_78), .u, .u, .u, .u, .u, .u, .u, .d (PyData.int x_80), .u, .u, .u, .u, .u, .u, .u]) (by simp) (jg_name 19 (by exact nd)) (je_tup (ja_cons (je_callO' 1 (d := .int q_82.1) (e2 := [.d (.dict [(.none, .list (script.map .int))]), .o none (drD q_82.2), .d (PyData.int places_5), .o none ((eL PyData.int) l_26), .u, .u, .d (PyData.int guests_32), .d (PyData.int l_66), .d ((eL (eP2 PyData.int PyData.int)) told_41), .u, .u, .d ((eT (eP3 PyData.str PyData.int PyData.int)) vouchers_78), .u, .u, .u, .u, .u, .u, .u, .d (PyData.int x_80), .u, .u, .u, .u, .u, .u, .u]) (ok_next X) (s_81, (7 : Int)) X.o_next.m X.o_next.F.kp X.o_next.b (ja_cons je_int ja_nil) (show drN (7 : Int) from ⟨by decide, by decide⟩) (hq := by subst e_q_82; rfl) (he := by subst e_q_82; rfl)) (ja_cons (je_callO' 1 (d := .int q_83.1) (e2 := [.d (.dict [(.none, .list (script.map .int))]), .o none (drD q_83.2), .d (PyData.int places_5), .o none ((eL PyData.int) l_26), .u, .u, .d (PyData.int guests_32), .d (PyData.int l_66), .d ((eL (eP2 PyData.int PyData.int)) told_41), .u, .u, .d ((eT (eP3 PyData.str PyData.int PyData.int)) vouchers_78), .u, .u, .u, .u, .u, .u, .u, .d (PyData.int x_80), .u, .u, .u, .u, .u, .u, .u]) (ok_next X) (q_82.2, (9 : Int)) X.o_next.m X.o_next.F.kp X.o_next.b (ja_cons je_int ja_nil) (show drN (9 : Int) from ⟨by decide, by decide⟩) (hq := by subst e_q_83; rfl) (he := by subst e_q_83; rfl)) ja_nil))) (by walk_at "le")))) (alk_p2 alk_int alk_int) srt_p2)))) ?_
        refine jb_let (F := fun bills_87 : (List (Int × Int)) => [.d (.dict [(.none, .list (script.map .int))]), .o none (drD m_85.2), .d (PyData.int places_5), .o none ((eL PyData.int) l_26), .u, .u, .d (PyData.int guests_32), .d (PyData.int l_66), .d ((eL (eP2 PyData.int PyData.int)) told_41), .u, .u, .d ((eT (eP3 PyData.str PyData.int PyData.int)) vouchers_78), .d ((eT (eP2 PyData.int PyData.int)) bills_87), .u, .u, .u, .u, .u, .u, .u, .u, .u, .u, .u, .u, .u, .u]) (v := ((pySort (eP2 PyData.int PyData.int) m_85.1) : (List (Int × Int)))) fun bills_87 e_bills_87 => ?_
        have hok := let_ok hok bills_87 e_bills_87
        refine jb_cons (js_set 13 nd (je_fz (je_lst (ja_cons (je_tup ja_nil) ja_nil)))) ?_
        refine jb_let (F := fun rows_89 : (List (List (Option Int))) => [.d (.dict [(.none, .list (script.map .int))]), .o none (drD m_85.2), .d (PyData.int places_5), .o none ((eL PyData.int) l_26), .u, .u, .d (PyData.int guests_32), .d (PyData.int l_66), .d ((eL (eP2 PyData.int PyData.int)) told_41), .u, .u, .d ((eT (eP3 PyData.str PyData.int PyData.int)) vouchers_78), .d ((eT (eP2 PyData.int PyData.int)) bills_87), .d ((eL (eT (eO PyData.int))) rows_89), .u, .u, .u, .u, .u, .u, .u, .u, .u, .u, .u, .u, .u]) (v := (([([] : (List (Option Int)))] : (List (List (Option Int)))) : (List (List (Option Int))))) fun rows_89 e_rows_89 => ?_
        have hok := let_ok hok rows_89 e_rows_89
        obtain ⟨hf_117, hok⟩ := hok
        refine jb_cons (js_forN (enc := (eP3 PyData.str PyData.int PyData.int)) (fun l : (List (List (Option Int))) => [.d (.dict [(.none, .list (script.map .int))]), .o none (drD m_85.2), .d (PyData.int places_5), .o none ((eL PyData.int) l_26), .u, .u, .d (PyData.int guests_32), .d (PyData.int l_66), .d ((eL (eP2 PyData.int PyData.int)) told_41), .u, .u, .d ((eT (eP3 PyData.str PyData.int PyData.int)) vouchers_78), .d ((eT (eP2 PyData.int PyData.int)) bills_87), .d ((eL (eT (eO PyData.int))) l), .u, .u, .u, .u, .u, .u, .u, .u, .u, .u, .u, .u, .u]) (law_s_113 bills_87) rows_89 (ji_tup (je_var 11)) (by walk_at "le") (fun i_116 x_92 l_91 hx_114 hl_115 => ?_)) ?_
        · have hok := hf_117 i_116 x_92 l_91 hx_114 hl_115
          unfold law_s_113_ok at hok
          unfold law_s_113
          refine ⟨[14], [.d (.dict [(.none, .list (script.map .int))]), .o none (drD m_85.2), .d (PyData.int places_5), .o none ((eL PyData.int) l_26), .u, .u, .d (PyData.int guests_32), .d (PyData.int l_66), .d ((eL (eP2 PyData.int PyData.int)) told_41), .u, .u, .d ((eT (eP3 PyData.str PyData.int PyData.int)) vouchers_78), .d ((eT (eP2 PyData.int PyData.int)) bills_87), .d ((eL (eT (eO PyData.int))) l_91), .d ((eP3 PyData.str PyData.int PyData.int) x_92), .u, .u, .u, .u, .u, .u, .u, .u, .u, .u, .u, .u], (jg_name 14 (by exact nd)), ?_⟩
          refine jn_cons (js_set 15 nd (je_fz (je_lst ja_nil))) ?_
          refine jn_let (F := fun longer_94 : (List (List (Option Int))) => [.d (.dict [(.none, .list (script.map .int))]), .o none (drD m_85.2), .d (PyData.int places_5), .o none ((eL PyData.int) l_26), .u, .u, .d (PyData.int guests_32), .d (PyData.int l_66), .d ((eL (eP2 PyData.int PyData.int)) told_41), .u, .u, .d ((eT (eP3 PyData.str PyData.int PyData.int)) vouchers_78), .d ((eT (eP2 PyData.int PyData.int)) bills_87), .d ((eL (eT (eO PyData.int))) l_91), .d ((eP3 PyData.str PyData.int PyData.int) x_92), .d ((eL (eT (eO PyData.int))) longer_94), .u, .u, .u, .u, .u, .u, .u, .u, .u, .u, .u]) (v := (([] : (List (List (Option Int)))) : (List (List (Option Int))))) fun longer_94 e_longer_94 => ?_
          have hok := let_ok hok longer_94 e_longer_94
          obtain ⟨hf_108, hok⟩ := hok
          refine jn_cons (js_forN (enc := (eT (eO PyData.int))) (fun l : (List (List (Option Int))) => [.d (.dict [(.none, .list (script.map .int))]), .o none (drD m_85.2), .d (PyData.int places_5), .o none ((eL PyData.int) l_26), .u, .u, .d (PyData.int guests_32), .d (PyData.int l_66), .d ((eL (eP2 PyData.int PyData.int)) told_41), .u, .u, .d ((eT (eP3 PyData.str PyData.int PyData.int)) vouchers_78), .d ((eT (eP2 PyData.int PyData.int)) bills_87), .d ((eL (eT (eO PyData.int))) l_91), .d ((eP3 PyData.str PyData.int PyData.int) x_92), .d ((eL (eT (eO PyData.int))) l), .u, .u, .u, .u, .u, .u, .u, .u, .u, .u, .u]) (law_s_104 bills_87) longer_94 (ji_list (je_var 13)) (by walk_at "le") (fun i_107 x_97 l_96 hx_105 hl_106 => ?_)) ?_
          · have hok := hf_108 i_107 x_97 l_96 hx_105 hl_106
            unfold law_s_104_ok at hok
            unfold law_s_104
            refine ⟨[16], [.d (.dict [(.none, .list (script.map .int))]), .o none (drD m_85.2), .d (PyData.int places_5), .o none ((eL PyData.int) l_26), .u, .u, .d (PyData.int guests_32), .d (PyData.int l_66), .d ((eL (eP2 PyData.int PyData.int)) told_41), .u, .u, .d ((eT (eP3 PyData.str PyData.int PyData.int)) vouchers_78), .d ((eT (eP2 PyData.int PyData.int)) bills_87), .d ((eL (eT (eO PyData.int))) l_91), .d ((eP3 PyData.str PyData.int PyData.int) x_92), .d ((eL (eT (eO PyData.int))) l_96), .d ((eT (eO PyData.int)) x_97), .u, .u, .u, .u, .u, .u, .u, .u, .u, .u], (jg_name 16 (by exact nd)), ?_⟩
            obtain ⟨hs_101, hok⟩ := hok
            refine jn_cons (js_set 15 nd (je_fz (je_catL' (enc := (eT (eO PyData.int))) (j2d (je_var 15) (je_fz (je_lc0 (enc := (eO PyData.int)) (dec := (eT (eO PyData.int))) [("bill", 26)] (fun x_98 : (Option Int) => (x_97 ++ ([x_98] : (List (Option Int))))) (ji_list (je_fz (je_catL' (enc := (eO PyData.int)) (j2d (je_fz (je_soLo (enc := PyData.int) (xs := (rgI 0 (bills_87.length : Int))) (je_listRg1 rfl X.m_list rfl X.m_range (je_lenT' rfl X.m_len (je_b (je_var 12))) hs_101.1))) (je_fz (je_lst (ja_cons je_non ja_nil)))) hs_101.2.1))) (by exact nd) rfl (unk_of rfl) (fun x_98 hx_99 => lcp (js := [26]) (E1 := [.d (.dict [(.none, .list (script.map .int))]), .o none (drD m_85.2), .d (PyData.int places_5), .o none ((eL PyData.int) l_26), .u, .u, .d (PyData.int guests_32), .d (PyData.int l_66), .d ((eL (eP2 PyData.int PyData.int)) told_41), .u, .u, .d ((eT (eP3 PyData.str PyData.int PyData.int)) vouchers_78), .d ((eT (eP2 PyData.int PyData.int)) bills_87), .d ((eL (eT (eO PyData.int))) l_91), .d ((eP3 PyData.str PyData.int PyData.int) x_92), .d ((eL (eT (eO PyData.int))) l_96), .d ((eT (eO PyData.int)) x_97), .u, .u, .u, .u, .u, .u, .u, .u, .u, .d ((eO PyData.int) x_98)]) (by simp) (jg_name 26 (by exact nd)) jts_nil (by walk_at "le") fun hc_100 => (je_catT' (enc := (eO PyData.int)) (j2d (je_var 16) (je_tup (ja_cons (je_var 26) ja_nil))) (hs_101.2.2.1 x_98 hx_99)))))) hs_101.2.2.2))) ?_
            refine jn_let (F := fun longer_102 : (List (List (Option Int))) => [.d (.dict [(.none, .list (script.map .int))]), .o none (drD m_85.2), .d (PyData.int places_5), .o none ((eL PyData.int) l_26), .u, .u, .d (PyData.int guests_32), .d (PyData.int l_66), .d ((eL (eP2 PyData.int PyData.int)) told_41), .u, .u, .d ((eT (eP3 PyData.str PyData.int PyData.int)) vouchers_78), .d ((eT (eP2 PyData.int PyData.int)) bills_87), .d ((eL (eT (eO PyData.int))) l_91), .d ((eP3 PyData.str PyData.int PyData.int) x_92), .d ((eL (eT (eO PyData.int))) longer_102), .d ((eT (eO PyData.int)) x_97), .u, .u, .u, .u, .u, .u, .u, .u, .u, .u]) (v := ((l_96 ++ ((((rgI 0 (bills_87.length : Int)).map some) ++ ([(none : (Option Int))] : (List (Option Int)))).map fun x_98 : (Option Int) => (x_97 ++ ([x_98] : (List (Option Int)))))) : (List (List (Option Int))))) fun longer_102 e_longer_102 => ?_
            have hok := let_ok hok longer_102 e_longer_102
            exact jn_nil (by walk_at "le")
          refine jn_let (F := fun l : (List (List (Option Int))) => [.d (.dict [(.none, .list (script.map .int))]), .o none (drD m_85.2), .d (PyData.int places_5), .o none ((eL PyData.int) l_26), .u, .u, .d (PyData.int guests_32), .d (PyData.int l_66), .d ((eL (eP2 PyData.int PyData.int)) told_41), .u, .u, .d ((eT (eP3 PyData.str PyData.int PyData.int)) vouchers_78), .d ((eT (eP2 PyData.int PyData.int)) bills_87), .d ((eL (eT (eO PyData.int))) l_91), .d ((eP3 PyData.str PyData.int PyData.int) x_92), .d ((eL (eT (eO PyData.int))) l), .u, .u, .u, .u, .u, .u, .u, .u, .u, .u, .u]) fun l_109 e_l_109 => ?_
          have hok := let_ok hok l_109 e_l_109
          refine jn_cons (js_set 13 nd (je_var 15)) ?_
          refine jn_let (F := fun rows_111 : (List (List (Option Int))) => [.d (.dict [(.none, .list (script.map .int))]), .o none (drD m_85.2), .d (PyData.int places_5), .o none ((eL PyData.int) l_26), .u, .u, .d (PyData.int guests_32), .d (PyData.int l_66), .d ((eL (eP2 PyData.int PyData.int)) told_41), .u, .u, .d ((eT (eP3 PyData.str PyData.int PyData.int)) vouchers_78), .d ((eT (eP2 PyData.int PyData.int)) bills_87), .d ((eL (eT (eO PyData.int))) rows_111), .d ((eP3 PyData.str PyData.int PyData.int) x_92), .d ((eL (eT (eO PyData.int))) l_109), .u, .u, .u, .u, .u, .u, .u, .u, .u, .u, .u]) (v := (l_109 : (List (List (Option Int))))) fun rows_111 e_rows_111 => ?_
          have hok := let_ok hok rows_111 e_rows_111
          exact jn_nil (by walk_at "le")
        refine jb_let (F := fun l : (List (List (Option Int))) => [.d (.dict [(.none, .list (script.map .int))]), .o none (drD m_85.2), .d (PyData.int places_5), .o none ((eL PyData.int) l_26), .u, .u, .d (PyData.int guests_32), .d (PyData.int l_66), .d ((eL (eP2 PyData.int PyData.int)) told_41), .u, .u, .d ((eT (eP3 PyData.str PyData.int PyData.int)) vouchers_78), .d ((eT (eP2 PyData.int PyData.int)) bills_87), .d ((eL (eT (eO PyData.int))) l), .u, .u, .u, .u, .u, .u, .u, .u, .u, .u, .u, .u, .u]) fun l_118 e_l_118 => ?_
        have hok := let_ok hok l_118 e_l_118
        refine jb_cons (js_par2 17 18 nd rfl rfl (by decide) rfl rfl (jao_o (je_lst ja_nil) (jao_o (je_lst ja_nil) jao_nil)) (by walk_at "hw")) ?_
        refine jb_let (F := fun good_120 : (List (List (Option Int))) => [.d (.dict [(.none, .list (script.map .int))]), .o none (drD m_85.2), .d (PyData.int places_5), .o none ((eL PyData.int) l_26), .u, .u, .d (PyData.int guests_32), .d (PyData.int l_66), .d ((eL (eP2 PyData.int PyData.int)) told_41), .u, .u, .d ((eT (eP3 PyData.str PyData.int PyData.int)) vouchers_78), .d ((eT (eP2 PyData.int PyData.int)) bills_87), .d ((eL (eT (eO PyData.int))) l_118), .u, .u, .u, .o none ((eL (eT (eO PyData.int))) good_120), .o none ((eL (eP3 PyData.int PyData.int PyData.int)) ([] : (List (Int × Int × Int)))), .u, .u, .u, .u, .u, .u, .u, .u]) (v := (([] : (List (List (Option Int)))) : (List (List (Option Int))))) fun good_120 e_good_120 => ?_
        have hok := let_ok hok good_120 e_good_120
        refine jb_let (F := fun ranked_121 : (List (Int × Int × Int)) => [.d (.dict [(.none, .list (script.map .int))]), .o none (drD m_85.2), .d (PyData.int places_5), .o none ((eL PyData.int) l_26), .u, .u, .d (PyData.int guests_32), .d (PyData.int l_66), .d ((eL (eP2 PyData.int PyData.int)) told_41), .u, .u, .d ((eT (eP3 PyData.str PyData.int PyData.int)) vouchers_78), .d ((eT (eP2 PyData.int PyData.int)) bills_87), .d ((eL (eT (eO PyData.int))) l_118), .u, .u, .u, .o none ((eL (eT (eO PyData.int))) good_120), .o none ((eL (eP3 PyData.int PyData.int PyData.int)) ranked_121), .u, .u, .u, .u, .u, .u, .u, .u]) (v := (([] : (List (Int × Int × Int))) : (List (Int × Int × Int)))) fun ranked_121 e_ranked_121 => ?_
        have hok := let_ok hok ranked_121 e_ranked_121
        obtain ⟨hs_122, hok⟩ := hok
        obtain ⟨hf_148, hok⟩ := hok
        refine jb_cons (js_forN (enc := PyData.int) (fun l : ((List (List (Option Int))) × (List (Int × Int × Int))) => [.d (.dict [(.none, .list (script.map .int))]), .o none (drD m_85.2), .d (PyData.int places_5), .o none ((eL PyData.int) l_26), .u, .u, .d (PyData.int guests_32), .d (PyData.int l_66), .d ((eL (eP2 PyData.int PyData.int)) told_41), .u, .u, .d ((eT (eP3 PyData.str PyData.int PyData.int)) vouchers_78), .d ((eT (eP2 PyData.int PyData.int)) bills_87), .d ((eL (eT (eO PyData.int))) l_118), .u, .u, .u, .o none ((eL (eT (eO PyData.int))) l.1), .o none ((eL (eP3 PyData.int PyData.int PyData.int)) l.2), .u, .u, .u, .u, .u, .u, .u, .u]) (law_s_144 vouchers_78 bills_87 l_118) (good_120, ranked_121) (ji_range1 rfl X.m_range (je_lenL' rfl X.m_len (je_b (je_var 13))) hs_122) (by walk_at "le") (fun i_147 x_124 l_123 hx_145 hl_146 => ?_)) ?_
        · have hok := hf_148 i_147 x_124 l_123 hx_145 hl_146
          unfold law_s_144_ok at hok
          unfold law_s_144
          refine ⟨[19], [.d (.dict [(.none, .list (script.map .int))]), .o none (drD m_85.2), .d (PyData.int places_5), .o none ((eL PyData.int) l_26), .u, .u, .d (PyData.int guests_32), .d (PyData.int l_66), .d ((eL (eP2 PyData.int PyData.int)) told_41), .u, .u, .d ((eT (eP3 PyData.str PyData.int PyData.int)) vouchers_78), .d ((eT (eP2 PyData.int PyData.int)) bills_87), .d ((eL (eT (eO PyData.int))) l_118), .u, .u, .u, .o none ((eL (eT (eO PyData.int))) l_123.1), .o none ((eL (eP3 PyData.int PyData.int PyData.int)) l_123.2), .d (PyData.int x_124), .u, .u, .u, .u, .u, .u, .u], (jg_name 19 (by exact nd)), ?_⟩
          obtain ⟨hs_129, hok⟩ := hok
          obtain ⟨ha_141, hb_142, hok⟩ := hok
          refine jn_cons (js_ifN (l := law_t_138 vouchers_78 bills_87 l_118 l_123 x_124) (l' := law_e_139 l_123) (E := fun l : ((List (List (Option Int))) × (List (Int × Int × Int))) => [.d (.dict [(.none, .list (script.map .int))]), .o none (drD m_85.2), .d (PyData.int places_5), .o none ((eL PyData.int) l_26), .u, .u, .d (PyData.int guests_32), .d (PyData.int l_66), .d ((eL (eP2 PyData.int PyData.int)) told_41), .u, .u, .d ((eT (eP3 PyData.str PyData.int PyData.int)) vouchers_78), .d ((eT (eP2 PyData.int PyData.int)) bills_87), .d ((eL (eT (eO PyData.int))) l_118), .u, .u, .u, .o none ((eL (eT (eO PyData.int))) l.1), .o none ((eL (eP3 PyData.int PyData.int PyData.int)) l.2), .d (PyData.int x_124), .u, .u, .u, .u, .u, .u, .u]) (jt_v (je_all rfl X.m_all (je_fb (je_lc0 (enc := PyData.int) (dec := PyData.bool) [("j", 24)] (fun x_125 : Int => ((gI (gI l_118 x_124) x_125).isNone || (decide ((gI bills_87 (unO (gI (gI l_118 x_124) x_125))).1 ≤ (gI vouchers_78 x_125).2.2)))) (ji_range1 rfl X.m_range (je_lenT' rfl X.m_len (je_b (je_var 11))) hs_129.1) (by exact nd) rfl (unk_of rfl) (fun x_125 hx_127 => lcp (js := [24]) (E1 := [.d (.dict [(.none, .list (script.map .int))]), .o none (drD m_85.2), .d (PyData.int places_5), .o none ((eL PyData.int) l_26), .u, .u, .d (PyData.int guests_32), .d (PyData.int l_66), .d ((eL (eP2 PyData.int PyData.int)) told_41), .u, .u, .d ((eT (eP3 PyData.str PyData.int PyData.int)) vouchers_78), .d ((eT (eP2 PyData.int PyData.int)) bills_87), .d ((eL (eT (eO PyData.int))) l_118), .u, .u, .u, .o none ((eL (eT (eO PyData.int))) l_123.1), .o none ((eL (eP3 PyData.int PyData.int PyData.int)) l_123.2), .d (PyData.int x_124), .u, .u, .u, .u, .d (PyData.int x_125), .u, .u]) (by simp) (jg_name 24 (by exact nd)) jts_nil (by walk_at "le") fun hc_128 => (je_or (je_isNo (enc := PyData.int) (je_b (je_ixT' (enc := (eO PyData.int)) (j2d (je_ixL' (enc := (eT (eO PyData.int))) (j2d (je_var 13) (je_var 19)) (hs_129.2 x_125 hx_127).1) (je_var 24)) (hs_129.2 x_125 hx_127).2.1))) (fun hc_126 => (je_one (je_c (cj_le (j2d (je_ixT (z := PyData.int (gI bills_87 (unO (gI (gI l_118 x_124) x_125))).1) (j2d (je_ixT' (enc := (eP2 PyData.int PyData.int)) (j2d (je_var 12) (je_un (enc := PyData.int) (o := (gI (gI l_118 x_124) x_125)) (je_ixT' (enc := (eO PyData.int)) (j2d (je_ixL' (enc := (eT (eO PyData.int))) (j2d (je_var 13) (je_var 19)) ((hs_129.2 x_125 hx_127).2.2 hc_126).1) (je_var 24)) ((hs_129.2 x_125 hx_127).2.2 hc_126).2.1) ((hs_129.2 x_125 hx_127).2.2 hc_126).2.2.1)) ((hs_129.2 x_125 hx_127).2.2 hc_126).2.2.2.1) je_int) rfl) (je_ixT (z := PyData.int (gI vouchers_78 x_125).2.2) (j2d (je_ixT' (enc := (eP3 PyData.str PyData.int PyData.int)) (j2d (je_var 11) (je_var 24)) ((hs_129.2 x_125 hx_127).2.2 hc_126).2.2.2.2) je_int) rfl)))))))))))) (fun hc_130 => ?_) (fun hc_130 => ?_)) ?_
          · have hok := ha_141 hc_130
            unfold law_t_138_ok at hok
            unfold law_t_138
            obtain ⟨hs_131, hok⟩ := hok
            refine jn_cons (js_expr (je_append' (enc := (eT (eO PyData.int))) (xs := l_123.1) (x := (gI l_118 x_124)) 17 (je_ixL' (enc := (eT (eO PyData.int))) (j2d (je_var 13) (je_var 19)) hs_131.1) hs_131.2)) ?_
            refine jn_let (F := fun good_132 : (List (List (Option Int))) => [.d (.dict [(.none, .list (script.map .int))]), .o none (drD m_85.2), .d (PyData.int places_5), .o none ((eL PyData.int) l_26), .u, .u, .d (PyData.int guests_32), .d (PyData.int l_66), .d ((eL (eP2 PyData.int PyData.int)) told_41), .u, .u, .d ((eT (eP3 PyData.str PyData.int PyData.int)) vouchers_78), .d ((eT (eP2 PyData.int PyData.int)) bills_87), .d ((eL (eT (eO PyData.int))) l_118), .u, .u, .u, .o none ((eL (eT (eO PyData.int))) good_132), .o none ((eL (eP3 PyData.int PyData.int PyData.int)) l_123.2), .d (PyData.int x_124), .u, .u, .u, .u, .u, .u, .u]) (v := ((l_123.1 ++ [(gI l_118 x_124)]) : (List (List (Option Int))))) fun good_132 e_good_132 => ?_
            have hok := let_ok hok good_132 e_good_132
            obtain ⟨hs_136, hok⟩ := hok
            refine jn_cons (js_expr (je_append' (enc := (eP3 PyData.int PyData.int PyData.int)) (xs := l_123.2) (x := (((0 : Int) - (law_saved vouchers_78 bills_87 (gI l_118 x_124))), ((((gI l_118 x_124).filter fun x_133 : (Option Int) => (!x_133.isNone)).map fun x_133 : (Option Int) => (unO x_133)).length : Int), x_124)) 18 (je_tup (ja_cons (je_sub (j2d je_int (je_call' (d := PyData.int (law_saved vouchers_78 bills_87 (gI l_118 x_124))) (ok_law_saved X) (vouchers_78, bills_87, (gI l_118 x_124)) X.o_law_saved.m X.o_law_saved.F.kp X.o_law_saved.b (ja_cons (je_var 11) (ja_cons (je_var 12) (ja_cons (je_ixL' (enc := (eT (eO PyData.int))) (j2d (je_var 13) (je_var 19)) hs_136.1) ja_nil))) hs_136.2.1))) (ja_cons (je_lenL' rfl X.m_len (je_fb (je_lc1 (enc := (eO PyData.int)) (dec := PyData.int) [("bill", 26)] (fun x_133 : (Option Int) => (!x_133.isNone)) (fun x_133 : (Option Int) => (unO x_133)) (ji_tup (je_ixL' (enc := (eT (eO PyData.int))) (j2d (je_var 13) (je_var 19)) hs_136.2.2.1)) (by exact nd) rfl (unk_of rfl) (fun x_133 hx_134 => lcp (js := [26]) (E1 := [.d (.dict [(.none, .list (script.map .int))]), .o none (drD m_85.2), .d (PyData.int places_5), .o none ((eL PyData.int) l_26), .u, .u, .d (PyData.int guests_32), .d (PyData.int l_66), .d ((eL (eP2 PyData.int PyData.int)) told_41), .u, .u, .d ((eT (eP3 PyData.str PyData.int PyData.int)) vouchers_78), .d ((eT (eP2 PyData.int PyData.int)) bills_87), .d ((eL (eT (eO PyData.int))) l_118), .u, .u, .u, .o none ((eL (eT (eO PyData.int))) good_132), .o none ((eL (eP3 PyData.int PyData.int PyData.int)) l_123.2), .d (PyData.int x_124), .u, .u, .u, .u, .u, .u, .d ((eO PyData.int) x_133)]) (by simp) (jg_name 26 (by exact nd)) (jts_one (jt_notNo (enc := PyData.int) (je_b (je_var 26)))) (by walk_at "le") fun hc_135 => (je_un (enc := PyData.int) (o := x_133) (je_var 26) ((hs_136.2.2.2.1 x_133 hx_134) hc_135)))))) (ja_cons (je_var 19) ja_nil)))) hs_136.2.2.2.2)) ?_
            refine jn_let (F := fun ranked_137 : (List (Int × Int × Int)) => [.d (.dict [(.none, .list (script.map .int))]), .o none (drD m_85.2), .d (PyData.int places_5), .o none ((eL PyData.int) l_26), .u, .u, .d (PyData.int guests_32), .d (PyData.int l_66), .d ((eL (eP2 PyData.int PyData.int)) told_41), .u, .u, .d ((eT (eP3 PyData.str PyData.int PyData.int)) vouchers_78), .d ((eT (eP2 PyData.int PyData.int)) bills_87), .d ((eL (eT (eO PyData.int))) l_118), .u, .u, .u, .o none ((eL (eT (eO PyData.int))) good_132), .o none ((eL (eP3 PyData.int PyData.int PyData.int)) ranked_137), .d (PyData.int x_124), .u, .u, .u, .u, .u, .u, .u]) (v := ((l_123.2 ++ [(((0 : Int) - (law_saved vouchers_78 bills_87 (gI l_118 x_124))), ((((gI l_118 x_124).filter fun x_133 : (Option Int) => (!x_133.isNone)).map fun x_133 : (Option Int) => (unO x_133)).length : Int), x_124)]) : (List (Int × Int × Int)))) fun ranked_137 e_ranked_137 => ?_
            have hok := let_ok hok ranked_137 e_ranked_137
            exact jn_nil (by walk_at "le")
          · have hok := hb_142 hc_130
            unfold law_e_139_ok at hok
            unfold law_e_139
            exact jn_nil (by walk_at "le")
          refine jn_let (F := fun l : ((List (List (Option Int))) × (List (Int × Int × Int))) => [.d (.dict [(.none, .list (script.map .int))]), .o none (drD m_85.2), .d (PyData.int places_5), .o none ((eL PyData.int) l_26), .u, .u, .d (PyData.int guests_32), .d (PyData.int l_66), .d ((eL (eP2 PyData.int PyData.int)) told_41), .u, .u, .d ((eT (eP3 PyData.str PyData.int PyData.int)) vouchers_78), .d ((eT (eP2 PyData.int PyData.int)) bills_87), .d ((eL (eT (eO PyData.int))) l_118), .u, .u, .u, .o none ((eL (eT (eO PyData.int))) l.1), .o none ((eL (eP3 PyData.int PyData.int PyData.int)) l.2), .d (PyData.int x_124), .u, .u, .u, .u, .u, .u, .u]) fun l_140 e_l_140 => ?_
          have hok := let_ok hok l_140 e_l_140
          exact jn_nil (by walk_at "le")
        refine jb_let (F := fun l : ((List (List (Option Int))) × (List (Int × Int × Int))) => [.d (.dict [(.none, .list (script.map .int))]), .o none (drD m_85.2), .d (PyData.int places_5), .o none ((eL PyData.int) l_26), .u, .u, .d (PyData.int guests_32), .d (PyData.int l_66), .d ((eL (eP2 PyData.int PyData.int)) told_41), .u, .u, .d ((eT (eP3 PyData.str PyData.int PyData.int)) vouchers_78), .d ((eT (eP2 PyData.int PyData.int)) bills_87), .d ((eL (eT (eO PyData.int))) l_118), .u, .u, .u, .o none ((eL (eT (eO PyData.int))) l.1), .o none ((eL (eP3 PyData.int PyData.int PyData.int)) l.2), .u, .u, .u, .u, .u, .u, .u, .u]) fun l_149 e_l_149 => ?_
        have hok := let_ok hok l_149 e_l_149
        refine jb_pre fun q_150 e_q_150 => ?_
        have hok := let_ok hok q_150 e_q_150
        obtain ⟨hs_151, hok⟩ := hok
        refine jb_cons (js_set 20 nd (je_ixLV (enc := (eT (eO PyData.int))) (xs := l_149.1) 17 (je_callO' 1 (d := .int q_150.1) (e2 := [.d (.dict [(.none, .list (script.map .int))]), .o none (drD q_150.2), .d (PyData.int places_5), .o none ((eL PyData.int) l_26), .u, .u, .d (PyData.int guests_32), .d (PyData.int l_66), .d ((eL (eP2 PyData.int PyData.int)) told_41), .u, .u, .d ((eT (eP3 PyData.str PyData.int PyData.int)) vouchers_78), .d ((eT (eP2 PyData.int PyData.int)) bills_87), .d ((eL (eT (eO PyData.int))) l_118), .u, .u, .u, .o none ((eL (eT (eO PyData.int))) l_149.1), .o none ((eL (eP3 PyData.int PyData.int PyData.int)) l_149.2), .u, .u, .u, .u, .u, .u, .u, .u]) (ok_next X) (m_85.2, (l_149.1.length : Int)) X.o_next.m X.o_next.F.kp X.o_next.b (ja_cons (je_lenL' rfl X.m_len (je_varB 17)) ja_nil) hs_151.1 (hq := by subst e_q_150; rfl) (he := by subst e_q_150; rfl)) hs_151.2)) ?_
        refine jb_let (F := fun pick_152 : (List (Option Int)) => [.d (.dict [(.none, .list (script.map .int))]), .o none (drD q_150.2), .d (PyData.int places_5), .o none ((eL PyData.int) l_26), .u, .u, .d (PyData.int guests_32), .d (PyData.int l_66), .d ((eL (eP2 PyData.int PyData.int)) told_41), .u, .u, .d ((eT (eP3 PyData.str PyData.int PyData.int)) vouchers_78), .d ((eT (eP2 PyData.int PyData.int)) bills_87), .d ((eL (eT (eO PyData.int))) l_118), .u, .u, .u, .o none ((eL (eT (eO PyData.int))) l_149.1), .o none ((eL (eP3 PyData.int PyData.int PyData.int)) l_149.2), .u, .d ((eT (eO PyData.int)) pick_152), .u, .u, .u, .u, .u, .u]) (v := ((gI l_149.1 q_150.1) : (List (Option Int)))) fun pick_152 e_pick_152 => ?_
        have hok := let_ok hok pick_152 e_pick_152
        obtain ⟨hs_154, hok⟩ := hok
        refine jb_ifr (jt_w (jw_or (jt_not (jt_v (je_call' (ok_same X 0) (PyData.int (saved vouchers_78 bills_87 pick_152), PyData.int (law_saved vouchers_78 bills_87 pick_152)) X.o_same.m X.o_same.F.kp X.o_same.b (ja_cons (je_call' (d := PyData.int (saved vouchers_78 bills_87 pick_152)) (ok_saved X) (vouchers_78, bills_87, pick_152) X.o_saved.m X.o_saved.F.kp X.o_saved.b (ja_cons (je_var 11) (ja_cons (je_var 12) (ja_cons (je_var 20) ja_nil))) hs_154.1) (ja_cons (je_call' (d := PyData.int (law_saved vouchers_78 bills_87 pick_152)) (ok_law_saved X) (vouchers_78, bills_87, pick_152) X.o_law_saved.m X.o_law_saved.F.kp X.o_law_saved.b (ja_cons (je_var 11) (ja_cons (je_var 12) (ja_cons (je_var 20) ja_nil))) hs_154.2.1) ja_nil)) (sp_int (saved vouchers_78 bills_87 pick_152) (law_saved vouchers_78 bills_87 pick_152)) (hq := same_q sm_int (saved vouchers_78 bills_87 pick_152) (law_saved vouchers_78 bills_87 pick_152))))) (fun hc_153 => (jw_or1 (jt_not (jt_v (je_call' (ok_same X 2) ((eP2 PyData.int (eT (eO PyData.int))) (best_use vouchers_78 bills_87), (eP2 PyData.int (eT (eO PyData.int))) (((0 : Int) - (pyMin (eP3 PyData.int PyData.int PyData.int) l_149.2).1), (gI l_118 (pyMin (eP3 PyData.int PyData.int PyData.int) l_149.2).2.2))) X.o_same.m X.o_same.F.kp X.o_same.b (ja_cons (je_call' (d := (eP2 PyData.int (eT (eO PyData.int))) (best_use vouchers_78 bills_87)) (ok_best_use X) (vouchers_78, bills_87) X.o_best_use.m X.o_best_use.F.kp X.o_best_use.b (ja_cons (je_var 11) (ja_cons (je_var 12) ja_nil)) (hs_154.2.2 hc_153).1) (ja_cons (je_tup (ja_cons (je_sub (j2d je_int (je_ixT (z := PyData.int (pyMin (eP3 PyData.int PyData.int PyData.int) l_149.2).1) (j2d (je_minL (enc := (eP3 PyData.int PyData.int PyData.int)) rfl X.m_min (je_varB 18) (alk_p3 alk_int alk_int alk_int) (hs_154.2.2 hc_153).2.1) je_int) rfl))) (ja_cons (je_ixL' (enc := (eT (eO PyData.int))) (j2d (je_var 13) (je_ixT (z := PyData.int (pyMin (eP3 PyData.int PyData.int PyData.int) l_149.2).2.2) (j2d (je_minL (enc := (eP3 PyData.int PyData.int PyData.int)) rfl X.m_min (je_varB 18) (alk_p3 alk_int alk_int alk_int) (hs_154.2.2 hc_153).2.2.1) je_int) rfl)) (hs_154.2.2 hc_153).2.2.2) ja_nil))) ja_nil)) ((sp_p2 sp_int (sp_t (sp_o sp_int (fun _ => by rfl)))) (best_use vouchers_78 bills_87) (((0 : Int) - (pyMin (eP3 PyData.int PyData.int PyData.int) l_149.2).1), (gI l_118 (pyMin (eP3 PyData.int PyData.int PyData.int) l_149.2).2.2))) (hq := same_q (sm_p2 sm_int (sm_t (sm_o sm_int (fun _ => ⟨by simp [sameD], by simp [sameD]⟩)))) (best_use vouchers_78 bills_87) (((0 : Int) - (pyMin (eP3 PyData.int PyData.int PyData.int) l_149.2).1), (gI l_118 (pyMin (eP3 PyData.int PyData.int PyData.int) l_149.2).2.2)))))))))) (fun hc_155 => ?_) (fun hc_155 => ?_)
        · have hok := hok.1 hc_155
          have hs_156 := hok
          exact jb_ret je_bl (by walk_at "le")
        · have hok := hok.2 hc_155
          refine jb_pre fun q_157 e_q_157 => ?_
          have hok := let_ok hok q_157 e_q_157
          obtain ⟨hs_158, hok⟩ := hok
          refine jb_cons (js_set 16 nd (je_ixL' (enc := (eT (eO PyData.int))) (j2d (je_var 13) (je_callO' 1 (d := .int q_157.1) (e2 := [.d (.dict [(.none, .list (script.map .int))]), .o none (drD q_157.2), .d (PyData.int places_5), .o none ((eL PyData.int) l_26), .u, .u, .d (PyData.int guests_32), .d (PyData.int l_66), .d ((eL (eP2 PyData.int PyData.int)) told_41), .u, .u, .d ((eT (eP3 PyData.str PyData.int PyData.int)) vouchers_78), .d ((eT (eP2 PyData.int PyData.int)) bills_87), .d ((eL (eT (eO PyData.int))) l_118), .u, .u, .u, .o none ((eL (eT (eO PyData.int))) l_149.1), .o none ((eL (eP3 PyData.int PyData.int PyData.int)) l_149.2), .u, .d ((eT (eO PyData.int)) pick_152), .u, .u, .u, .u, .u, .u]) (ok_next X) (q_150.2, (l_118.length : Int)) X.o_next.m X.o_next.F.kp X.o_next.b (ja_cons (je_lenL' rfl X.m_len (je_b (je_var 13))) ja_nil) hs_158.1 (hq := by subst e_q_157; rfl) (he := by subst e_q_157; rfl))) hs_158.2)) ?_
          refine jb_let (F := fun row_159 : (List (Option Int)) => [.d (.dict [(.none, .list (script.map .int))]), .o none (drD q_157.2), .d (PyData.int places_5), .o none ((eL PyData.int) l_26), .u, .u, .d (PyData.int guests_32), .d (PyData.int l_66), .d ((eL (eP2 PyData.int PyData.int)) told_41), .u, .u, .d ((eT (eP3 PyData.str PyData.int PyData.int)) vouchers_78), .d ((eT (eP2 PyData.int PyData.int)) bills_87), .d ((eL (eT (eO PyData.int))) l_118), .u, .u, .d ((eT (eO PyData.int)) row_159), .o none ((eL (eT (eO PyData.int))) l_149.1), .o none ((eL (eP3 PyData.int PyData.int PyData.int)) l_149.2), .u, .d ((eT (eO PyData.int)) pick_152), .u, .u, .u, .u, .u, .u]) (v := ((gI l_118 q_157.1) : (List (Option Int)))) fun row_159 e_row_159 => ?_
          have hok := let_ok hok row_159 e_row_159
          obtain ⟨hs_169, hok⟩ := hok
          refine jb_cons (js_set 21 nd (je_fz (je_lst (ja_cons (je_fz (je_listT (xs := pick_152.map (eO PyData.int)) rfl X.m_list (je_b (je_var 20)))) (ja_cons je_non (ja_cons (je_catT' (enc := (eO PyData.int)) (j2d (je_var 20) (je_tup (ja_cons je_non ja_nil))) hs_169.1) (ja_cons (je_catT' (enc := eD) (j2d (je_anyTd (enc := PyData.str) (xs := (vouchers_78.map fun x_160 : (Str × Int × Int) => ("0" : Str))) (je_tupL (xs := (vouchers_78.map fun x_160 : (Str × Int × Int) => ("0" : Str)).map PyData.str) rfl X.m_tuple (je_fb (je_lc0 (enc := (eP3 PyData.str PyData.int PyData.int)) (dec := PyData.str) [("voucher", 14)] (fun x_160 : (Str × Int × Int) => ("0" : Str)) (ji_tup (je_var 11)) (by exact nd) rfl (unk_of rfl) (fun x_160 hx_161 => lcp (js := [14]) (E1 := [.d (.dict [(.none, .list (script.map .int))]), .o none (drD q_157.2), .d (PyData.int places_5), .o none ((eL PyData.int) l_26), .u, .u, .d (PyData.int guests_32), .d (PyData.int l_66), .d ((eL (eP2 PyData.int PyData.int)) told_41), .u, .u, .d ((eT (eP3 PyData.str PyData.int PyData.int)) vouchers_78), .d ((eT (eP2 PyData.int PyData.int)) bills_87), .d ((eL (eT (eO PyData.int))) l_118), .d ((eP3 PyData.str PyData.int PyData.int) x_160), .u, .d ((eT (eO PyData.int)) row_159), .o none ((eL (eT (eO PyData.int))) l_149.1), .o none ((eL (eP3 PyData.int PyData.int PyData.int)) l_149.2), .u, .d ((eT (eO PyData.int)) pick_152), .u, .u, .u, .u, .u, .u]) (by simp) (jg_name 14 (by exact nd)) jts_nil (by walk_at "le") fun hc_162 => (je_str)))))) (je_tup (ja_cons je_int ja_nil))) hs_169.2.1) (ja_cons (je_catT' (enc := eD) (j2d (je_anyTd (enc := PyData.int) (xs := (vouchers_78.map fun x_163 : (Str × Int × Int) => (bills_87.length : Int))) (je_tupL (xs := (vouchers_78.map fun x_163 : (Str × Int × Int) => (bills_87.length : Int)).map PyData.int) rfl X.m_tuple (je_fb (je_lc0 (enc := (eP3 PyData.str PyData.int PyData.int)) (dec := PyData.int) [("voucher", 14)] (fun x_163 : (Str × Int × Int) => (bills_87.length : Int)) (ji_tup (je_var 11)) (by exact nd) rfl (unk_of rfl) (fun x_163 hx_164 => lcp (js := [14]) (E1 := [.d (.dict [(.none, .list (script.map .int))]), .o none (drD q_157.2), .d (PyData.int places_5), .o none ((eL PyData.int) l_26), .u, .u, .d (PyData.int guests_32), .d (PyData.int l_66), .d ((eL (eP2 PyData.int PyData.int)) told_41), .u, .u, .d ((eT (eP3 PyData.str PyData.int PyData.int)) vouchers_78), .d ((eT (eP2 PyData.int PyData.int)) bills_87), .d ((eL (eT (eO PyData.int))) l_118), .d ((eP3 PyData.str PyData.int PyData.int) x_163), .u, .d ((eT (eO PyData.int)) row_159), .o none ((eL (eT (eO PyData.int))) l_149.1), .o none ((eL (eP3 PyData.int PyData.int PyData.int)) l_149.2), .u, .d ((eT (eO PyData.int)) pick_152), .u, .u, .u, .u, .u, .u]) (by simp) (jg_name 14 (by exact nd)) jts_nil (by walk_at "le") fun hc_165 => (je_lenT' rfl X.m_len (je_b (je_var 12)))))))) (je_tup (ja_cons je_non ja_nil))) hs_169.2.2.1) (ja_cons (je_catT' (enc := PyData.bool) (j2d (je_tupL (xs := (vouchers_78.map fun x_166 : (Str × Int × Int) => true).map PyData.bool) rfl X.m_tuple (je_fb (je_lc0 (enc := (eP3 PyData.str PyData.int PyData.int)) (dec := PyData.bool) [("voucher", 14)] (fun x_166 : (Str × Int × Int) => true) (ji_tup (je_var 11)) (by exact nd) rfl (unk_of rfl) (fun x_166 hx_167 => lcp (js := [14]) (E1 := [.d (.dict [(.none, .list (script.map .int))]), .o none (drD q_157.2), .d (PyData.int places_5), .o none ((eL PyData.int) l_26), .u, .u, .d (PyData.int guests_32), .d (PyData.int l_66), .d ((eL (eP2 PyData.int PyData.int)) told_41), .u, .u, .d ((eT (eP3 PyData.str PyData.int PyData.int)) vouchers_78), .d ((eT (eP2 PyData.int PyData.int)) bills_87), .d ((eL (eT (eO PyData.int))) l_118), .d ((eP3 PyData.str PyData.int PyData.int) x_166), .u, .d ((eT (eO PyData.int)) row_159), .o none ((eL (eT (eO PyData.int))) l_149.1), .o none ((eL (eP3 PyData.int PyData.int PyData.int)) l_149.2), .u, .d ((eT (eO PyData.int)) pick_152), .u, .u, .u, .u, .u, .u]) (by simp) (jg_name 14 (by exact nd)) jts_nil (by walk_at "le") fun hc_168 => je_bl)))) (je_tup (ja_cons je_bl ja_nil))) hs_169.2.2.2) ja_nil))))))))) ?_
          refine jb_let (F := fun wrong_170 : (List PyData) => [.d (.dict [(.none, .list (script.map .int))]), .o none (drD q_157.2), .d (PyData.int places_5), .o none ((eL PyData.int) l_26), .u, .u, .d (PyData.int guests_32), .d (PyData.int l_66), .d ((eL (eP2 PyData.int PyData.int)) told_41), .u, .u, .d ((eT (eP3 PyData.str PyData.int PyData.int)) vouchers_78), .d ((eT (eP2 PyData.int PyData.int)) bills_87), .d ((eL (eT (eO PyData.int))) l_118), .u, .u, .d ((eT (eO PyData.int)) row_159), .o none ((eL (eT (eO PyData.int))) l_149.1), .o none ((eL (eP3 PyData.int PyData.int PyData.int)) l_149.2), .u, .d ((eT (eO PyData.int)) pick_152), .d ((eL eD) wrong_170), .u, .u, .u, .u, .u]) (v := (([((eL (eO PyData.int)) pick_152), PyData.none, ((eT (eO PyData.int)) (pick_152 ++ ([(none : (Option Int))] : (List (Option Int))))), ((eT eD) (((vouchers_78.map fun x_160 : (Str × Int × Int) => ("0" : Str)).map PyData.str) ++ ([(PyData.int (0 : Int))] : (List PyData)))), ((eT eD) (((vouchers_78.map fun x_163 : (Str × Int × Int) => (bills_87.length : Int)).map PyData.int) ++ ([PyData.none] : (List PyData)))), ((eT PyData.bool) ((vouchers_78.map fun x_166 : (Str × Int × Int) => true) ++ ([false] : (List Bool))))] : (List PyData)) : (List PyData))) fun wrong_170 e_wrong_170 => ?_
          have hok := let_ok hok wrong_170 e_wrong_170
          refine jb_pre fun m_175 e_m_175 => ?_
          have hok := let_ok hok m_175 e_m_175
          obtain ⟨hs_177, hok⟩ := hok
          refine jb_ifr (jt_w (jw_andD (e3 := [.d (.dict [(.none, .list (script.map .int))]), .o none (drD (if (!vouchers_78.isEmpty) = true then m_175.2 else q_157.2)), .d (PyData.int places_5), .o none ((eL PyData.int) l_26), .u, .u, .d (PyData.int guests_32), .d (PyData.int l_66), .d ((eL (eP2 PyData.int PyData.int)) told_41), .u, .u, .d ((eT (eP3 PyData.str PyData.int PyData.int)) vouchers_78), .d ((eT (eP2 PyData.int PyData.int)) bills_87), .d ((eL (eT (eO PyData.int))) l_118), .u, .u, .d ((eT (eO PyData.int)) row_159), .o none ((eL (eT (eO PyData.int))) l_149.1), .o none ((eL (eP3 PyData.int PyData.int PyData.int)) l_149.2), .u, .d ((eT (eO PyData.int)) pick_152), .d ((eL eD) wrong_170), .u, .u, .u, .u, .u]) (jt_tT (je_b (je_var 11))) (fun hc_176 => (jw_and1 (jt_c (cj_isnotB (j2d (je_call' (d := PyData.bool (is_use vouchers_78 bills_87 ((eT eD) m_175.1))) (ok_is_use X) (vouchers_78, bills_87, ((eT eD) m_175.1)) X.o_is_use.m X.o_is_use.F.kp X.o_is_use.b (ja_cons (je_var 11) (ja_cons (je_var 12) (ja_cons (je_tupL (xs := m_175.1.map eD) rfl X.m_tuple (je_fb (je_lcDq (enc := (eP3 PyData.str PyData.int PyData.int)) m_175 [("voucher", 14)] (fun s_172 : Dr => [.d (.dict [(.none, .list (script.map .int))]), .o none (drD s_172), .d (PyData.int places_5), .o none ((eL PyData.int) l_26), .u, .u, .d (PyData.int guests_32), .d (PyData.int l_66), .d ((eL (eP2 PyData.int PyData.int)) told_41), .u, .u, .d ((eT (eP3 PyData.str PyData.int PyData.int)) vouchers_78), .d ((eT (eP2 PyData.int PyData.int)) bills_87), .d ((eL (eT (eO PyData.int))) l_118), .u, .u, .d ((eT (eO PyData.int)) row_159), .o none ((eL (eT (eO PyData.int))) l_149.1), .o none ((eL (eP3 PyData.int PyData.int PyData.int)) l_149.2), .u, .d ((eT (eO PyData.int)) pick_152), .d ((eL eD) wrong_170), .u, .u, .u, .u, .u]) eD (fun (s_172 : Dr) (x_171 : (Str × Int × Int)) => (Let (nxt s_172 (4 : Int)) fun q_173 : (Int × Dr) => ((gI ([(PyData.int (bills_87.length : Int)), (PyData.int (-(1 : Int))), (PyData.str ("0" : Str)), (PyData.bool true)] : (List PyData)) q_173.1), q_173.2))) q_157.2 e_m_175 (ji_tup (je_var 11)) (by exact nd) rfl (fun _ => unk_of rfl) (fun s_172 x_171 hx_174 => lcd_let (w := (nxt s_172 (4 : Int))) fun q_173 e_q_173 => lcd (js := [14]) (E1 := [.d (.dict [(.none, .list (script.map .int))]), .o none (drD s_172), .d (PyData.int places_5), .o none ((eL PyData.int) l_26), .u, .u, .d (PyData.int guests_32), .d (PyData.int l_66), .d ((eL (eP2 PyData.int PyData.int)) told_41), .u, .u, .d ((eT (eP3 PyData.str PyData.int PyData.int)) vouchers_78), .d ((eT (eP2 PyData.int PyData.int)) bills_87), .d ((eL (eT (eO PyData.int))) l_118), .d ((eP3 PyData.str PyData.int PyData.int) x_171), .u, .d ((eT (eO PyData.int)) row_159), .o none ((eL (eT (eO PyData.int))) l_149.1), .o none ((eL (eP3 PyData.int PyData.int PyData.int)) l_149.2), .u, .d ((eT (eO PyData.int)) pick_152), .d ((eL eD) wrong_170), .u, .u, .u, .u, .u]) (E2 := [.d (.dict [(.none, .list (script.map .int))]), .o none (drD q_173.2), .d (PyData.int places_5), .o none ((eL PyData.int) l_26), .u, .u, .d (PyData.int guests_32), .d (PyData.int l_66), .d ((eL (eP2 PyData.int PyData.int)) told_41), .u, .u, .d ((eT (eP3 PyData.str PyData.int PyData.int)) vouchers_78), .d ((eT (eP2 PyData.int PyData.int)) bills_87), .d ((eL (eT (eO PyData.int))) l_118), .d ((eP3 PyData.str PyData.int PyData.int) x_171), .u, .d ((eT (eO PyData.int)) row_159), .o none ((eL (eT (eO PyData.int))) l_149.1), .o none ((eL (eP3 PyData.int PyData.int PyData.int)) l_149.2), .u, .d ((eT (eO PyData.int)) pick_152), .d ((eL eD) wrong_170), .u, .u, .u, .u, .u]) (by simp) (jg_name 14 (by exact nd)) (je_ixL' (enc := eD) (j2d (je_fz (je_lst (ja_cons (je_lenT' rfl X.m_len (je_b (je_var 12))) (ja_cons (je_neg je_int) (ja_cons (je_str) (ja_cons je_bl ja_nil)))))) (je_callO' 1 (d := .int q_173.1) (e2 := [.d (.dict [(.none, .list (script.map .int))]), .o none (drD q_173.2), .d (PyData.int places_5), .o none ((eL PyData.int) l_26), .u, .u, .d (PyData.int guests_32), .d (PyData.int l_66), .d ((eL (eP2 PyData.int PyData.int)) told_41), .u, .u, .d ((eT (eP3 PyData.str PyData.int PyData.int)) vouchers_78), .d ((eT (eP2 PyData.int PyData.int)) bills_87), .d ((eL (eT (eO PyData.int))) l_118), .d ((eP3 PyData.str PyData.int PyData.int) x_171), .u, .d ((eT (eO PyData.int)) row_159), .o none ((eL (eT (eO PyData.int))) l_149.1), .o none ((eL (eP3 PyData.int PyData.int PyData.int)) l_149.2), .u, .d ((eT (eO PyData.int)) pick_152), .d ((eL eD) wrong_170), .u, .u, .u, .u, .u]) (ok_next X) (s_172, (4 : Int)) X.o_next.m X.o_next.F.kp X.o_next.b (ja_cons je_int ja_nil) (show drN (4 : Int) from ⟨by decide, by decide⟩) (hq := by subst e_q_173; rfl) (he := by subst e_q_173; rfl))) ((hs_177 hc_176).1 s_172 x_171 hx_174 q_173 e_q_173)) (by walk_at "le"))))) ja_nil))) (hs_177 hc_176).2) je_bl))))) (fun h => by rw [if_neg (by rw [h]; exact Bool.false_ne_true)]; walk_at "le") (fun h => by rw [if_pos h]; walk_at "le"))) (fun hc_178 => ?_) (fun hc_178 => ?_)
          · have hok := hok.1 hc_178
            have hs_179 := hok
            exact jb_ret je_bl (by walk_at "le")
          · have hok := hok.2 hc_178
            refine jb_pre fun q_180 e_q_180 => ?_
            have hok := let_ok hok q_180 e_q_180
            have hs_182 := hok
            exact jb_ret (je_andU (e2 := [.d (.dict [(.none, .list (script.map .int))]), .u, .d (PyData.int places_5), .o none ((eL PyData.int) l_26), .u, .u, .d (PyData.int guests_32), .d (PyData.int l_66), .d ((eL (eP2 PyData.int PyData.int)) told_41), .u, .u, .d ((eT (eP3 PyData.str PyData.int PyData.int)) vouchers_78), .d ((eT (eP2 PyData.int PyData.int)) bills_87), .d ((eL (eT (eO PyData.int))) l_118), .u, .u, .d ((eT (eO PyData.int)) row_159), .o none ((eL (eT (eO PyData.int))) l_149.1), .o none ((eL (eP3 PyData.int PyData.int PyData.int)) l_149.2), .u, .d ((eT (eO PyData.int)) pick_152), .d ((eL eD) wrong_170), .u, .u, .u, .u, .u]) (je_call' (ok_same X 0) (PyData.bool (is_use vouchers_78 bills_87 ((eT (eO PyData.int)) row_159)), PyData.bool (inB row_159 l_149.1)) X.o_same.m X.o_same.F.kp X.o_same.b (ja_cons (je_call' (d := PyData.bool (is_use vouchers_78 bills_87 ((eT (eO PyData.int)) row_159))) (ok_is_use X) (vouchers_78, bills_87, ((eT (eO PyData.int)) row_159)) X.o_is_use.m X.o_is_use.F.kp X.o_is_use.b (ja_cons (je_var 11) (ja_cons (je_var 12) (ja_cons (je_var 16) ja_nil))) hs_182.1) (ja_cons (je_c (cj_inLB (enc := (eT (eO PyData.int))) (x := row_159) (ys := l_149.1) (j2 (je_var 16) (je_varB 17)) (sh_t (sh_o sh_int)) (sh_t (sh_o sh_int)) (eqe_t (eqe_o eqe_int (fun _ => ⟨by rfl, by rfl⟩))))) ja_nil)) (sp_bool (is_use vouchers_78 bills_87 ((eT (eO PyData.int)) row_159)) (inB row_159 l_149.1)) (hq := same_q sm_bool (is_use vouchers_78 bills_87 ((eT (eO PyData.int)) row_159)) (inB row_159 l_149.1))) (fun hc_181 => (je_oneU (e2 := [.d (.dict [(.none, .list (script.map .int))]), .u, .d (PyData.int places_5), .o none ((eL PyData.int) l_26), .u, .u, .d (PyData.int guests_32), .d (PyData.int l_66), .d ((eL (eP2 PyData.int PyData.int)) told_41), .u, .u, .d ((eT (eP3 PyData.str PyData.int PyData.int)) vouchers_78), .d ((eT (eP2 PyData.int PyData.int)) bills_87), .d ((eL (eT (eO PyData.int))) l_118), .u, .u, .d ((eT (eO PyData.int)) row_159), .o none ((eL (eT (eO PyData.int))) l_149.1), .o none ((eL (eP3 PyData.int PyData.int PyData.int)) l_149.2), .u, .d ((eT (eO PyData.int)) pick_152), .d ((eL eD) wrong_170), .u, .u, .u, .u, .u]) (je_c (cj_isB (j2d (je_call' (d := PyData.bool (is_use vouchers_78 bills_87 (gI wrong_170 q_180.1))) (ok_is_use X) (vouchers_78, bills_87, (gI wrong_170 q_180.1)) X.o_is_use.m X.o_is_use.F.kp X.o_is_use.b (ja_cons (je_var 11) (ja_cons (je_var 12) (ja_cons (je_ixL' (enc := eD) (j2d (je_var 21) (je_callO' 1 (d := .int q_180.1) (e2 := [.d (.dict [(.none, .list (script.map .int))]), .o none (drD q_180.2), .d (PyData.int places_5), .o none ((eL PyData.int) l_26), .u, .u, .d (PyData.int guests_32), .d (PyData.int l_66), .d ((eL (eP2 PyData.int PyData.int)) told_41), .u, .u, .d ((eT (eP3 PyData.str PyData.int PyData.int)) vouchers_78), .d ((eT (eP2 PyData.int PyData.int)) bills_87), .d ((eL (eT (eO PyData.int))) l_118), .u, .u, .d ((eT (eO PyData.int)) row_159), .o none ((eL (eT (eO PyData.int))) l_149.1), .o none ((eL (eP3 PyData.int PyData.int PyData.int)) l_149.2), .u, .d ((eT (eO PyData.int)) pick_152), .d ((eL eD) wrong_170), .u, .u, .u, .u, .u]) (ok_next X) ((if (!vouchers_78.isEmpty) = true then m_175.2 else q_157.2), (6 : Int)) X.o_next.m X.o_next.F.kp X.o_next.b (ja_cons je_int ja_nil) (show drN (6 : Int) from ⟨by decide, by decide⟩) (hq := by subst e_q_180; rfl) (he := by subst e_q_180; rfl))) (hs_182.2 hc_181).1) ja_nil))) (hs_182.2 hc_181).2) je_bl))) (by walk_at "le"))) (by walk_at "le")) (by walk_at "le")
end
end K22
namespace K22
open PySem L2 PySem.Spec PyProof.Rows J
/-! ### places: counted out -/
def ins (x : Int) : List Int → List Int
  | [] => [x]
  | y :: ys => if x ≤ y then x :: y :: ys else y :: ins x ys
def isort : List Int → List Int
  | [] => []
  | x :: xs => ins x (isort xs)
theorem ins_perm (x : Int) : ∀ l : List Int, (ins x l).Perm (x :: l)
  | [] => List.Perm.refl _
  | y :: ys => by
    unfold ins
    split
    · exact List.Perm.refl _
    · exact ((ins_perm x ys).cons y).trans (List.Perm.swap x y ys)
theorem isort_perm : ∀ l : List Int, (isort l).Perm l
  | [] => List.Perm.refl _
  | x :: xs => (ins_perm x (isort xs)).trans ((isort_perm xs).cons x)
theorem ins_srt (x : Int) : ∀ l : List Int, l.Pairwise (· ≤ ·) → (ins x l).Pairwise (· ≤ ·)
  | [], _ => List.pairwise_singleton _ _
  | y :: ys, h => by
    rw [List.pairwise_cons] at h
    unfold ins
    split
    · rename_i q
      rw [List.pairwise_cons]
      refine ⟨fun z hz => ?_, by rw [List.pairwise_cons]; exact h⟩
      rcases List.mem_cons.mp hz with rfl | hz
      · exact q
      · exact Int.le_trans q (h.1 z hz)
    · rename_i q
      rw [List.pairwise_cons]
      refine ⟨fun z hz => ?_, ins_srt x ys h.2⟩
      rcases List.mem_cons.mp ((ins_perm x ys).mem_iff.mp hz) with rfl | hz
      · omega
      · exact h.1 z hz
theorem isort_srt : ∀ l : List Int, (isort l).Pairwise (· ≤ ·)
  | [] => .nil
  | x :: xs => ins_srt x _ (isort_srt xs)
theorem sort_is (l : List Int) : pySort PyData.int l = isort l := pySort_eq tri_int (isort_perm l).symm ((isort_srt l).imp fun q => by rw [ltB_int, decide_eq_false_iff_not]; omega)
theorem sort_fun : (fun l : List Int => pySort PyData.int l) = isort := funext sort_is
def nearI (p g : Int) : List (Int × Option Int) := (isort (cutL (row_of p) none (some g))).foldl (nearest_s_17 (cutL (row_of p) none (some g))) []
theorem near_eq (p g : Int) : nearest p g = nearI p g := by
  show (pySort PyData.int (cutL (row_of p) none (some g))).foldl _ [] = _
  rw [sort_is]; rfl
def toldI (T : List Int) : List (Int × Option Int) := ((isort T).map fun x => (x, pyMin PyData.int ((((T.filter fun y : Int => (!decide (y = x))).map fun y : Int => (iabs (x - y))) ++ ([(99 : Int)] : List Int))))).map fun x_42 : (Int × Int) => (x_42.1, (if (decide (x_42.2 = (99 : Int))) = true then (none : (Option Int)) else (some x_42.2)))
def apC (p l : Int) : Bool := ((decide (l < p)) && (decide ((1 : Int) < (pyMin PyData.int (((nearI p (l + (1 : Int))).map fun x_4 : (Int × (Option Int)) => x_4.2).map unO)))))
theorem apC_eq (p : Int) : apart_c_8 p = apC p := by
  funext l
  unfold apart_c_8 apC
  rw [near_eq]
def apI (p : Int) : Int := whileL (apC p) apart_s_11 J.fuel 1
theorem ap_eq (p : Int) : apart p = apI p := by
  show whileL (apart_c_8 p) apart_s_11 J.fuel 1 = _
  rw [apC_eq]; rfl
def lawS (T : List Int) (most x : Int) : Int := if (((rgI (1 : Int) x).map fun k : Int => (decide ((1 : Int) < ((gI (isort (cutL T none (some x))) k) - (gI (isort (cutL T none (some x))) (k - (1 : Int))))))).all id) = true then x else most
theorem lawS_eq (T : List Int) : law_s_61 T = lawS T := by
  funext m x
  show (if (((rgI (1 : Int) x).map fun k : Int => (decide ((1 : Int) < ((gI (pySort PyData.int (cutL T none (some x))) k) - (gI (pySort PyData.int (cutL T none (some x))) (k - (1 : Int))))))).all id) = true then x else m) = _
  rw [sort_is]; rfl
def rowL (p : Int) : List Int := (rgI 0 (p - 1)).foldl (law_s_21 p) [0]
def chkP (n : Nat) : Bool :=
  let p : Int := n
  let T := rowL p
  n == 0 || (decide (row_of p = T) && (decide (T.length = n) && (decide (apI p = (rgI 2 (p + 1)).foldl (lawS T) 1) &&
    (rgI 1 (p + 1)).all fun g => (decide (nearI p g = toldI (cutL T none (some g))) && (decide (g < 2) || ((nearI p g).all (fun x => x.2.isSome) && !(nearI p g).isEmpty))))))
theorem chk_p : ((List.range 10).all chkP) = true := by decide +kernel
structure PlF (p : Int) : Prop where
  row : row_of p = rowL p
  len : ((rowL p).length : Int) = p
  ap : apart p = (rgI 2 (p + 1)).foldl (law_s_61 (rowL p)) 1
  near : ∀ g, 1 ≤ g → g ≤ p → nearest p g = toldI (cutL (rowL p) none (some g))
  some_ : ∀ g, 2 ≤ g → g ≤ p → (∀ x ∈ nearest p g, x.2.isSome = true) ∧ nearest p g ≠ []
theorem places {p : Int} (h : 1 ≤ p ∧ p ≤ 9) : PlF p := by
  obtain ⟨n, rfl⟩ := Int.eq_ofNat_of_zero_le (show 0 ≤ p by omega)
  have h1 := List.all_eq_true.mp chk_p n (List.mem_range.mpr (by omega))
  unfold chkP at h1
  have n0 : (n == 0) = false := by cases n with | zero => omega | succ n => rfl
  simp only [n0, Bool.false_or, Bool.and_eq_true, decide_eq_true_eq] at h1
  obtain ⟨q1, q2, q3, q4⟩ := h1
  have q4 := List.all_eq_true.mp q4
  refine ⟨q1, by rw [q2], by rw [ap_eq, lawS_eq]; exact q3, fun g g1 g2 => ?_, fun g g1 g2 => ?_⟩
  · have := q4 g (rgI_mem_iff.mpr ⟨g1, by omega⟩)
    rw [Bool.and_eq_true, decide_eq_true_eq] at this
    rw [near_eq]; exact this.1
  · have := q4 g (rgI_mem_iff.mpr ⟨by omega, by omega⟩)
    rw [Bool.and_eq_true, decide_eq_false (show ¬ g < 2 by omega), Bool.false_or, Bool.and_eq_true] at this
    rw [near_eq]
    refine ⟨fun x hx => List.all_eq_true.mp this.2.1 x hx, fun e => ?_⟩
    have := this.2.2
    rw [e] at this; cases this
theorem told_is (T : List Int) : ((pySort PyData.int T).map fun x_34 : Int => (x_34, (pyMin PyData.int (((T.filter fun x_35 : Int => (!decide (x_35 = x_34))).map fun x_35 : Int => (iabs (x_34 - x_35))) ++ ([(99 : Int)] : (List Int)))))).map (fun x_42 : (Int × Int) => (x_42.1, (if (decide (x_42.2 = (99 : Int))) = true then (none : (Option Int)) else (some x_42.2)))) = toldI T := by
  rw [sort_is]; rfl
/-! the run of row_of -/
def iter {L : Type} (step : L → L) : Nat → L → L
  | 0, l => l
  | n + 1, l => step (iter step n l)
theorem reach_fin {L : Type} {c : L → Bool} {step : L → L} {l0 : L} (N : Nat) (hc : c (iter step N l0) = false) : ∀ l, Reach (ρ := PyData) c (fun l => .inl (step l)) l0 l → ∃ n, n ≤ N ∧ l = iter step n l0 := fun l h => by
  induction h with
  | z => exact ⟨0, Nat.zero_le _, rfl⟩
  | @s l l' r c1 e ih =>
    cases e
    obtain ⟨n, hn, rfl⟩ := ih
    refine ⟨n + 1, ?_, rfl⟩
    by_cases q : n = N
    · subst q; rw [hc] at c1; cases c1
    · omega
theorem iter_in {L : Type} (step : L → L) : ∀ (n : Nat) (l : L), iter step n (step l) = iter step (n + 1) l
  | 0, _ => rfl
  | n + 1, l => by rw [iter, iter_in step n l]; rfl
theorem ends_fin {L : Type} {c : L → Bool} {step : L → L} : ∀ (N fuel : Nat) (l0 : L), N < fuel → c (iter step N l0) = false → whileEnds (ρ := PyData) c (fun l => .inl (step l)) fuel l0
  | 0, fuel + 1, l0, _, hc => by
    intro c1
    rw [show c l0 = false from hc] at c1; cases c1
  | N + 1, fuel + 1, l0, hf, hc => by
    intro _ l' e
    cases e
    exact ends_fin N fuel _ (by omega) (by rw [iter_in]; exact hc)
def chkR (n : Nat) : Bool :=
  let p : Int := n
  n == 0 || (!(row_of_c_4 p (iter (row_of_s_12 p) n [0])) && ((List.range (n + 1)).all fun k =>
    let l := iter (row_of_s_12 p) k [0]
    !l.isEmpty && (decide (l.length ≤ 20) && (!(row_of_c_4 p l) || ((rgI 0 p).any fun x => !inB x l)))))
theorem chk_r : ((List.range 10).all chkR) = true := by decide +kernel
end K22
namespace K22
open PySem L2 PySem.Spec PyProof.Rows J PySem.W
theorem ltB_p3 {α β γ : Type} [DecidableEq α] [DecidableEq β] [DecidableEq γ] {f : α → PyData} {g : β → PyData} {h : γ → PyData} (F : AlkE f) (G : AlkE g) (K : AlkE h) (Fe : EqE f) (Ge : EqE g) (Ke : EqE h) (p q : α × β × γ) : ltB (eP3 f g h) p q = if p.1 = q.1 then (if p.2.1 = q.2.1 then ltB h p.2.2 q.2.2 else ltB g p.2.1 q.2.1) else ltB f p.1 q.1 := by
  show dataLt (.tuple _) (.tuple _) = _
  rw [dataLt_tuple]
  by_cases h1 : p.1 = q.1
  · rw [if_pos h1, dataLt_all_yes (F.1 _ _) (by rw [Fe]; simp [h1])]
    by_cases h2 : p.2.1 = q.2.1
    · rw [if_pos h2, dataLt_all_yes (G.1 _ _) (by rw [Ge]; simp [h2])]
      by_cases h3 : p.2.2 = q.2.2
      · rw [dataLt_all_yes (K.1 _ _) (by rw [Ke]; simp [h3])]
        unfold ltB; rw [h3]
        have e1 : lexLt itemOrd (keyToksAll []) (keyToksAll []) = false := by
          unfold keyToksAll; rw [lex_one]; simp [itemLt]
        rw [e1]
        exact (dataLt_irrefl _).symm
      · rw [dataLt_all_no (K.1 _ _) (by rw [Ke]; simp [h3])]; rfl
    · rw [if_neg h2, dataLt_all_no (G.1 _ _) (by rw [Ge]; simp [h2])]; rfl
  · rw [if_neg h1, dataLt_all_no (F.1 _ _) (by rw [Fe]; simp [h1])]; rfl
abbrev Vc := Str × Int × Int
abbrev Bl := Int × Int
abbrev Rw := List (Option Int)
abbrev eRw : Rw → PyData := eT (eO PyData.int)
def ok1 (bs : List Bl) (v : Vc) (x : Option Int) : Bool := x.isNone || decide ((gI bs (unO x)).1 ≤ v.2.2)
def okR (vs : List Vc) (bs : List Bl) (r : Rw) : Bool := (vs.zip r).all fun z => ok1 bs z.1 z.2
def allX (n : Int) : List (Option Int) := (rgI 0 n).map some ++ [none]
def stpL (bs : List Bl) (rows : List Rw) : List Rw := rows.flatMap fun r => (allX bs.length).map fun x => r ++ [x]
def stpB (bs : List Bl) (rows : List Rw) (v : Vc) : List Rw := rows.flatMap fun r => ((allX bs.length).filter (ok1 bs v)).map fun x => r ++ [x]
def rowsL (vs : List Vc) (bs : List Bl) : List Rw := vs.foldl (law_s_113 bs) [[]]
def rowsB (vs : List Vc) (bs : List Bl) : List Rw := vs.foldl (best_use_s_28 bs) [[]]
theorem law_row (bs : List Bl) (l : List Rw) (v : Vc) : law_s_113 bs l v = stpL bs l := by
  show l.foldl (law_s_104 bs) [] = _
  rw [foldl_ext (f := law_s_104 bs) (g := fun a r => a ++ (allX bs.length).map fun x => r ++ [x]) [] fun r _ a => rfl]
  rw [foldl_flat (fun r : Rw => (allX bs.length).map fun x => r ++ [x]), List.nil_append]; rfl
theorem fil_all (bs : List Bl) (v : Vc) : (allX bs.length).filter (ok1 bs v) = ((rgI 0 (bs.length : Int)).filter fun k => decide ((gI bs k).1 ≤ v.2.2)).map some ++ [none] := by
  unfold allX
  rw [List.filter_append, List.filter_map]
  rfl
theorem best_row (bs : List Bl) (l : List Rw) (v : Vc) : best_use_s_28 bs l v = stpB bs l v := by
  show l.foldl (best_use_s_19 bs v) [] = _
  rw [foldl_ext (g := fun a r => a ++ ((allX bs.length).filter (ok1 bs v)).map fun x => r ++ [x]) [] fun r _ a => by
    rw [fil_all, List.map_append, List.map_map, ← List.append_assoc]; rfl]
  rw [foldl_flat (fun r : Rw => ((allX bs.length).filter (ok1 bs v)).map fun x => r ++ [x]), List.nil_append]; rfl
theorem rowsL_snoc (vs : List Vc) (v : Vc) (bs : List Bl) : rowsL (vs ++ [v]) bs = stpL bs (rowsL vs bs) := by
  unfold rowsL; rw [List.foldl_append]; exact law_row bs _ v
theorem rowsB_snoc (vs : List Vc) (v : Vc) (bs : List Bl) : rowsB (vs ++ [v]) bs = stpB bs (rowsB vs bs) v := by
  unfold rowsB; rw [List.foldl_append]; exact best_row bs _ v
def inX (n : Int) (x : Option Int) : Prop := x = none ∨ ∃ k, x = some k ∧ 0 ≤ k ∧ k < n
theorem allX_mem {n : Int} {x : Option Int} : x ∈ allX n ↔ inX n x := by
  unfold allX inX
  rw [List.mem_append, List.mem_map, List.mem_singleton]
  constructor
  · rintro (⟨k, hk, rfl⟩ | rfl)
    · exact .inr ⟨k, rfl, rgI_mem_iff.mp hk⟩
    · exact .inl rfl
  · rintro (rfl | ⟨k, rfl, hk⟩)
    · exact .inr rfl
    · exact .inl ⟨k, rgI_mem_iff.mpr hk, rfl⟩
structure RF (bs : List Bl) (n : Nat) (r : Rw) : Prop where
  len : r.length = n
  mem : ∀ x ∈ r, inX bs.length x
def RowsI (bs : List Bl) (vs : List Vc) : Prop := (∀ r ∈ rowsL vs bs, RF bs vs.length r) ∧ rowsB vs bs = (rowsL vs bs).filter (okR vs bs)
theorem okR_snoc (vs : List Vc) (v : Vc) (bs : List Bl) {r : Rw} (h : r.length = vs.length) (x : Option Int) : okR (vs ++ [v]) bs (r ++ [x]) = (okR vs bs r && ok1 bs v x) := by
  unfold okR
  rw [List.zip_append h.symm, List.all_append]
  simp
theorem rows_inv (bs : List Bl) : ∀ vs : List Vc, RowsI bs vs := by
  refine J.snocInd (P := RowsI bs) ⟨fun r hr => ?_, rfl⟩ fun vs v ih => ?_
  · have e : r = [] := List.mem_singleton.mp hr
    subst e
    exact ⟨rfl, fun x hx => by cases hx⟩
  · obtain ⟨h1, h2⟩ := ih
    unfold RowsI
    rw [rowsL_snoc, rowsB_snoc]
    refine ⟨fun r hr => ?_, ?_⟩
    · obtain ⟨r0, hr0, hr⟩ := List.mem_flatMap.mp hr
      obtain ⟨x, hx, rfl⟩ := List.mem_map.mp hr
      have f := h1 r0 hr0
      refine ⟨by rw [List.length_append, List.length_append, f.len]; rfl, fun y hy => ?_⟩
      rcases List.mem_append.mp hy with hy | hy
      · exact f.mem y hy
      · rw [List.mem_singleton.mp hy]; exact allX_mem.mp hx
    · rw [h2]
      unfold stpB stpL
      have gen : ∀ rows : List Rw, (∀ r ∈ rows, r.length = vs.length) → ((rows.filter (okR vs bs)).flatMap fun r => ((allX bs.length).filter (ok1 bs v)).map fun x => r ++ [x]) = (rows.flatMap fun r => (allX bs.length).map fun x => r ++ [x]).filter (okR (vs ++ [v]) bs) := by
        intro rows
        induction rows with
        | nil => intro _; rfl
        | cons r rows ih =>
          intro hr
          rw [List.flatMap_cons, List.filter_append, ← ih fun y hy => hr y (by simp [hy]), List.filter_map]
          have e : (okR (vs ++ [v]) bs ∘ fun x => r ++ [x]) = fun x => okR vs bs r && ok1 bs v x := by
            funext x; exact okR_snoc vs v bs (hr r (by simp)) x
          rw [e, List.filter_cons]
          cases q : okR vs bs r with
          | true => simp only [if_true, Bool.true_and]; rw [List.flatMap_cons]
          | false => simp
      exact gen _ fun r hr => (h1 r hr).len
/-! ### what is saved -/
theorem zip_gI {α β : Type} [Inhabited α] [Inhabited β] {xs : List α} {ys : List β} (h : ys.length = xs.length) : xs.zip ys = (rgI 0 (xs.length : Int)).map fun k => (gI xs k, gI ys k) := by
  have e1 := map_gI xs
  have e2 := map_gI ys
  rw [h] at e2
  conv => lhs; rw [← e1, ← e2]
  rw [List.zip_map']
theorem foldl_add {α : Type} (f : α → Int) : ∀ (xs : List α) (t : Int), xs.foldl (fun t x => t + f x) t = t + (xs.map f).sum
  | [], t => by simp
  | x :: xs, t => by rw [List.foldl_cons, foldl_add f xs, List.map_cons, List.sum_cons]; omega
theorem saved_eq {vs : List Vc} {bs : List Bl} {r : Rw} (h : r.length = vs.length) : saved vs bs r = law_saved vs bs r := by
  show (enumL bs).foldl (saved_s_12 vs r) 0 = _
  have e : saved_s_12 vs r = fun (t : Int) (x : Int × Bl) => t + min x.2.2 (((vs.zip r).filter fun z : Vc × Option Int => (decide (z.2 = some x.1))).map fun z : Vc × Option Int => z.1.2.1).sum := rfl
  rw [e, foldl_add, Int.zero_add, enumL_eq, List.map_map, zip_gI h]
  unfold law_saved
  congr 1
  refine List.map_congr_left fun k hk => ?_
  show min (gI bs k).2 _ = _
  rw [List.filter_map, List.map_map, h]
  rfl
/-! ### good rows, ranked -/
def cnt (r : Rw) : Int := ((r.filter fun x => !x.isNone).length : Int)
def tld (vs : List Vc) (bs : List Bl) (r : Rw) : Int × Int := (-(saved vs bs r), cnt r)
def okK (vs : List Vc) (bs : List Bl) (L : List Rw) (k : Int) : Bool := (((rgI 0 (vs.length : Int)).map fun j : Int => ((gI (gI L k) j).isNone || (decide ((gI bs (unO (gI (gI L k) j))).1 ≤ (gI vs j).2.2)))).all id)
theorem okK_eq {vs : List Vc} {bs : List Bl} {L : List Rw} {k : Int} (h : (gI L k).length = vs.length) : okK vs bs L k = okR vs bs (gI L k) := by
  unfold okK okR
  rw [zip_gI h, List.all_map, List.all_map]
  rfl
def rnk (vs : List Vc) (bs : List Bl) (L : List Rw) (k : Int) : Int × Int × Int := (0 - law_saved vs bs (gI L k), ((((gI L k).filter fun x : (Option Int) => (!x.isNone)).map fun x : (Option Int) => (unO x)).length : Int), k)
theorem rank_step (vs : List Vc) (bs : List Bl) (L : List Rw) (l : List Rw × List (Int × Int × Int)) (k : Int) : law_s_144 vs bs L l k = if okK vs bs L k = true then (l.1 ++ [gI L k], l.2 ++ [rnk vs bs L k]) else l := by
  unfold law_s_144 okK
  split <;> rfl
theorem rank_fold (vs : List Vc) (bs : List Bl) (L : List Rw) : ∀ (ks : List Int) (l : List Rw × List (Int × Int × Int)), ks.foldl (law_s_144 vs bs L) l = (l.1 ++ (ks.filter (okK vs bs L)).map (gI L), l.2 ++ (ks.filter (okK vs bs L)).map (rnk vs bs L))
  | [], l => by simp
  | k :: ks, l => by
    rw [List.foldl_cons, rank_fold vs bs L ks, rank_step, List.filter_cons]
    cases okK vs bs L k with
    | true => simp [List.append_assoc]
    | false => rfl
def okKs (vs : List Vc) (bs : List Bl) : List Int := (rgI 0 ((rowsL vs bs).length : Int)).filter (okK vs bs (rowsL vs bs))
theorem ks_rows (vs : List Vc) (bs : List Bl) : (okKs vs bs).map (gI (rowsL vs bs)) = rowsB vs bs := by
  obtain ⟨h1, h2⟩ := rows_inv bs vs
  rw [h2]
  unfold okKs
  have e : (rgI 0 ((rowsL vs bs).length : Int)).filter (okK vs bs (rowsL vs bs)) = (rgI 0 ((rowsL vs bs).length : Int)).filter (okR vs bs ∘ gI (rowsL vs bs)) := by
    refine List.filter_congr fun k hk => ?_
    have hk := rgI_mem_iff.mp hk
    exact okK_eq (h1 _ (gI_mem ⟨by omega, hk.2⟩)).len
  rw [e, ← List.filter_map, map_gI]
/-! ### the best one -/
abbrev eII : Int × Int → PyData := eP2 PyData.int PyData.int
abbrev e3 : Int × Int × Int → PyData := eP3 PyData.int PyData.int PyData.int
theorem lt_II (p q : Int × Int) : ltB eII p q = decide (p.1 < q.1 ∨ (p.1 = q.1 ∧ p.2 < q.2)) := by
  rw [ltB_p2 alk_int alk_int eqe_int eqe_int, ltB_int, ltB_int]
  rw [Bool.eq_iff_iff]
  by_cases h : p.1 = q.1
  · simp [h]
  · simp [h]
theorem lt_3 (p q : Int × Int × Int) : ltB e3 p q = decide (p.1 < q.1 ∨ (p.1 = q.1 ∧ (p.2.1 < q.2.1 ∨ (p.2.1 = q.2.1 ∧ p.2.2 < q.2.2)))) := by
  rw [ltB_p3 alk_int alk_int alk_int eqe_int eqe_int eqe_int, ltB_int, ltB_int, ltB_int]
  rw [Bool.eq_iff_iff]
  by_cases h : p.1 = q.1
  · by_cases h2 : p.2.1 = q.2.1
    · simp [h, h2]
    · simp [h, h2]
  · simp [h]
theorem tri_3 : Tri e3 := fun p q h1 h2 => by
  rw [lt_3, decide_eq_false_iff_not] at h1 h2
  have e1 : p.1 = q.1 := by omega
  have e2 : p.2.1 = q.2.1 := by omega
  have e3 : p.2.2 = q.2.2 := by omega
  obtain ⟨a, b, c⟩ := p
  obtain ⟨a', b', c'⟩ := q
  simp only at e1 e2 e3
  rw [e1, e2, e3]
def bst (t : Int → Int × Int) (o : Option Int) (k : Int) : Option Int := if (o.isNone || ltB eII (t k) (t (unO o))) = true then some k else o
def BstI (t : Int → Int × Int) (ks : List Int) : Prop := ks.Pairwise (· < ·) → (ks = [] ∧ ks.foldl (bst t) none = none) ∨ ∃ k, k ∈ ks ∧ ks.foldl (bst t) none = some k ∧ ∀ j ∈ ks, ltB eII (t j) (t k) = false ∧ (j < k → ltB eII (t k) (t j) = true)
theorem bst_inv (t : Int → Int × Int) : ∀ ks : List Int, BstI t ks := by
  refine J.snocInd (P := BstI t) (fun _ => .inl ⟨rfl, rfl⟩) fun ks x ih => ?_
  intro hp
  rw [List.pairwise_append] at hp
  have fo : (ks ++ [x]).foldl (bst t) none = bst t (ks.foldl (bst t) none) x := by rw [List.foldl_append]; rfl
  rw [fo]
  have lt_x : ∀ j ∈ ks, j < x := fun j hj => hp.2.2 j hj x (by simp)
  rcases ih hp.1 with ⟨h1, h2⟩ | ⟨k, hk, h2, h3⟩
  · rw [h2]
    refine .inr ⟨x, by simp, rfl, fun j hj => ?_⟩
    rw [h1] at hj
    have : j = x := by simpa using hj
    subst this
    exact ⟨ltB_irr _ _, fun h => by omega⟩
  · rw [h2]
    unfold bst
    by_cases q : ltB eII (t x) (t k) = true
    · rw [if_pos (by show (false || _) = true; exact q)]
      refine .inr ⟨x, by simp, rfl, fun j hj => ?_⟩
      rw [lt_II, decide_eq_true_eq] at q
      rcases List.mem_append.mp hj with hj | hj
      · have := (h3 j hj).1
        rw [lt_II, decide_eq_false_iff_not] at this
        rw [lt_II, lt_II, decide_eq_false_iff_not, decide_eq_true_eq]
        constructor <;> omega
      · rw [List.mem_singleton.mp hj]
        exact ⟨ltB_irr _ _, fun h => by omega⟩
    · rw [if_neg (by show ¬ ((false || _) = true); exact q)]
      refine .inr ⟨k, by simp [hk], rfl, fun j hj => ?_⟩
      rcases List.mem_append.mp hj with hj | hj
      · exact h3 j hj
      · rw [List.mem_singleton.mp hj]
        exact ⟨by simpa using q, fun h => by have := lt_x k hk; omega⟩
theorem best_map (vs : List Vc) (bs : List Bl) (g : Int → Rw) : ∀ (ks : List Int) (o : Option Int), (ks.map g).foldl (best_use_s_55 vs bs) (o.map fun k => (tld vs bs (g k), g k)) = (ks.foldl (bst fun k => tld vs bs (g k)) o).map fun k => (tld vs bs (g k), g k)
  | [], o => rfl
  | k :: ks, o => by
    rw [List.map_cons, List.foldl_cons, List.foldl_cons, ← best_map vs bs g ks]
    congr 1
    have et : (-(saved vs bs (g k)), ((((g k).filter fun x_39 : (Option Int) => (!x_39.isNone)).map fun x_39 : (Option Int) => (1 : Int)).length : Int)) = tld vs bs (g k) := by
      unfold tld cnt; rw [List.length_map]
    have e : best_use_s_55 vs bs (o.map fun k => (tld vs bs (g k), g k)) (g k) = if ((o.map fun k => (tld vs bs (g k), g k)).isNone || ltB eII (tld vs bs (g k)) (unO (o.map fun k => (tld vs bs (g k), g k))).1) = true then some (tld vs bs (g k), g k) else o.map fun k => (tld vs bs (g k), g k) := by
      rw [← et]; rfl
    rw [e]
    cases o with
    | none => rfl
    | some j =>
      unfold bst
      show (if (false || ltB eII (tld vs bs (g k)) (tld vs bs (g j))) = true then _ else _) = Option.map _ (if (false || ltB eII (tld vs bs (g k)) (tld vs bs (g j))) = true then _ else _)
      split <;> rfl
theorem rgI_pw (lo hi : Int) : (rgI lo hi).Pairwise (· < ·) := by
  unfold rgI
  rw [List.pairwise_map]
  exact List.pairwise_lt_range.imp fun h => by omega
end K22
namespace K22
open PySem L2 PySem.Spec PyProof.Rows J PySem.W
def ranked (vs : List Vc) (bs : List Bl) : List (Int × Int × Int) := (okKs vs bs).map (rnk vs bs (rowsL vs bs))
theorem rowsB_ne (vs : List Vc) (bs : List Bl) : rowsB vs bs ≠ [] := by
  revert vs
  refine J.snocInd (P := fun vs => rowsB vs bs ≠ []) (fun h => by cases h) fun vs v ih => ?_
  show rowsB (vs ++ [v]) bs ≠ []
  rw [rowsB_snoc]
  cases q : rowsB vs bs with
  | nil => exact absurd q ih
  | cons r rs =>
    unfold stpB
    rw [List.flatMap_cons, fil_all, List.map_append]
    intro h
    have := congrArg List.length h
    simp only [List.length_append, List.length_map, List.length_cons, List.length_nil] at this
    omega
theorem ks_pw (vs : List Vc) (bs : List Bl) : (okKs vs bs).Pairwise (· < ·) := (rgI_pw _ _).filter _
theorem ks_in {vs : List Vc} {bs : List Bl} {k : Int} (h : k ∈ okKs vs bs) : 0 ≤ k ∧ k < (rowsL vs bs).length := rgI_mem_iff.mp (List.mem_filter.mp h).1
theorem row_len {vs : List Vc} {bs : List Bl} {k : Int} (h : 0 ≤ k ∧ k < (rowsL vs bs).length) : (gI (rowsL vs bs) k).length = vs.length := ((rows_inv bs vs).1 _ (gI_mem ⟨by omega, h.2⟩)).len
theorem best_facts (vs : List Vc) (bs : List Bl) : ∃ k, k ∈ okKs vs bs ∧ (rowsB vs bs).foldl (best_use_s_55 vs bs) none = some (tld vs bs (gI (rowsL vs bs) k), gI (rowsL vs bs) k) ∧ pyMin e3 (ranked vs bs) = rnk vs bs (rowsL vs bs) k := by
  have hf := best_map vs bs (gI (rowsL vs bs)) (okKs vs bs) none
  rw [ks_rows] at hf
  rcases bst_inv (fun k => tld vs bs (gI (rowsL vs bs) k)) (okKs vs bs) (ks_pw vs bs) with ⟨h1, _⟩ | ⟨k, hk, h2, h3⟩
  · have := ks_rows vs bs
    rw [h1] at this
    exact absurd this.symm (rowsB_ne vs bs)
  · rw [h2] at hf
    refine ⟨k, hk, hf, ?_⟩
    refine pyMin_eq tri_3 (List.mem_map.mpr ⟨k, hk, rfl⟩) fun y hy => ?_
    obtain ⟨j, hj, rfl⟩ := List.mem_map.mp hy
    obtain ⟨a, b⟩ := h3 j hj
    have ej := saved_eq (vs := vs) (bs := bs) (row_len (ks_in hj))
    have ek := saved_eq (vs := vs) (bs := bs) (row_len (ks_in hk))
    rw [lt_II, decide_eq_false_iff_not] at a
    rw [lt_II, decide_eq_true_eq] at b
    rw [lt_3, decide_eq_false_iff_not]
    unfold tld at a b
    unfold rnk
    rw [← ej, ← ek]
    have c1 : (((((gI (rowsL vs bs) j).filter fun x : (Option Int) => (!x.isNone)).map fun x : (Option Int) => (unO x)).length : Int)) = cnt (gI (rowsL vs bs) j) := by rw [List.length_map]; rfl
    have c2 : (((((gI (rowsL vs bs) k).filter fun x : (Option Int) => (!x.isNone)).map fun x : (Option Int) => (unO x)).length : Int)) = cnt (gI (rowsL vs bs) k) := by rw [List.length_map]; rfl
    rw [c1, c2]
    simp only at a b ⊢
    omega
theorem best_eq (vs : List Vc) (bs : List Bl) : best_use vs bs = (0 - (pyMin e3 (ranked vs bs)).1, gI (rowsL vs bs) (pyMin e3 (ranked vs bs)).2.2) := by
  obtain ⟨k, hk, h1, h2⟩ := best_facts vs bs
  have e : best_use vs bs = (-(unO ((rowsB vs bs).foldl (best_use_s_55 vs bs) none)).1.1, (unO ((rowsB vs bs).foldl (best_use_s_55 vs bs) none)).2) := rfl
  rw [e, h1, h2]
  show (-(-(saved vs bs (gI (rowsL vs bs) k))), gI (rowsL vs bs) k) = (0 - (0 - law_saved vs bs (gI (rowsL vs bs) k)), gI (rowsL vs bs) k)
  rw [saved_eq (row_len (ks_in hk))]
  congr 1
  omega
/-! ### which things are uses -/
def badU (bs : List Bl) (z : Vc × PyData) : Bool := !isNoneD z.2 && (!(is_number z.2 0 ((bs.length : Int) - 1)) || decide (z.1.2.2 < (gI bs (dI z.2)).1))
theorem use_step (bs : List Bl) (z : Vc × PyData) : is_use_s_20 bs () z = if badU bs z = true then .inr false else .inl () := by
  unfold is_use_s_20 badU
  cases q : isNoneD z.2 with
  | true => rfl
  | false =>
    show orJ (is_use_t_13 bs z) _ = _
    unfold is_use_t_13
    show orJ (if _ = true then _ else _) _ = if (_ = true) then _ else _
    split <;> rename_i h <;> simp only [Bool.not_false, Bool.true_and, h, if_true, if_false] <;> rfl
theorem forR_good {α : Type} {step : Unit → α → Unit ⊕ Bool} {bad : α → Bool} (h : ∀ x, step () x = if bad x = true then .inr false else .inl ()) (xs : List α) (t : Bool) : (orR (forR step () xs) fun _ => t) = ((xs.all fun x => !bad x) && t) := by
  rw [forR_find (p := bad) (g := fun _ => false) () h]
  cases q : xs.find? bad with
  | none =>
    have : (xs.all fun x => !bad x) = true := by
      rw [List.all_eq_true]
      intro x hx
      have := List.find?_eq_none.mp q x hx
      simpa using this
    rw [this]; rfl
  | some x =>
    have : (xs.all fun x => !bad x) = false := by
      rw [List.all_eq_false]
      exact ⟨x, List.mem_of_find?_eq_some q, by simp [List.find?_some q]⟩
    rw [this]; rfl
theorem use_tup (vs : List Vc) (bs : List Bl) (xs : List PyData) : is_use vs bs (.tuple xs) = (decide (xs.length = vs.length) && (vs.zip xs).all fun z => !badU bs z) := by
  unfold is_use
  rw [dTA_tup, forR_good (use_step bs)]
  have e : is_row (.tuple xs) (vs.length : Int) (vs.length : Int) = decide (xs.length = vs.length) := by
    unfold is_row
    rw [dTA_tup]
    show (true && (decide ((vs.length : Int) ≤ (xs.length : Int)) && decide ((xs.length : Int) ≤ (vs.length : Int)))) = _
    rw [Bool.eq_iff_iff]
    simp only [Bool.true_and, Bool.and_eq_true, decide_eq_true_eq]
    omega
  rw [e]
  cases decide (xs.length = vs.length) <;> simp
theorem num_int (i lo hi : Int) : is_number (.int i) lo hi = (decide (lo ≤ i) && decide (i ≤ hi)) := by
  show ((true && !false) && (decide (lo ≤ i) && (false || decide (i ≤ hi)))) = _
  simp
theorem bad_ok {bs : List Bl} {x : Option Int} (h : inX bs.length x) (v : Vc) : badU bs (v, eO PyData.int x) = !ok1 bs v x := by
  rcases h with rfl | ⟨k, rfl, h0, h1⟩
  · rfl
  · show (true && (!(is_number (.int k) 0 ((bs.length : Int) - 1)) || decide (v.2.2 < (gI bs k).1))) = !(false || decide ((gI bs k).1 ≤ v.2.2))
    rw [num_int, decide_eq_true h0, decide_eq_true (show k ≤ (bs.length : Int) - 1 by omega)]
    rw [Bool.eq_iff_iff]
    simp
theorem use_row {vs : List Vc} {bs : List Bl} {r : Rw} (h : RF bs vs.length r) : is_use vs bs (eRw r) = okR vs bs r := by
  show is_use vs bs (.tuple (r.map (eO PyData.int))) = _
  rw [use_tup, List.length_map, h.len, List.zip_map_right, List.all_map]
  rw [decide_eq_true rfl, Bool.true_and]
  unfold okR
  rw [Bool.eq_iff_iff, List.all_eq_true, List.all_eq_true]
  have e : ∀ z ∈ vs.zip r, ((fun z => !badU bs z) ∘ Prod.map id (eO PyData.int)) z = ok1 bs z.1 z.2 := fun z hz => by
    show (!badU bs (z.1, eO PyData.int z.2)) = _
    rw [bad_ok (h.mem _ (List.of_mem_zip hz).2)]; simp
  exact ⟨fun q z hz => by rw [← e z hz]; exact q z hz, fun q z hz => by rw [e z hz]; exact q z hz⟩
theorem use_not {vs : List Vc} {bs : List Bl} {x : PyData} (h : isTup x = false) : is_use vs bs x = false := by
  unfold is_use
  have : is_row x (vs.length : Int) (vs.length : Int) = false := by unfold is_row; rw [h]; rfl
  rw [this]; rfl
theorem use_len {vs : List Vc} {bs : List Bl} {xs : List PyData} (h : xs.length ≠ vs.length) : is_use vs bs (.tuple xs) = false := by
  rw [use_tup, decide_eq_false h]; rfl
theorem use_bad {vs : List Vc} {bs : List Bl} {xs : List PyData} (hv : vs ≠ []) (hl : xs.length = vs.length) (h : ∀ x ∈ xs, ∀ v, badU bs (v, x) = true) : is_use vs bs (.tuple xs) = false := by
  rw [use_tup]
  cases vs with
  | nil => exact absurd rfl hv
  | cons v vs =>
    cases xs with
    | nil => cases hl
    | cons x xs =>
      rw [List.zip_cons_cons, List.all_cons, h x (by simp) v]
      simp
theorem bad_four (bs : List Bl) : ∀ x ∈ [PyData.int (bs.length : Int), PyData.int (-1), PyData.str ("0" : Str), PyData.bool true], ∀ v : Vc, badU bs (v, x) = true := fun x hx v => by
  simp only [List.mem_cons, List.not_mem_nil, or_false] at hx
  rcases hx with rfl | rfl | rfl | rfl
  · show (true && (!(is_number (.int (bs.length : Int)) 0 ((bs.length : Int) - 1)) || _)) = true
    rw [num_int, decide_eq_false (show ¬ (bs.length : Int) ≤ (bs.length : Int) - 1 by omega)]; simp
  · show (true && (!(is_number (.int (-1)) 0 ((bs.length : Int) - 1)) || _)) = true
    rw [num_int]; rfl
  · rfl
  · rfl
/-! ### the law -/
theorem eTD (xs : List PyData) : eT eD xs = .tuple xs := by
  show PyData.tuple (xs.map fun d => d) = _
  rw [List.map_id']
theorem if_neg' {p : Bool} (h : p = false) (a b : Bool) : (if p = true then a else b) = b := by rw [h]; rfl
theorem law_true (script : List Int) : law script = true := by
  unfold law
  refine let_b fun d2 hd2 => let_b fun q3 h3 => let_b fun p hp => let_b fun t6 h6 => let_b fun T hT => ?_
  have pb : 1 ≤ p ∧ p ≤ 9 := by
    subst hp h3
    have a := nxt_lo (d := d2) (many := 9) (by decide)
    have b := nxt_hi (d := d2) (many := 9) (by decide)
    omega
  have pf := places pb
  have eT' : rowL p = T := by subst h6; exact hT
  rw [if_neg (by rw [pf.row, eT']; simp)]
  refine let_b fun q30 h30 => let_b fun g hg => let_b fun m33 h33 => let_b fun told ht => ?_
  have gb : 1 ≤ g ∧ g ≤ p := by
    subst hg h30
    have a := nxt_lo (d := q3.2) (many := p) (by omega)
    have b := nxt_hi (d := q3.2) (many := p) (by omega)
    omega
  rw [if_neg (by
    rw [pf.near g gb.1 gb.2, eT', ← told_is, ← ht]
    simp)]
  refine let_b fun l66 h66 => ?_
  rw [if_neg (by rw [pf.ap, eT', ← h66, ← h33]; simp)]
  refine let_b fun q70 h70 => let_b fun m76 h76 => let_b fun vs hvs => let_b fun q79 h79 => let_b fun m85 h85 => let_b fun bs hbs => let_b fun r89 h89 => let_b fun L hL => let_b fun g120 hg120 => let_b fun r121 hr121 => let_b fun GR hGR => ?_
  have eL : rowsL vs bs = L := by subst h89; exact hL
  have e1 : GR.1 = rowsB vs bs := by
    subst hg120 hr121
    rw [← hGR, rank_fold, ← eL]
    exact ks_rows vs bs
  have e2 : GR.2 = ranked vs bs := by
    subst hg120 hr121
    rw [← hGR, rank_fold, ← eL]
    rfl
  refine let_b fun q150 h150 => let_b fun pk hpk => ?_
  have ln : 0 < GR.1.length := by
    rw [e1]
    cases q : rowsB vs bs with
    | nil => exact absurd q (rowsB_ne vs bs)
    | cons _ _ => exact Nat.succ_pos _
  have pin : pk ∈ GR.1 := by
    subst hpk h150
    have a := nxt_lo (d := m85.2) (many := (GR.1.length : Int)) (by omega)
    have b := nxt_hi (d := m85.2) (many := (GR.1.length : Int)) (by omega)
    exact gI_mem ⟨by omega, b⟩
  have pinL : pk ∈ rowsL vs bs := by
    rw [e1, (rows_inv bs vs).2] at pin
    exact (List.mem_filter.mp pin).1
  have prf := (rows_inv bs vs).1 pk pinL
  rw [if_neg (by rw [saved_eq prf.len, best_eq, e2, eL]; simp)]
  refine let_b fun q157 h157 => let_b fun row hrow => let_b fun wrong hw => let_b fun m175 h175 => ?_
  rw [if_neg (by
    cases q : vs with
    | nil => simp
    | cons v vs' =>
      rw [← q]
      have hb : is_use vs bs (eT eD m175.1) = false := by
        rw [eTD]
        refine use_bad (by rw [q]; simp) (by rw [← h175, mapS_count]) fun x hx => ?_
        rw [← h175] at hx
        obtain ⟨s, y, _, rfl⟩ := mapS_in _ _ _ x hx
        exact bad_four bs _ (pick (xs := [PyData.int (bs.length : Int), PyData.int (-1), PyData.str ("0" : Str), PyData.bool true]) (fun x hx => hx) s 4 rfl (by decide))
      rw [hb]; simp)]
  refine let_b fun q180 h180 => ?_
  have ll : 0 < L.length := by
    have := List.length_pos_of_mem pinL
    rw [eL] at this; exact this
  have rin : row ∈ rowsL vs bs := by
    subst hrow h157
    rw [eL]
    have a := nxt_lo (d := q150.2) (many := (L.length : Int)) (by omega)
    have b := nxt_hi (d := q150.2) (many := (L.length : Int)) (by omega)
    exact gI_mem ⟨by omega, b⟩
  have rrf := (rows_inv bs vs).1 row rin
  rw [Bool.and_eq_true, decide_eq_true_eq, decide_eq_true_eq]
  refine ⟨?_, ?_⟩
  · rw [use_row rrf, e1, (rows_inv bs vs).2, Bool.eq_iff_iff, inB_iff, List.mem_filter]
    exact ⟨fun h => ⟨rin, h⟩, fun h => h.2⟩
  · subst h180 hw
    refine pick (P := fun x => is_use vs bs x = false) (fun x hx => ?_) _ 6 rfl (by decide)
    simp only [List.mem_cons, List.not_mem_nil, or_false] at hx
    rcases hx with rfl | rfl | rfl | rfl | rfl | rfl
    · exact use_not rfl
    · exact use_not rfl
    · exact use_len (by rw [List.length_map, List.length_append, prf.len]; simp)
    · rw [eTD]; exact use_len (by simp)
    · rw [eTD]; exact use_len (by simp)
    · exact use_len (by simp)
end K22
namespace K22
open PySem L2 PySem.Spec PyProof.Rows J PySem.W
theorem foldl_len {α β : Type} {f : List β → α → List β} {c : Nat} : ∀ {xs : List α} (l : List β), (∀ x ∈ xs, ∀ l, (f l x).length ≤ l.length + c) → (xs.foldl f l).length ≤ l.length + xs.length * c
  | [], l, _ => by simp
  | x :: xs, l, h => by
    have h1 := h x (by simp) l
    have h2 := foldl_len (xs := xs) (f l x) fun y hy => h y (by simp [hy])
    rw [List.foldl_cons, List.length_cons, Nat.succ_mul]
    omega
theorem flat_len {α β : Type} {f : α → List β} {n : Nat} : ∀ {xs : List α}, (∀ x ∈ xs, (f x).length ≤ n) → (xs.flatMap f).length ≤ xs.length * n
  | [], _ => by simp
  | x :: xs, h => by
    rw [List.flatMap_cons, List.length_append, List.length_cons, Nat.succ_mul]
    have := flat_len (xs := xs) fun y hy => h y (by simp [hy])
    have := h x (by simp)
    omega
/-! ### places -/
theorem map_ne {α β : Type} {f : α → β} {xs : List α} (h : xs ≠ []) : xs.map f ≠ [] := fun e => h (List.map_eq_nil_iff.mp e)
theorem far_ok {l : List Int} (h : l ≠ []) (x : Int) : far_from_ok l x := map_ne h
theorem row_k {p : Int} (h : 1 ≤ p ∧ p ≤ 9) : row_of_ok p := by
  obtain ⟨n, rfl⟩ := Int.eq_ofNat_of_zero_le (show 0 ≤ p by omega)
  have h1 := List.all_eq_true.mp chk_r n (List.mem_range.mpr (by omega))
  unfold chkR at h1
  have n0 : (n == 0) = false := by cases n with | zero => omega | succ n => rfl
  simp only [n0, Bool.false_or, Bool.and_eq_true, Bool.not_eq_true'] at h1
  obtain ⟨q1, q2⟩ := h1
  have q2 := List.all_eq_true.mp q2
  unfold row_of_ok
  refine let_p fun t et => ?_
  subst et
  refine ⟨ends_fin n J.fuel _ (by rw [fuel_eq]; omega) q1, fun _ _ => trivial, fun l hl hc => ?_, trivial⟩
  obtain ⟨k, hk, rfl⟩ := reach_fin n q1 l hl
  have q3 := q2 k (List.mem_range.mpr (by omega))
  simp only [Bool.and_eq_true, Bool.not_eq_true', decide_eq_true_eq, Bool.or_eq_true] at q3
  obtain ⟨a, b, c⟩ := q3
  generalize iter (row_of_s_12 (n : Int)) k [0] = l at *
  have ne : l ≠ [] := fun e => by rw [e] at a; cases a
  unfold row_of_s_12_ok
  refine ⟨⟨by unfold rg1; omega, fun x _ _ => far_ok ne x⟩, let_p fun free ef => ⟨⟨?_, by show l.length + 1 ≤ 16777216; omega⟩, trivial⟩⟩
  subst ef
  rcases c with c | c
  · rw [hc] at c; cases c
  · obtain ⟨x, hx, hi⟩ := List.any_eq_true.mp c
    exact map_ne (List.ne_nil_of_mem (List.mem_filter.mpr ⟨hx, by simpa using hi⟩))
theorem cut_len {α : Type} (T : List α) (g : Int) (hg : 0 ≤ g) : (cutL T none (some g)).length = min g.toNat T.length := by
  obtain ⟨k, rfl⟩ := Int.eq_ofNat_of_zero_le hg
  rw [cut_to, List.length_take]; rfl
theorem near_k {p g : Int} (h : 1 ≤ p ∧ p ≤ 9) (hg : 0 ≤ g) : nearest_ok p g := by
  unfold nearest_ok
  have pf := places h
  refine ⟨row_k h, let_p fun T eT => let_p fun fo efo => ⟨fun i x l hx hl => ?_, trivial⟩⟩
  have tl : T.length ≤ 9 := by
    rw [← eT, cut_len _ _ hg, pf.row]
    have := pf.len
    omega
  have ll : l.length ≤ 9 := by
    subst efo
    rw [hl]
    refine Nat.le_trans (foldl_len (f := nearest_s_17 T) (c := 1) [] fun y _ l => ?_) ?_
    · show (l ++ [_]).length ≤ _
      rw [List.length_append]; exact Nat.le_refl _
    · rw [List.length_take, pySort_len, List.length_nil]; omega
  unfold nearest_s_17_ok
  refine let_p fun o eo => ⟨⟨fun q => ?_, by show l.length < 16777216; omega⟩, trivial⟩
  exact map_ne fun e => by rw [e] at q; cases q
theorem apart_ends (p : Int) : ∀ (n : Nat) (l : Int), (p - l).toNat < n → whileEnds (ρ := PyData) (apart_c_8 p) (fun l => .inl (apart_s_11 l)) n l
  | n + 1, l, h => by
    intro c l' e
    cases e
    unfold apart_c_8 at c
    rw [Bool.and_eq_true, decide_eq_true_eq] at c
    refine apart_ends p n _ ?_
    show (p - (l + 1)).toNat < n
    omega
theorem apart_k {p : Int} (h : 1 ≤ p ∧ p ≤ 9) : apart_ok p := by
  have pf := places h
  unfold apart_ok
  refine let_p fun g0 eg => ?_
  subst eg
  have hr : ∀ l, Reach (ρ := PyData) (apart_c_8 p) (fun l => .inl (apart_s_11 l)) 1 l → 1 ≤ l := fun l hl => by
    induction hl with
    | z => exact Int.le_refl _
    | @s l l' r c e ih =>
      cases e
      show 1 ≤ l + 1
      omega
  refine ⟨apart_ends p _ _ (by rw [fuel_eq]; omega), fun l hl => ?_, fun _ _ _ => trivial, trivial⟩
  have h1 := hr l hl
  unfold apart_c_8_ok
  intro q
  have q := of_decide_eq_true q
  obtain ⟨s1, s2⟩ := pf.some_ (l + 1) (by omega) (by omega)
  refine ⟨near_k h (by omega), fun x hx => ?_, map_ne (map_ne s2)⟩
  obtain ⟨y, hy, rfl⟩ := List.mem_map.mp hx
  exact s1 y hy
theorem max_mem {α : Type} [Inhabited α] {f : α → PyData} {xs : List α} (h : xs ≠ []) : pyMax f xs ∈ xs := by
  cases xs with
  | nil => exact absurd rfl h
  | cons x xs => exact foldl_pick (fun y a => dataLt (f a) (f y)) xs x
theorem lawrow_ne (p : Int) : ∀ (xs : List Int) (l : List Int), l ≠ [] → xs.foldl (law_s_21 p) l ≠ [] ∧ (xs.foldl (law_s_21 p) l).length = l.length + xs.length
  | [], l, h => ⟨h, rfl⟩
  | x :: xs, l, h => by
    rw [List.foldl_cons]
    have e : law_s_21 p l x = l ++ [idxL ((rgI 0 p).map fun x_10 : Int => (pyMin PyData.int (l.map fun x_11 : Int => (iabs (x_10 - x_11))))) (pyMax PyData.int ((rgI 0 p).map fun x_10 : Int => (pyMin PyData.int (l.map fun x_11 : Int => (iabs (x_10 - x_11))))))] := rfl
    rw [e]
    obtain ⟨a, b⟩ := lawrow_ne p xs (l ++ [idxL ((rgI 0 p).map fun x_10 : Int => (pyMin PyData.int (l.map fun x_11 : Int => (iabs (x_10 - x_11))))) (pyMax PyData.int ((rgI 0 p).map fun x_10 : Int => (pyMin PyData.int (l.map fun x_11 : Int => (iabs (x_10 - x_11))))))]) (by simp)
    exact ⟨a, by rw [b, List.length_append, List.length_singleton, List.length_cons]; omega⟩
theorem law21_k {p : Int} (h : 1 ≤ p ∧ p ≤ 9) {l : List Int} (hl : l ≠ []) (hn : l.length ≤ 20) (x : Int) : law_s_21_ok p l x := by
  unfold law_s_21_ok
  refine ⟨⟨by unfold rg1; omega, fun _ _ => map_ne hl⟩, let_p fun far ef => ?_⟩
  have fn : far ≠ [] := by
    rw [← ef]
    refine map_ne fun e => ?_
    have := congrArg List.length e
    rw [rgI_len] at this
    simp only [List.length_nil] at this
    omega
  exact ⟨⟨fn, max_mem fn, by show l.length < 16777216; omega⟩, trivial⟩
theorem law61_k {T : List Int} {p m x : Int} (hp : p ≤ 9) (hT : (T.length : Int) = p) (hx : 2 ≤ x ∧ x ≤ p) : law_s_61_ok T m x := by
  unfold law_s_61_ok
  refine let_p fun here eh => ⟨⟨by unfold rg2; omega, fun k hk => ?_⟩, trivial⟩
  have hk := rgI_mem_iff.mp hk
  have hl : (here.length : Int) = x := by rw [← eh, pySort_len, cut_len _ _ (by omega)]; omega
  exact ⟨⟨by omega, by omega⟩, ⟨by omega, by omega⟩⟩
/-! ### rows -/
theorem allX_len {n : Nat} (h : n ≤ 3) : (allX (n : Int)).length ≤ 4 := by
  unfold allX
  rw [List.length_append, List.length_map, rgI_len, List.length_singleton]; omega
theorem rowsL_len {bs : List Bl} (hb : bs.length ≤ 3) : ∀ vs : List Vc, (rowsL vs bs).length ≤ 4 ^ vs.length := by
  refine J.snocInd (P := fun vs => (rowsL vs bs).length ≤ 4 ^ vs.length) (Nat.le_refl _) fun vs v ih => ?_
  rw [rowsL_snoc, List.length_append, List.length_singleton, Nat.pow_succ]
  refine Nat.le_trans (flat_len (n := 4) fun r _ => ?_) (Nat.mul_le_mul_right 4 ih)
  rw [List.length_map]; exact allX_len hb
theorem rows64 {vs : List Vc} {bs : List Bl} (hv : vs.length ≤ 3) (hb : bs.length ≤ 3) : (rowsL vs bs).length ≤ 64 :=
  Nat.le_trans (rowsL_len hb vs) (Nat.le_trans (Nat.pow_le_pow_right (by decide) hv) (by decide))
theorem rowsB64 {vs : List Vc} {bs : List Bl} (hv : vs.length ≤ 3) (hb : bs.length ≤ 3) : (rowsB vs bs).length ≤ 64 := by
  rw [(rows_inv bs vs).2]
  exact Nat.le_trans (List.length_filter_le _ _) (rows64 hv hb)
theorem law113_k {vs : List Vc} {bs : List Bl} (hv : vs.length ≤ 3) (hb : bs.length ≤ 3) (v : Vc) : law_s_113_ok bs (rowsL vs bs) v := by
  unfold law_s_113_ok
  refine let_p fun lo elo => ⟨fun i r l hr hl => ?_, trivial⟩
  have rf := (rows_inv bs vs).1 r (List.mem_of_getElem? hr)
  have r64 := rows64 hv hb
  have ll : l.length ≤ 256 := by
    subst elo
    rw [hl]
    refine Nat.le_trans (foldl_len (f := law_s_104 bs) (c := 4) [] fun y _ l => ?_) (by rw [List.length_take, List.length_nil]; omega)
    show (l ++ (allX bs.length).map _).length ≤ _
    rw [List.length_append, List.length_map]
    have := allX_len hb
    omega
  have rl := rf.len
  have al := allX_len hb
  unfold law_s_104_ok
  refine ⟨⟨by unfold rg1; omega, ?_, fun x _ => ?_, ?_⟩, trivial⟩
  · show _ ≤ 16777216
    rw [List.length_map, rgI_len, List.length_singleton]; omega
  · show r.length + 1 ≤ 16777216; omega
  · show l.length + ((allX bs.length).map _).length ≤ 16777216
    rw [List.length_map]; omega
theorem best28_k {vs : List Vc} {bs : List Bl} (hv : vs.length ≤ 3) (hb : bs.length ≤ 3) (v : Vc) : best_use_s_28_ok bs (rowsB vs bs) v := by
  unfold best_use_s_28_ok
  refine let_p fun lo elo => ⟨fun i r l hr hl => ?_, trivial⟩
  have hm := List.mem_of_getElem? hr
  rw [(rows_inv bs vs).2] at hm
  have rf := (rows_inv bs vs).1 r (List.mem_filter.mp hm).1
  have r64 := rowsB64 hv hb
  have rl := rf.len
  have fl : ∀ w : Vc, ((rgI 0 (bs.length : Int)).filter fun k => decide ((gI bs k).1 ≤ w.2.2)).length ≤ 3 := fun w => by
    refine Nat.le_trans (List.length_filter_le _ _) ?_
    rw [rgI_len]; omega
  have ll : l.length ≤ 256 := by
    subst elo
    rw [hl]
    refine Nat.le_trans (foldl_len (f := best_use_s_19 bs v) (c := 4) [] fun y _ l => ?_) (by rw [List.length_take, List.length_nil]; omega)
    show ((l ++ ((rgI 0 (bs.length : Int)).filter fun k => decide ((gI bs k).1 ≤ v.2.2)).map _) ++ [_]).length ≤ _
    rw [List.length_append, List.length_append, List.length_map, List.length_singleton]
    have := fl v
    omega
  have fv := fl v
  unfold best_use_s_19_ok
  refine ⟨⟨by unfold rg1; omega, fun k hk => ?_, ?_⟩, let_p fun lo2 el2 => ⟨⟨by show r.length + 1 ≤ 16777216; omega, ?_⟩, trivial⟩⟩
  · have hk := rgI_mem_iff.mp hk
    exact ⟨⟨by omega, hk.2⟩, fun _ => by show r.length + 1 ≤ 16777216; omega⟩
  · show _ ≤ 16777216
    rw [List.length_map]; omega
  · show lo2.length < 16777216
    rw [← el2, List.length_append, List.length_map]; omega
theorem saved_k (vs : List Vc) (bs : List Bl) (r : Rw) : saved_ok vs bs r := by
  unfold saved_ok
  exact let_p fun f _ => ⟨fun _ _ _ _ _ => trivial, trivial⟩
theorem best_k {vs : List Vc} {bs : List Bl} (hv : vs.length ≤ 3) (hb : bs.length ≤ 3) : best_use_ok vs bs := by
  unfold best_use_ok
  refine let_p fun r0 er0 => ?_
  subst er0
  refine ⟨fun i v l hv2 hl => ?_, let_p fun l33 e33 => let_p fun b0 eb0 => ⟨fun i r o hr ho => ?_, let_p fun l60 e60 => ?_⟩⟩
  · have hl : l = rowsB (vs.take i) bs := hl
    rw [hl]
    exact best28_k (by rw [List.length_take]; omega) hb v
  · unfold best_use_s_55_ok
    exact ⟨saved_k _ _ _, let_p fun t _ => ⟨fun h => by cases o <;> simp_all, fun _ => trivial, fun _ => trivial, trivial⟩⟩
  · obtain ⟨k, _, h1, _⟩ := best_facts vs bs
    subst eb0
    have e33 : rowsB vs bs = l33 := e33
    rw [← e33, h1] at e60
    rw [← e60]
    exact ⟨rfl, rfl⟩
theorem lsaved_k {vs : List Vc} {bs : List Bl} {r : Rw} (hv : vs.length ≤ 3) (hb : bs.length ≤ 3) (h : r.length = vs.length) : law_saved_ok vs bs r := by
  unfold law_saved_ok
  refine ⟨by unfold rg1; omega, fun k hk => ?_⟩
  have hk := rgI_mem_iff.mp hk
  refine ⟨⟨by omega, hk.2⟩, by unfold rg1; omega, fun j hj => ?_⟩
  have hj := rgI_mem_iff.mp hj
  exact ⟨⟨by omega, hj.2⟩, fun _ => ⟨by omega, by omega⟩⟩
theorem law144_k {vs : List Vc} {bs : List Bl} (hv : vs.length ≤ 3) (hb : bs.length ≤ 3) {i : Nat} {k : Int} {l : List Rw × List (Int × Int × Int)} (hk : (rgI 0 ((rowsL vs bs).length : Int))[i]? = some k)
    (hl : l = ((rgI 0 ((rowsL vs bs).length : Int)).take i).foldl (law_s_144 vs bs (rowsL vs bs)) ([], [])) : law_s_144_ok vs bs (rowsL vs bs) l k := by
  have hr := rgI_mem_iff.mp (List.mem_of_getElem? hk)
  have r64 := rows64 hv hb
  have rf := (rows_inv bs vs).1 _ (gI_mem (xs := rowsL vs bs) (i := k) ⟨by omega, hr.2⟩)
  have rl := rf.len
  have inL : inR (rowsL vs bs).length k := ⟨by omega, hr.2⟩
  rw [rank_fold] at hl
  have fl : (((rgI 0 ((rowsL vs bs).length : Int)).take i).filter (okK vs bs (rowsL vs bs))).length ≤ 64 := by
    refine Nat.le_trans (List.length_filter_le _ _) ?_
    rw [List.length_take, rgI_len]; omega
  have l1 : l.1.length ≤ 64 := by rw [hl]; simp only [List.nil_append, List.length_map]; exact fl
  have l2 : l.2.length ≤ 64 := by rw [hl]; simp only [List.nil_append, List.length_map]; exact fl
  unfold law_s_144_ok
  refine ⟨⟨by unfold rg1; omega, fun j hj => ?_⟩, fun _ => ?_, fun _ => trivial, trivial⟩
  · have hj := rgI_mem_iff.mp hj
    have ij : inR (gI (rowsL vs bs) k).length j := ⟨by omega, by omega⟩
    refine ⟨inL, ij, fun hn => ⟨inL, ij, ?_, ?_, ⟨by omega, hj.2⟩⟩⟩
    · cases q : gI (gI (rowsL vs bs) k) j with
      | none => rw [q] at hn; cases hn
      | some _ => rfl
    · rcases rf.mem _ (gI_mem ij) with e | ⟨b, e, b0, b1⟩
      · rw [e] at hn; cases hn
      · rw [e]; exact ⟨by show _ ≤ b; omega, b1⟩
  · unfold law_t_138_ok
    exact ⟨⟨inL, by show l.1.length < 16777216; omega⟩, let_p fun gd _ => ⟨⟨inL, lsaved_k hv hb rl, inL, fun x _ hx => by cases x <;> simp_all, by show l.2.length < 16777216; omega⟩, trivial⟩⟩
/-! ### uses -/
theorem intN_ok (y : PyData) (h : noDc y = true) (lo hi : Int) : is_number_ok y lo hi := by
  unfold is_number_ok
  exact ⟨⟨h, fun _ => h⟩, fun q => ⟨J.int_back q, fun _ _ => J.int_back q⟩⟩
theorem num_in {y : PyData} {n : Nat} (h : is_number y 0 ((n : Int) - 1) = true) : PyData.int (dI y) = y ∧ inR n (dI y) := by
  unfold is_number at h
  simp only [Bool.and_eq_true, Bool.false_or, decide_eq_true_eq] at h
  exact ⟨J.int_back h.1, ⟨by omega, by omega⟩⟩
theorem use_k {n : Nat} {vs : List Vc} {bs : List Bl} {x : PyData} (h : Nice n x) : is_use_ok vs bs x := by
  unfold is_use_ok
  refine ⟨⟨h.nd, fun t => J.tup_back t⟩, fun _ => trivial, fun c => ?_⟩
  have ht : isTup x = true := by
    unfold is_row at c
    cases q : isTup x with
    | true => rfl
    | false => rw [q] at c; cases c
  obtain ⟨xs, rfl⟩ := tup_of ht
  have eb : (eT eD) ((dT dA) (.tuple xs)) = .tuple xs := J.tup_back rfl
  rw [dTA_tup] at eb ⊢
  refine ⟨eb, fun i z l hz _ => ?_, fun _ _ => trivial⟩
  have hm := (List.of_mem_zip (List.mem_of_getElem? hz)).2
  have nd := (h.of_tup0 _ hm).choose_spec.nd
  unfold is_use_s_20_ok
  refine ⟨fun _ => ?_, fun _ => trivial, fun _ _ => trivial⟩
  unfold is_use_t_13_ok
  exact ⟨⟨intN_ok _ nd _ _, fun q => num_in (by cases w : is_number z.2 0 ((bs.length : Int) - 1) with | true => rfl | false => rw [w] at q; cases q)⟩, fun _ => trivial, fun _ => trivial⟩
theorem n_o (x : Option Int) : Nice 0 (eO PyData.int x) := by cases x; exact .none; exact .int
theorem nice_eT {α : Type} {n : Nat} {enc : α → PyData} (h : ∀ a, Nice n (enc a)) (xs : List α) : Nice (n + 1) (eT enc xs) := .tuple fun x hx => by
  obtain ⟨a, _, rfl⟩ := List.mem_map.mp hx
  exact h a
theorem nice_eL {α : Type} {n : Nat} {enc : α → PyData} (h : ∀ a, Nice n (enc a)) (xs : List α) : Nice (n + 1) (eL enc xs) := .list fun x hx => by
  obtain ⟨a, _, rfl⟩ := List.mem_map.mp hx
  exact h a
theorem nice_D {n : Nat} {xs : List PyData} (h : ∀ x ∈ xs, Nice n x) : Nice (n + 1) (eT eD xs) := by rw [eTD]; exact .tuple h
theorem law_k (script : List Int) : law_ok script := by
  unfold law_ok
  refine let_p fun d2 hd2 => let_p fun q3 h3 => let_p fun p hp => let_p fun t6 h6 => ?_
  have pb : 1 ≤ p ∧ p ≤ 9 := by
    subst hp h3
    have a := nxt_lo (d := d2) (many := 9) (by decide)
    have b := nxt_hi (d := d2) (many := 9) (by decide)
    omega
  have pf := places pb
  refine ⟨by unfold rg1; omega, fun i x l hx hl => ?_, let_p fun T hT => ?_⟩
  · subst h6
    obtain ⟨a, b⟩ := lawrow_ne p ((rgI 0 (p - 1)).take i) [0] (by simp)
    rw [← hl] at a b
    exact law21_k pb a (by rw [b, List.length_take, rgI_len, List.length_singleton]; omega) x
  have eT' : rowL p = T := by subst h6; exact hT
  have tl := pf.len
  rw [eT'] at tl
  refine ⟨row_k pb, fun _ => trivial, fun _ => let_p fun q30 h30 => ⟨⟨by omega, by omega⟩, let_p fun g hg => let_p fun m33 h33 => ?_⟩⟩
  have gb : 1 ≤ g ∧ g ≤ p := by
    subst hg h30
    have a := nxt_lo (d := q3.2) (many := p) (by omega)
    have b := nxt_hi (d := q3.2) (many := p) (by omega)
    omega
  refine ⟨fun x _ => ⟨?_, fun e => ?_⟩, let_p fun told _ => ⟨near_k pb (by omega), fun _ => trivial, fun _ => ⟨by unfold rg2; omega, fun i x l hx _ => ?_, let_p fun l66 _ => ⟨apart_k pb, fun _ => trivial, fun _ => ?_⟩⟩⟩⟩
  · rw [List.length_map]
    have := List.length_filter_le (fun y : Int => !decide (y = x)) (cutL T none (some g))
    rw [cut_len _ _ (by omega)] at this
    show _ + 1 ≤ 16777216
    omega
  · have := congrArg List.length e
    simp only [List.length_append, List.length_singleton, List.length_nil] at this
    omega
  · have := rgI_mem_iff.mp (List.mem_of_getElem? hx)
    exact law61_k pb.2 tl ⟨this.1, by omega⟩
  refine let_p fun q70 h70 => let_p fun m76 h76 => let_p fun vs hvs => let_p fun q79 h79 => let_p fun m85 h85 => ?_
  have b70 : 0 ≤ q70.1 ∧ q70.1 < 4 := by rw [← h70]; exact ⟨nxt_lo (by decide), nxt_hi (by decide)⟩
  have b79 : 0 ≤ q79.1 ∧ q79.1 < 4 := by rw [← h79]; exact ⟨nxt_lo (by decide), nxt_hi (by decide)⟩
  have vl : vs.length ≤ 3 := by
    rw [← hvs, ← h76, mapS_count, cut_len _ _ b70.1]
    show min _ 3 ≤ 3
    omega
  refine ⟨by unfold rg1; omega, let_p fun bs hbs => ?_⟩
  have bl : bs.length ≤ 3 := by rw [← hbs, pySort_len, ← h85, mapS_count, rgI_len]; omega
  refine let_p fun r89 h89 => ?_
  subst h89
  refine ⟨fun i v l _ hl => ?_, let_p fun L hL => ?_⟩
  · have hl : l = rowsL (vs.take i) bs := hl
    rw [hl]
    exact law113_k (by rw [List.length_take]; omega) bl v
  have eL : rowsL vs bs = L := hL
  have r64 := rows64 vl bl
  have L64 := r64
  rw [eL] at L64
  refine let_p fun g120 hg120 => let_p fun r121 hr121 => ?_
  subst hg120 hr121
  refine ⟨by unfold rg1; omega, fun i k l hk hl => ?_, let_p fun GR hGR => ?_⟩
  · rw [← eL] at hk hl ⊢
    exact law144_k vl bl hk hl
  have e1 : GR.1 = rowsB vs bs := by
    rw [← hGR, rank_fold, ← eL]
    exact ks_rows vs bs
  have e2 : GR.2 = ranked vs bs := by
    rw [← hGR, rank_fold, ← eL]
    rfl
  have B64 := rowsB64 vl bl
  rw [← e1] at B64
  have ln : 0 < GR.1.length := by
    rw [e1]
    cases q : rowsB vs bs with
    | nil => exact absurd q (rowsB_ne vs bs)
    | cons _ _ => exact Nat.succ_pos _
  refine let_p fun q150 h150 => ?_
  have i150 : inR GR.1.length q150.1 := by rw [← h150]; exact pick_in _ ln
  refine ⟨⟨⟨by omega, by omega⟩, i150⟩, let_p fun pk hpk => ?_⟩
  have pin : pk ∈ GR.1 := by subst hpk; exact gI_mem i150
  have pinL : pk ∈ rowsL vs bs := by
    rw [e1, (rows_inv bs vs).2] at pin
    exact (List.mem_filter.mp pin).1
  have prf := (rows_inv bs vs).1 pk pinL
  have pl := prf.len
  obtain ⟨kb, hkb, _, hmin⟩ := best_facts vs bs
  have rne : GR.2 ≠ [] := by rw [e2]; exact map_ne (List.ne_nil_of_mem hkb)
  have ll : 0 < L.length := by
    have := List.length_pos_of_mem pinL
    rw [eL] at this; exact this
  refine ⟨⟨saved_k _ _ _, lsaved_k vl bl prf.len, fun _ => ⟨best_k vl bl, rne, rne, ?_⟩⟩, fun _ => trivial, fun _ => let_p fun q157 h157 => ?_⟩
  · rw [e2, hmin]
    have := ks_in hkb
    rw [eL] at this
    exact ⟨by show _ ≤ kb; omega, this.2⟩
  have i157 : inR L.length q157.1 := by rw [← h157]; exact pick_in _ ll
  refine ⟨⟨⟨by omega, by omega⟩, i157⟩, let_p fun row hrow => ⟨⟨?_, ?_, ?_, ?_⟩, let_p fun wrong hw => let_p fun m175 h175 => ⟨fun _ => ⟨fun s v _ q eq => by subst eq; exact pick_in (n := 4) _ (by decide), ?_⟩, fun _ => trivial, fun _ => let_p fun q180 h180 => ⟨use_k (nice_eT n_o row), fun _ => ⟨?_, ?_⟩⟩⟩⟩⟩
  · show pk.length + 1 ≤ 16777216; omega
  · rw [List.length_map, List.length_map]; show vs.length + 1 ≤ 16777216; omega
  · rw [List.length_map, List.length_map]; show vs.length + 1 ≤ 16777216; omega
  · rw [List.length_map]; show vs.length + 1 ≤ 16777216; omega
  · refine use_k (n := 1) (nice_D fun x hx => ?_)
    rw [← h175] at hx
    obtain ⟨s, y, _, rfl⟩ := mapS_in _ _ _ x hx
    exact pick (P := fun x => Nice 0 x) (xs := [PyData.int (bs.length : Int), PyData.int (-1), PyData.str ("0" : Str), PyData.bool true]) (nice_all rfl) s 4 rfl (by decide)
  · subst h180 hw; exact pick_in (n := 6) _ (by decide)
  · subst h180 hw
    refine use_k (n := 1) (pick (P := fun x => Nice 1 x) (fun x hx => ?_) _ 6 rfl (by decide))
    simp only [List.mem_cons, List.not_mem_nil, or_false] at hx
    rcases hx with rfl | rfl | rfl | rfl | rfl | rfl
    · exact nice_eL n_o pk
    · exact .none
    · exact nice_eT n_o _
    · refine nice_D fun x hx => ?_
      rcases List.mem_append.mp hx with hx | hx
      · obtain ⟨y, _, rfl⟩ := List.mem_map.mp hx; exact .str
      · rw [List.mem_singleton.mp hx]; exact .int
    · refine nice_D fun x hx => ?_
      rcases List.mem_append.mp hx with hx | hx
      · obtain ⟨y, _, rfl⟩ := List.mem_map.mp hx; exact .int
      · rw [List.mem_singleton.mp hx]; exact .none
    · exact nice_eT (fun _ => .bool) _
theorem law_holds : ∀ ns : List Int, ns.length ≤ 63 → law_ok ns ∧ law ns = true := fun ns _ => ⟨law_k ns, law_true ns⟩
end K22
namespace K22
open PySem L2 PySem.Spec PyProof.Rows J
theorem all_mk {l : PySem.W.OpenLaw} {w : World} {K : PySem.W.Frag} {h : Heap} {mg : Str → Option Value} {fa : Addr} (hlaw : ∀ ns : List Int, ns.length ≤ 63 → law_ok ns ∧ law ns = true) (KX : K.In h) (G : h.Ns mainGlobals mg) (hfa : mg "law" = some (.ref fa))
    {f0 : Addr} {od0 an0 : Option Addr} {sl0 : Array (Option Value)} {oc0 kV0 dc0 pm0 cd0 ct0 : Value}
    (a0 : PySem.W.nsIn K mainGlobals "_law_draw" = some (some (.ref f0))) (l0 : K.lookup f0 = some ⟨oc0, od0, .func (PySem.W.fnOf "_law_draw" "_law_draw" (defArgs (topS 14)) (defBody (topS 14)) (defScope (topS 14)) .none kV0 dc0 pm0 an0 cd0 ct0), sl0⟩) (c0 : PySem.W.codeIn K cd0 "_law_draw" = true) (k0 : PySem.W.keepIn K (.ref f0) = true)
    {f1 : Addr} {od1 an1 : Option Addr} {sl1 : Array (Option Value)} {oc1 kV1 dc1 pm1 cd1 ct1 : Value}
    (a1 : PySem.W.nsIn K mainGlobals "_law_next" = some (some (.ref f1))) (l1 : K.lookup f1 = some ⟨oc1, od1, .func (PySem.W.fnOf "_law_next" "_law_next" (defArgs (topS 15)) (defBody (topS 15)) (defScope (topS 15)) .none kV1 dc1 pm1 an1 cd1 ct1), sl1⟩) (c1 : PySem.W.codeIn K cd1 "_law_next" = true) (k1 : PySem.W.keepIn K (.ref f1) = true)
    {f2 : Addr} {od2 an2 : Option Addr} {sl2 : Array (Option Value)} {oc2 kV2 dc2 pm2 cd2 ct2 : Value}
    (a2 : PySem.W.nsIn K mainGlobals "_law_same" = some (some (.ref f2))) (l2 : K.lookup f2 = some ⟨oc2, od2, .func (PySem.W.fnOf "_law_same" "_law_same" (defArgs (topS 16)) (defBody (topS 16)) (defScope (topS 16)) .none kV2 dc2 pm2 an2 cd2 ct2), sl2⟩) (c2 : PySem.W.codeIn K cd2 "_law_same" = true) (k2 : PySem.W.keepIn K (.ref f2) = true)
    {f3 : Addr} {od3 an3 : Option Addr} {sl3 : Array (Option Value)} {oc3 kV3 dc3 pm3 cd3 ct3 : Value}
    (a3 : PySem.W.nsIn K mainGlobals "far_from" = some (some (.ref f3))) (l3 : K.lookup f3 = some ⟨oc3, od3, .func (PySem.W.fnOf "far_from" "far_from" (defArgs (topS 9)) (defBody (topS 9)) (defScope (topS 9)) .none kV3 dc3 pm3 an3 cd3 ct3), sl3⟩) (c3 : PySem.W.codeIn K cd3 "far_from" = true) (k3 : PySem.W.keepIn K (.ref f3) = true)
    {f4 : Addr} {od4 an4 : Option Addr} {sl4 : Array (Option Value)} {oc4 kV4 dc4 pm4 cd4 ct4 : Value}
    (a4 : PySem.W.nsIn K mainGlobals "row_of" = some (some (.ref f4))) (l4 : K.lookup f4 = some ⟨oc4, od4, .func (PySem.W.fnOf "row_of" "row_of" (defArgs (topS 10)) (defBody (topS 10)) (defScope (topS 10)) .none kV4 dc4 pm4 an4 cd4 ct4), sl4⟩) (c4 : PySem.W.codeIn K cd4 "row_of" = true) (k4 : PySem.W.keepIn K (.ref f4) = true)
    {f5 : Addr} {od5 an5 : Option Addr} {sl5 : Array (Option Value)} {oc5 kV5 dc5 pm5 cd5 ct5 : Value}
    (a5 : PySem.W.nsIn K mainGlobals "nearest" = some (some (.ref f5))) (l5 : K.lookup f5 = some ⟨oc5, od5, .func (PySem.W.fnOf "nearest" "nearest" (defArgs (topS 11)) (defBody (topS 11)) (defScope (topS 11)) .none kV5 dc5 pm5 an5 cd5 ct5), sl5⟩) (c5 : PySem.W.codeIn K cd5 "nearest" = true) (k5 : PySem.W.keepIn K (.ref f5) = true)
    {f6 : Addr} {od6 an6 : Option Addr} {sl6 : Array (Option Value)} {oc6 kV6 dc6 pm6 cd6 ct6 : Value}
    (a6 : PySem.W.nsIn K mainGlobals "apart" = some (some (.ref f6))) (l6 : K.lookup f6 = some ⟨oc6, od6, .func (PySem.W.fnOf "apart" "apart" (defArgs (topS 12)) (defBody (topS 12)) (defScope (topS 12)) .none kV6 dc6 pm6 an6 cd6 ct6), sl6⟩) (c6 : PySem.W.codeIn K cd6 "apart" = true) (k6 : PySem.W.keepIn K (.ref f6) = true)
    {f7 : Addr} {od7 an7 : Option Addr} {sl7 : Array (Option Value)} {oc7 kV7 dc7 pm7 cd7 ct7 : Value}
    (a7 : PySem.W.nsIn K mainGlobals "_law_saved" = some (some (.ref f7))) (l7 : K.lookup f7 = some ⟨oc7, od7, .func (PySem.W.fnOf "_law_saved" "_law_saved" (defArgs (topS 17)) (defBody (topS 17)) (defScope (topS 17)) .none kV7 dc7 pm7 an7 cd7 ct7), sl7⟩) (c7 : PySem.W.codeIn K cd7 "_law_saved" = true) (k7 : PySem.W.keepIn K (.ref f7) = true)
    {f8 : Addr} {od8 an8 : Option Addr} {sl8 : Array (Option Value)} {oc8 kV8 dc8 pm8 cd8 ct8 : Value}
    (a8 : PySem.W.nsIn K mainGlobals "saved" = some (some (.ref f8))) (l8 : K.lookup f8 = some ⟨oc8, od8, .func (PySem.W.fnOf "saved" "saved" (defArgs (topS 6)) (defBody (topS 6)) (defScope (topS 6)) .none kV8 dc8 pm8 an8 cd8 ct8), sl8⟩) (c8 : PySem.W.codeIn K cd8 "saved" = true) (k8 : PySem.W.keepIn K (.ref f8) = true)
    {f9 : Addr} {od9 an9 : Option Addr} {sl9 : Array (Option Value)} {oc9 kV9 dc9 pm9 cd9 ct9 : Value}
    (a9 : PySem.W.nsIn K mainGlobals "best_use" = some (some (.ref f9))) (l9 : K.lookup f9 = some ⟨oc9, od9, .func (PySem.W.fnOf "best_use" "best_use" (defArgs (topS 7)) (defBody (topS 7)) (defScope (topS 7)) .none kV9 dc9 pm9 an9 cd9 ct9), sl9⟩) (c9 : PySem.W.codeIn K cd9 "best_use" = true) (k9 : PySem.W.keepIn K (.ref f9) = true)
    {f10 : Addr} {od10 an10 : Option Addr} {sl10 : Array (Option Value)} {oc10 kV10 dc10 pm10 cd10 ct10 : Value}
    (a10 : PySem.W.nsIn K mainGlobals "is_row" = some (some (.ref f10))) (l10 : K.lookup f10 = some ⟨oc10, od10, .func (PySem.W.fnOf "is_row" "is_row" (defArgs (topS 3)) (defBody (topS 3)) (defScope (topS 3)) .none kV10 dc10 pm10 an10 cd10 ct10), sl10⟩) (c10 : PySem.W.codeIn K cd10 "is_row" = true) (k10 : PySem.W.keepIn K (.ref f10) = true)
    {f11 : Addr} {od11 an11 : Option Addr} {sl11 : Array (Option Value)} {oc11 kV11 dc11 pm11 cd11 ct11 : Value}
    (a11 : PySem.W.nsIn K mainGlobals "is_integer" = some (some (.ref f11))) (l11 : K.lookup f11 = some ⟨oc11, od11, .func (PySem.W.fnOf "is_integer" "is_integer" (defArgs (topS 1)) (defBody (topS 1)) (defScope (topS 1)) .none kV11 dc11 pm11 an11 cd11 ct11), sl11⟩) (c11 : PySem.W.codeIn K cd11 "is_integer" = true) (k11 : PySem.W.keepIn K (.ref f11) = true)
    {f12 : Addr} {od12 an12 : Option Addr} {sl12 : Array (Option Value)} {oc12 kV12 dc12 pm12 cd12 ct12 : Value}
    (a12 : PySem.W.nsIn K mainGlobals "is_number" = some (some (.ref f12))) (l12 : K.lookup f12 = some ⟨oc12, od12, .func (PySem.W.fnOf "is_number" "is_number" (defArgs (topS 2)) (defBody (topS 2)) (defScope (topS 2)) .none kV12 dc12 pm12 an12 cd12 ct12), sl12⟩) (c12 : PySem.W.codeIn K cd12 "is_number" = true) (k12 : PySem.W.keepIn K (.ref f12) = true)
    {f13 : Addr} {od13 an13 : Option Addr} {sl13 : Array (Option Value)} {oc13 kV13 dc13 pm13 cd13 ct13 : Value}
    (a13 : PySem.W.nsIn K mainGlobals "is_use" = some (some (.ref f13))) (l13 : K.lookup f13 = some ⟨oc13, od13, .func (PySem.W.fnOf "is_use" "is_use" (defArgs (topS 5)) (defBody (topS 5)) (defScope (topS 5)) .none kV13 dc13 pm13 an13 cd13 ct13), sl13⟩) (c13 : PySem.W.codeIn K cd13 "is_use" = true) (k13 : PySem.W.keepIn K (.ref f13) = true)
    {f14 : Addr} {od14 an14 : Option Addr} {sl14 : Array (Option Value)} {oc14 kV14 dc14 pm14 cd14 ct14 : Value}
    (a14 : PySem.W.nsIn K mainGlobals "law" = some (some (.ref f14))) (l14 : K.lookup f14 = some ⟨oc14, od14, .func (PySem.W.fnOf "law" "law" (defArgs (topS 18)) (defBody (topS 18)) (defScope (topS 18)) .none kV14 dc14 pm14 an14 cd14 ct14), sl14⟩) (c14 : PySem.W.codeIn K cd14 "law" = true) (k14 : PySem.W.keepIn K (.ref f14) = true)
    (z_abs : PySem.W.nsIn K mainGlobals "abs" = some none)
    (z_all : PySem.W.nsIn K mainGlobals "all" = some none)
    (z_bool : PySem.W.nsIn K mainGlobals "bool" = some none)
    (z_enumerate : PySem.W.nsIn K mainGlobals "enumerate" = some none)
    (z_int : PySem.W.nsIn K mainGlobals "int" = some none)
    (z_isinstance : PySem.W.nsIn K mainGlobals "isinstance" = some none)
    (z_len : PySem.W.nsIn K mainGlobals "len" = some none)
    (z_list : PySem.W.nsIn K mainGlobals "list" = some none)
    (z_max : PySem.W.nsIn K mainGlobals "max" = some none)
    (z_min : PySem.W.nsIn K mainGlobals "min" = some none)
    (z_range : PySem.W.nsIn K mainGlobals "range" = some none)
    (z_sorted : PySem.W.nsIn K mainGlobals "sorted" = some none)
    (z_str : PySem.W.nsIn K mainGlobals "str" = some none)
    (z_sum : PySem.W.nsIn K mainGlobals "sum" = some none)
    (z_tuple : PySem.W.nsIn K mainGlobals "tuple" = some none)
    (z_zip : PySem.W.nsIn K mainGlobals "zip" = some none)
    : ∃ fd : FuncData, (∀ (s : Shared) (v : Value), BindsTo s fd ⟨[v], []⟩ [("script", v)]) ∧ ∀ base : Heap, K.In base → base.Ns mainGlobals mg → FnOk l.prog w K mg base CX0 10 fa fd ["script"] (spLawJ K) := by
  have e := hfa.symm.trans (PySem.W.mg_of KX G a14)
  cases e
  have F0 := fun_mk (st := topS 14) l0 c0 k0
  have b0 := F0.binds (ps := ["script"]) fun _ _ _ _ _ _ us hl => match us, hl with | [_], _ => rfl
  have F1 := fun_mk (st := topS 15) l1 c1 k1
  have b1 := F1.binds (ps := ["draw", "many"]) fun _ _ _ _ _ _ us hl => match us, hl with | [_, _], _ => rfl
  have F2 := fun_mk (st := topS 16) l2 c2 k2
  have b2 := F2.binds (ps := ["actual", "due"]) fun _ _ _ _ _ _ us hl => match us, hl with | [_, _], _ => rfl
  have F3 := fun_mk (st := topS 9) l3 c3 k3
  have b3 := F3.binds (ps := ["taken", "place"]) fun _ _ _ _ _ _ us hl => match us, hl with | [_, _], _ => rfl
  have F4 := fun_mk (st := topS 10) l4 c4 k4
  have b4 := F4.binds (ps := ["places"]) fun _ _ _ _ _ _ us hl => match us, hl with | [_], _ => rfl
  have F5 := fun_mk (st := topS 11) l5 c5 k5
  have b5 := F5.binds (ps := ["places", "guests"]) fun _ _ _ _ _ _ us hl => match us, hl with | [_, _], _ => rfl
  have F6 := fun_mk (st := topS 12) l6 c6 k6
  have b6 := F6.binds (ps := ["places"]) fun _ _ _ _ _ _ us hl => match us, hl with | [_], _ => rfl
  have F7 := fun_mk (st := topS 17) l7 c7 k7
  have b7 := F7.binds (ps := ["vouchers", "bills", "row"]) fun _ _ _ _ _ _ us hl => match us, hl with | [_, _, _], _ => rfl
  have F8 := fun_mk (st := topS 6) l8 c8 k8
  have b8 := F8.binds (ps := ["vouchers", "bills", "use"]) fun _ _ _ _ _ _ us hl => match us, hl with | [_, _, _], _ => rfl
  have F9 := fun_mk (st := topS 7) l9 c9 k9
  have b9 := F9.binds (ps := ["vouchers", "bills"]) fun _ _ _ _ _ _ us hl => match us, hl with | [_, _], _ => rfl
  have F10 := fun_mk (st := topS 3) l10 c10 k10
  have b10 := F10.binds (ps := ["thing", "least", "most"]) fun _ _ _ _ _ _ us hl => match us, hl with | [_, _, _], _ => rfl
  have F11 := fun_mk (st := topS 1) l11 c11 k11
  have b11 := F11.binds (ps := ["thing"]) fun _ _ _ _ _ _ us hl => match us, hl with | [_], _ => rfl
  have F12 := fun_mk (st := topS 2) l12 c12 k12
  have b12 := F12.binds (ps := ["thing", "least", "most"]) fun _ _ _ _ _ _ us hl => match us, hl with | [_, _, _], _ => rfl
  have F13 := fun_mk (st := topS 5) l13 c13 k13
  have b13 := F13.binds (ps := ["vouchers", "bills", "thing"]) fun _ _ _ _ _ _ us hl => match us, hl with | [_, _, _], _ => rfl
  have F14 := fun_mk (st := topS 18) l14 c14 k14
  have b14 := F14.binds (ps := ["script"]) fun _ _ _ _ _ _ us hl => match us, hl with | [_], _ => rfl
  let X : Txt K mg := {
    f_draw := f0, d_draw := _, o_draw := ⟨F0, PySem.W.mg_of KX G a0, b0⟩,
    f_next := f1, d_next := _, o_next := ⟨F1, PySem.W.mg_of KX G a1, b1⟩,
    f_same := f2, d_same := _, o_same := ⟨F2, PySem.W.mg_of KX G a2, b2⟩,
    f_far_from := f3, d_far_from := _, o_far_from := ⟨F3, PySem.W.mg_of KX G a3, b3⟩,
    f_row_of := f4, d_row_of := _, o_row_of := ⟨F4, PySem.W.mg_of KX G a4, b4⟩,
    f_nearest := f5, d_nearest := _, o_nearest := ⟨F5, PySem.W.mg_of KX G a5, b5⟩,
    f_apart := f6, d_apart := _, o_apart := ⟨F6, PySem.W.mg_of KX G a6, b6⟩,
    f_law_saved := f7, d_law_saved := _, o_law_saved := ⟨F7, PySem.W.mg_of KX G a7, b7⟩,
    f_saved := f8, d_saved := _, o_saved := ⟨F8, PySem.W.mg_of KX G a8, b8⟩,
    f_best_use := f9, d_best_use := _, o_best_use := ⟨F9, PySem.W.mg_of KX G a9, b9⟩,
    f_is_row := f10, d_is_row := _, o_is_row := ⟨F10, PySem.W.mg_of KX G a10, b10⟩,
    f_is_integer := f11, d_is_integer := _, o_is_integer := ⟨F11, PySem.W.mg_of KX G a11, b11⟩,
    f_is_number := f12, d_is_number := _, o_is_number := ⟨F12, PySem.W.mg_of KX G a12, b12⟩,
    f_is_use := f13, d_is_use := _, o_is_use := ⟨F13, PySem.W.mg_of KX G a13, b13⟩,
    f_law := fa, d_law := _, o_law := ⟨F14, PySem.W.mg_of KX G a14, b14⟩,
    m_abs := PySem.W.mg_none_of KX G z_abs,
    m_all := PySem.W.mg_none_of KX G z_all,
    m_bool := PySem.W.mg_none_of KX G z_bool,
    m_enumerate := PySem.W.mg_none_of KX G z_enumerate,
    m_int := PySem.W.mg_none_of KX G z_int,
    m_isinstance := PySem.W.mg_none_of KX G z_isinstance,
    m_len := PySem.W.mg_none_of KX G z_len,
    m_list := PySem.W.mg_none_of KX G z_list,
    m_max := PySem.W.mg_none_of KX G z_max,
    m_min := PySem.W.mg_none_of KX G z_min,
    m_range := PySem.W.mg_none_of KX G z_range,
    m_sorted := PySem.W.mg_none_of KX G z_sorted,
    m_str := PySem.W.mg_none_of KX G z_str,
    m_sum := PySem.W.mg_none_of KX G z_sum,
    m_tuple := PySem.W.mg_none_of KX G z_tuple,
    m_zip := PySem.W.mg_none_of KX G z_zip }
  exact ⟨X.d_law, fun s v => .of_eq rfl, fun base _ _ => law_top (ok_law X) hlaw⟩
end K22

open PySem PySem.W PyProof.Rows in
theorem PySem.Challenge.cw_hoteldays_k22_whole_places_and_vouchers_holds : PySem.Challenge.rw_hoteldays_k22_whole_places_and_vouchers.Holds := by
  w_on; o_law; k_head; (case hw => w_witness2)
  k_fill
  refine J.walkJ (l := PySem.Challenge.rw_hoteldays_k22_whole_places_and_vouchers) (k := 10) rfl rfl ⟨rfl, by decide, by decide⟩ (fun w h Y => PySem.W.kIn_of Y) ?F
  case F =>
    intro w mg fa h KX G hmg
    refine' K22.all_mk K22.law_holds KX G hmg ?a0 ?l0 ?c0 ?k0 ?a1 ?l1 ?c1 ?k1 ?a2 ?l2 ?c2 ?k2 ?a3 ?l3 ?c3 ?k3 ?a4 ?l4 ?c4 ?k4 ?a5 ?l5 ?c5 ?k5 ?a6 ?l6 ?c6 ?k6 ?a7 ?l7 ?c7 ?k7 ?a8 ?l8 ?c8 ?k8 ?a9 ?l9 ?c9 ?k9 ?a10 ?l10 ?c10 ?k10 ?a11 ?l11 ?c11 ?k11 ?a12 ?l12 ?c12 ?k12 ?a13 ?l13 ?c13 ?k13 ?a14 ?l14 ?c14 ?k14 ?z_abs ?z_all ?z_bool ?z_enumerate ?z_int ?z_isinstance ?z_len ?z_list ?z_max ?z_min ?z_range ?z_sorted ?z_str ?z_sum ?z_tuple ?z_zip
    (case a0 => k_is)
    (case l0 => k_is)
    (case c0 => k_is)
    (case k0 => k_is)
    (case a1 => k_is)
    (case l1 => k_is)
    (case c1 => k_is)
    (case k1 => k_is)
    (case a2 => k_is)
    (case l2 => k_is)
    (case c2 => k_is)
    (case k2 => k_is)
    (case a3 => k_is)
    (case l3 => k_is)
    (case c3 => k_is)
    (case k3 => k_is)
    (case a4 => k_is)
    (case l4 => k_is)
    (case c4 => k_is)
    (case k4 => k_is)
    (case a5 => k_is)
    (case l5 => k_is)
    (case c5 => k_is)
    (case k5 => k_is)
    (case a6 => k_is)
    (case l6 => k_is)
    (case c6 => k_is)
    (case k6 => k_is)
    (case a7 => k_is)
    (case l7 => k_is)
    (case c7 => k_is)
    (case k7 => k_is)
    (case a8 => k_is)
    (case l8 => k_is)
    (case c8 => k_is)
    (case k8 => k_is)
    (case a9 => k_is)
    (case l9 => k_is)
    (case c9 => k_is)
    (case k9 => k_is)
    (case a10 => k_is)
    (case l10 => k_is)
    (case c10 => k_is)
    (case k10 => k_is)
    (case a11 => k_is)
    (case l11 => k_is)
    (case c11 => k_is)
    (case k11 => k_is)
    (case a12 => k_is)
    (case l12 => k_is)
    (case c12 => k_is)
    (case k12 => k_is)
    (case a13 => k_is)
    (case l13 => k_is)
    (case c13 => k_is)
    (case k13 => k_is)
    (case a14 => k_is)
    (case l14 => k_is)
    (case c14 => k_is)
    (case k14 => k_is)
    (case z_abs => k_is)
    (case z_all => k_is)
    (case z_bool => k_is)
    (case z_enumerate => k_is)
    (case z_int => k_is)
    (case z_isinstance => k_is)
    (case z_len => k_is)
    (case z_list => k_is)
    (case z_max => k_is)
    (case z_min => k_is)
    (case z_range => k_is)
    (case z_sorted => k_is)
    (case z_str => k_is)
    (case z_sum => k_is)
    (case z_tuple => k_is)
    (case z_zip => k_is)
#print axioms PySem.Challenge.cw_hoteldays_k22_whole_places_and_vouchers_holds
