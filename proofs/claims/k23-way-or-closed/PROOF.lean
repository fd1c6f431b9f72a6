import PyProof.Rows.All
import Wide.All
import OpenK.AllK
import Wide.FinOn
import HandS.ForMost
import HandS.Deep
import HandS.TupAny
import HandS.Style
import HandS.IsInst
import HandS.SortInts
import HandS.More
import HandS.Conv
import HandS.Wide
import KE.SortData
import KE.KeyNested
import KE.KDictKeyed
import HandS.NoneIn
import PySem.Challenge.RW_yardsort_k23_whole_a_way_or_a_closed_lis
import KE.GoesEnum
import KE.KDictDisplayH
import HandS.DictComp
set_option Elab.async false
set_option linter.all false
set_option maxRecDepth 100000
set_option maxHeartbeats 4000000
/-! Data, the assertion At, expressions and statements by data. -/
namespace K23
open PySem PySem.Spec PyProof.Rows L2
abbrev St := L2.St

/-- plain data: a value as it is, a tuple, a list, a dict, an instance, a dict keyed by nested tuples -/
inductive D where
  | v (x : V)
  | tup (xs : List D)
  | lst (xs : List D)
  | dic (ks : List Key) (xs : List D)
  | ins (C : Addr) (ns : List Str) (xs : List D)
  | nd (xs : List D) (x : V)
  | scr (K : PySem.W.Frag) (xs : List V)
abbrev D.int (i : Int) : D := .v (.int i)
abbrev D.str (s : Str) : D := .v (.str s)
abbrev D.bl (b : Bool) : D := .v (.bl b)
abbrev D.non : D := .v .non
abbrev D.ref (a : Addr) : D := .v (.ref a)

theorem set_same {α : Type} : ∀ {l : List α} {i : Nat} {a : α}, l[i]? = some a → l.set i a = l
  | [], _, _, _ => rfl
  | x :: l, 0, a, h => by
    have e : x = a := by simpa using h
    rw [e, List.set_cons_zero]
  | x :: l, i + 1, a, h => by
    rw [List.set_cons_succ, set_same (by simpa using h)]
theorem map_era {α β : Type} (f : α → β) : ∀ (l : List α) (i : Nat), (l.eraseIdx i).map f = (l.map f).eraseIdx i
  | [], _ => rfl
  | _ :: _, 0 => rfl
  | x :: l, i + 1 => by rw [List.eraseIdx_cons_succ, List.map_cons, List.map_cons, List.eraseIdx_cons_succ, map_era f l i]
mutual
inductive Rp (G : Hp) : V → D → Prop
  | v (x : V) : Rp G x (.v x)
  | tup {a : Addr} {vs : List V} {xs : List D} : G a = some (.tup vs) → RpA G vs xs → Rp G (.ref a) (.tup xs)
  | lst {a : Addr} {vs : List V} {xs : List D} : G a = some (.lst vs) → RpA G vs xs → Rp G (.ref a) (.lst xs)
  | dic {a : Addr} {ks : List Key} {vs : List V} {xs : List D} : G a = some (.dK (ks.zip vs)) → ks.length = xs.length → RpA G vs xs → Rp G (.ref a) (.dic ks xs)
  | ins {a C dx : Addr} {ns : List Str} {vs : List V} {xs : List D} : G a = some (.ins C dx (ns.zip vs)) → ns.length = xs.length → RpA G vs xs → Rp G (.ref a) (.ins C ns xs)
  | scr {a : Addr} {K : PySem.W.Frag} {xs : List V} : (∀ H, Same G H → SqL K H a xs) → Rp G (.ref a) (.scr K xs)
inductive RpA (G : Hp) : List V → List D → Prop
  | nil : RpA G [] []
  | cons {v : V} {vs : List V} {d : D} {ds : List D} : Rp G v d → RpA G vs ds → RpA G (v :: vs) (d :: ds)
end

mutual
theorem Rp.up {G G' : Hp} (s : Same G G') : ∀ {v : V} {d : D}, Rp G v d → Rp G' v d
  | _, _, .v x => .v x
  | _, _, .tup h r => .tup (s _ _ h) (RpA.up s r)
  | _, _, .lst h r => .lst (s _ _ h) (RpA.up s r)
  | _, _, .dic h l r => .dic (s _ _ h) l (RpA.up s r)
  | _, _, .ins h l r => .ins (s _ _ h) l (RpA.up s r)
  | _, _, .scr h => .scr fun H e => h H (s.trans e)
theorem RpA.up {G G' : Hp} (s : Same G G') : ∀ {vs : List V} {ds : List D}, RpA G vs ds → RpA G' vs ds
  | _, _, .nil => .nil
  | _, _, .cons h r => .cons (Rp.up s h) (RpA.up s r)
end
theorem RpA.len {G : Hp} : ∀ {vs : List V} {ds : List D}, RpA G vs ds → vs.length = ds.length
  | _, _, .nil => rfl
  | _, _, .cons _ r => congrArg (· + 1) (RpA.len r)
theorem RpA.zip {G : Hp} : ∀ {vs : List V} {ds : List D}, RpA G vs ds → ∀ t ∈ vs.zip ds, Rp G t.1 t.2
  | _, _, .nil, t, ht => by simp at ht
  | _, _, .cons h r, t, ht => by
    rcases List.mem_cons.mp ht with e | ht
    · subst e
      exact h
    · exact RpA.zip r t ht
theorem RpA.of {G : Hp} : ∀ {vs : List V} {ds : List D}, vs.length = ds.length → (∀ t ∈ vs.zip ds, Rp G t.1 t.2) → RpA G vs ds
  | [], [], _, _ => .nil
  | [], _ :: _, h, _ => by simp at h
  | _ :: _, [], h, _ => by simp at h
  | v :: vs, d :: ds, h, r => .cons (r (v, d) List.mem_cons_self) (RpA.of (by simpa using h) fun t ht => r t (List.mem_cons_of_mem _ ht))
theorem RpA.get {G : Hp} : ∀ {vs : List V} {ds : List D} {i : Nat} {d : D}, RpA G vs ds → ds[i]? = some d → ∃ v, vs[i]? = some v ∧ Rp G v d
  | _, _, _, _, .nil, e => by simp at e
  | _, _, 0, _, .cons h r, e => by
    simp at e
    subst e
    exact ⟨_, rfl, h⟩
  | _, _, i + 1, d, .cons h r, e => by
    obtain ⟨v, h1, h2⟩ := RpA.get (i := i) (d := d) r (by simpa using e)
    exact ⟨v, by simpa using h1, h2⟩
theorem RpA.get' {G : Hp} : ∀ {vs : List V} {ds : List D} {i : Nat} {v : V}, RpA G vs ds → vs[i]? = some v → ∃ d, ds[i]? = some d ∧ Rp G v d
  | _, _, _, _, .nil, e => by simp at e
  | _, _, 0, _, .cons h r, e => by
    simp at e
    subst e
    exact ⟨_, rfl, h⟩
  | _, _, i + 1, d, .cons h r, e => by
    obtain ⟨v, h1, h2⟩ := RpA.get' (i := i) (v := d) r (by simpa using e)
    exact ⟨v, by simpa using h1, h2⟩
theorem RpA.app {G : Hp} : ∀ {vs ws : List V} {ds es : List D}, RpA G vs ds → RpA G ws es → RpA G (vs ++ ws) (ds ++ es)
  | _, _, _, _, .nil, s => s
  | _, _, _, _, .cons h r, s => .cons h (RpA.app r s)
theorem RpA.set {G : Hp} {v : V} {d : D} (h0 : Rp G v d) : ∀ {vs : List V} {ds : List D} (i : Nat), RpA G vs ds → RpA G (vs.set i v) (ds.set i d)
  | _, _, _, .nil => .nil
  | _, _, 0, .cons h r => .cons h0 r
  | _, _, i + 1, .cons h r => .cons h (RpA.set h0 i r)
theorem RpA.take {G : Hp} : ∀ {vs : List V} {ds : List D} (i : Nat), RpA G vs ds → RpA G (vs.take i) (ds.take i)
  | _, _, 0, _ => .nil
  | _, _, _ + 1, .nil => .nil
  | _, _, i + 1, .cons h r => .cons h (RpA.take i r)
theorem RpA.drop {G : Hp} : ∀ {vs : List V} {ds : List D} (i : Nat), RpA G vs ds → RpA G (vs.drop i) (ds.drop i)
  | _, _, 0, r => r
  | _, _, _ + 1, .nil => .nil
  | _, _, i + 1, .cons h r => RpA.drop i r
theorem RpA.rev {G : Hp} : ∀ {vs : List V} {ds : List D}, RpA G vs ds → RpA G vs.reverse ds.reverse
  | _, _, .nil => .nil
  | _, _, .cons h r => by
    rw [List.reverse_cons, List.reverse_cons]
    exact RpA.app (RpA.rev r) (.cons h .nil)
theorem RpA.dropLast {G : Hp} {vs : List V} {ds : List D} (r : RpA G vs ds) : RpA G vs.dropLast ds.dropLast := by
  rw [List.dropLast_eq_take, List.dropLast_eq_take, r.len]
  exact r.take _
theorem RpA.vals {G : Hp} : ∀ (xs : List V), RpA G xs (xs.map D.v)
  | [] => .nil
  | x :: xs => .cons (.v x) (RpA.vals xs)
theorem RpA.vals_eq {G : Hp} : ∀ {vs : List V} {xs : List V}, RpA G vs (xs.map D.v) → vs = xs
  | vs, [], h => by cases h; rfl
  | vs, x :: xs, h => by
    cases h with
    | cons h r => cases h; rw [RpA.vals_eq r]
theorem Rp.val {G : Hp} {u x : V} (h : Rp G u (.v x)) : u = x := by cases h; rfl

/-! ### the frame: what was seen and what was there at the entry, what may be changed -/
structure Fm where
  w : World
  G : Hp
  H : Hp
  P : List Addr
structure Wd (F : Fm) (G H : Hp) : Prop where
  base : Same F.G G
  le : Same G H
  hid : ∀ a, F.H a ≠ none → a ∉ F.P → F.G a = none → G a = none
  keep : ∀ b o, F.H b = some o → b ∉ F.P → H b = some o
  live : ∀ a, F.H a ≠ none → H a ≠ none

inductive Sd (G : Hp) : St → List (Option D) → Prop
  | nil : Sd G [] []
  | no {o : Option V} {σ : St} {ds : List (Option D)} : Sd G σ ds → Sd G (o :: σ) (none :: ds)
  | yes {v : V} {d : D} {σ : St} {ds : List (Option D)} : Rp G v d → Sd G σ ds → Sd G (some v :: σ) (some d :: ds)
theorem Sd.up {G G' : Hp} (s : Same G G') : ∀ {σ : St} {ds : List (Option D)}, Sd G σ ds → Sd G' σ ds
  | _, _, .nil => .nil
  | _, _, .no r => .no (Sd.up s r)
  | _, _, .yes h r => .yes (h.up s) (Sd.up s r)
theorem Sd.get {G : Hp} : ∀ {σ : St} {ds : List (Option D)} {i : Nat} {d : D}, Sd G σ ds → ds[i]? = some (some d) → ∃ v, σ[i]? = some (some v) ∧ Rp G v d
  | _, _, _, _, .nil, e => by simp at e
  | _, _, 0, _, .no r, e => by simp at e
  | _, _, 0, _, .yes h r, e => by
    simp at e
    subst e
    exact ⟨_, rfl, h⟩
  | _, _, i + 1, d, .no r, e => by
    obtain ⟨v, h1, h2⟩ := Sd.get (i := i) (d := d) r (by simpa using e)
    exact ⟨v, by simpa using h1, h2⟩
  | _, _, i + 1, d, .yes h r, e => by
    obtain ⟨v, h1, h2⟩ := Sd.get (i := i) (d := d) r (by simpa using e)
    exact ⟨v, by simpa using h1, h2⟩
theorem Sd.set {G : Hp} {v : V} {d : D} (h : Rp G v d) : ∀ {σ : St} {ds : List (Option D)} (i : Nat), Sd G σ ds → Sd G (σ.set i (some v)) (ds.set i (some d))
  | _, _, _, .nil => .nil
  | _, _, 0, .no r => .yes h r
  | _, _, 0, .yes _ r => .yes h r
  | _, _, i + 1, .no r => .no (Sd.set h i r)
  | _, _, i + 1, .yes h2 r => .yes h2 (Sd.set h i r)
theorem Sd.unset {G : Hp} {o : Option V} : ∀ {σ : St} {ds : List (Option D)} (i : Nat), Sd G σ ds → Sd G (σ.set i o) (ds.set i none)
  | _, _, _, .nil => .nil
  | _, _, 0, .no r => .no r
  | _, _, 0, .yes _ r => .no r
  | _, _, i + 1, .no r => .no (Sd.unset i r)
  | _, _, i + 1, .yes h2 r => .yes h2 (Sd.unset i r)
/-- less is told -/
def Le : List (Option D) → List (Option D) → Prop
  | [], [] => True
  | [], _ :: _ => False
  | none :: _, [] => False
  | some _ :: _, [] => False
  | none :: a, _ :: b => Le a b
  | some d :: a, some e :: b => d = e ∧ Le a b
  | some _ :: _, none :: _ => False
theorem Le.refl : ∀ ds : List (Option D), Le ds ds
  | [] => trivial
  | none :: a => Le.refl a
  | some d :: a => ⟨rfl, Le.refl a⟩
theorem Sd.le {G : Hp} : ∀ {σ : St} {ds ds' : List (Option D)}, Sd G σ ds → Le ds' ds → Sd G σ ds'
  | _, _, [], .nil, _ => .nil
  | _, _, some _ :: _, .nil, h => False.elim h
  | _, _, none :: _, .nil, h => False.elim h
  | _, _, [], .no _, h => False.elim h
  | _, _, [], .yes _ _, h => False.elim h
  | _, _, none :: _, .no r, h => .no (Sd.le r h)
  | _, _, some _ :: _, .no r, h => False.elim h
  | _, _, none :: _, .yes _ r, h => .no (Sd.le r h)
  | _, _, some _ :: _, .yes h1 r, h => by
    obtain ⟨e, h⟩ := h
    subst e
    exact .yes h1 (Sd.le r h)
theorem Sd.len {G : Hp} : ∀ {σ : St} {ds : List (Option D)}, Sd G σ ds → σ.length = ds.length
  | _, _, .nil => rfl
  | _, _, .no r => congrArg (· + 1) (Sd.len r)
  | _, _, .yes _ r => congrArg (· + 1) (Sd.len r)

/-! ### cells: owned objects that may be changed -/
abbrev Cells := List (Addr × D)
/-! keys that are nested tuples of ints -/
mutual
def toN : D → NestedKey
  | .v (.int i) => .num i
  | .tup xs => .tup (toNs xs)
  | _ => .none
def toNs : List D → List NestedKey
  | [] => []
  | x :: xs => toN x :: toNs xs
end
mutual
def okN : D → Bool
  | .v (.int _) => true
  | .tup xs => okNs xs
  | _ => false
def okNs : List D → Bool
  | [] => true
  | x :: xs => okN x && okNs xs
end
def NDO (w : World) (a : Addr) (es : List (NestedKey × Addr × Value)) : HO := .ext fun h => (a == sysModules) = false ∧ ∃ o ep arr, h.get? a = some o ∧ o.ExactDict ∧ o.data = .dict arr ep ∧
  arr.toList = es.map fun x => (⟨x.1.hash w, .ref x.2.1, x.2.2⟩ : DictEntry)
structure NdAt (w : World) (G H : Hp) (a : Addr) (xs : List D) (x : V) : Prop where
  ex : ∃ (es : List (NestedKey × Addr × Value)), H a = some (NDO w a es) ∧ es.length ≤ 100000 ∧ es.length = xs.length ∧ (es.map (·.1)).Nodup ∧
    ∀ (i : Nat) e d, es[i]? = some e → xs[i]? = some d → Rp G (.ref e.2.1) d ∧ e.1 = toN d ∧ okN d = true ∧ e.1.depth ≤ 8 ∧ RelV x e.2.2
def Cell (w : World) (G H : Hp) (a : Addr) : D → Prop
  | .lst xs => ∃ vs, H a = some (.lst vs) ∧ RpA G vs xs
  | .ins C ns xs => ∃ dx vs, H a = some (.ins C dx (ns.zip vs)) ∧ ns.length = xs.length ∧ RpA G vs xs
  | .nd xs x => NdAt w G H a xs x
  | _ => False
theorem Cell.up {w : World} {G G' H H' : Hp} {a : Addr} {d : D} (c : Cell w G H a d) (s : Same G G') (e : ∀ o, H a = some o → H' a = some o) : Cell w G' H' a d := by
  cases d with
  | lst xs =>
    obtain ⟨vs, h, r⟩ := c
    exact ⟨vs, e _ h, r.up s⟩
  | ins C ns xs =>
    obtain ⟨dx, vs, h, l, r⟩ := c
    exact ⟨dx, vs, e _ h, l, r.up s⟩
  | nd xs x =>
    obtain ⟨es, h, l0, l, n, r⟩ := c
    exact ⟨es, e _ h, l0, l, n, fun i e' d h1 h2 => ⟨(r i e' d h1 h2).1.up s, (r i e' d h1 h2).2⟩⟩
  | _ => exact c
theorem Cell.some {w : World} {G H : Hp} {a : Addr} {d : D} (c : Cell w G H a d) : ∃ o, H a = some o := by
  cases d with
  | lst xs => exact ⟨_, c.choose_spec.1⟩
  | ins C ns xs => exact ⟨_, c.choose_spec.choose_spec.1⟩
  | nd xs x => exact ⟨_, c.ex.choose_spec.1⟩
  | _ => exact c.elim
structure CellsOk (F : Fm) (G H : Hp) (M : Cells) : Prop where
  nd : (M.map (·.1)).Nodup
  ok : ∀ p ∈ M, G p.1 = none ∧ Cell F.w G H p.1 p.2 ∧ (p.1 ∈ F.P ∨ F.H p.1 = none)
/-- the assertion: slots ds, cells M, temporaries ts -/
structure At (F : Fm) (ds : List (Option D)) (M : Cells) (ts : List (V × D)) (σ : St) (H : Hp) : Prop where
  ex : ∃ G, Wd F G H ∧ Sd G σ ds ∧ (∀ t ∈ ts, Rp G t.1 t.2) ∧ CellsOk F G H M
section
variable {F : Fm} {ds ds' : List (Option D)} {M M' : Cells} {ts ts' : List (V × D)} {σ : St} {H : Hp} {v : V} {d : D} {a : Addr}
theorem At.sub (A : At F ds M ts σ H) (h : ∀ t ∈ ts', t ∈ ts) : At F ds M ts' σ H := by
  obtain ⟨G, w, s, t, c⟩ := A.ex
  exact ⟨G, w, s, fun x hx => t x (h x hx), c⟩
theorem At.le (A : At F ds M ts σ H) (h : Le ds' ds) : At F ds' M ts σ H := by
  obtain ⟨G, w, s, t, c⟩ := A.ex
  exact ⟨G, w, s.le h, t, c⟩
theorem At.perm (A : At F ds M ts σ H) (h : M.Perm M') : At F ds M' ts σ H := by
  obtain ⟨G, w, s, t, c⟩ := A.ex
  exact ⟨G, w, s, t, ((h.map (·.1)).nodup_iff.mp c.nd), fun p hp => c.ok p (h.mem_iff.mpr hp)⟩
/-- cells that are not asked any more -/
theorem At.drop {N : Cells} (A : At F ds (M ++ N) ts σ H) : At F ds M ts σ H := by
  obtain ⟨G, w, s, t, c⟩ := A.ex
  refine ⟨G, w, s, t, ?_, fun p hp => c.ok p (List.mem_append_left _ hp)⟩
  have h := c.nd
  rw [List.map_append] at h
  exact (List.nodup_append.mp h).1
theorem At.val {x : V} (A : At F ds M ts σ H) (h : (v, D.v x) ∈ ts) : v = x := by
  obtain ⟨G, w, s, t, c⟩ := A.ex
  exact (t _ h).val
theorem At.slot {i : Nat} (A : At F ds M ts σ H) (h : ds[i]? = some (some d)) : ∃ v, σ[i]? = some (some v) ∧ At F ds M ((v, d) :: ts) σ H := by
  obtain ⟨G, w, s, t, c⟩ := A.ex
  obtain ⟨v, h1, h2⟩ := s.get h
  refine ⟨v, h1, G, w, s, fun x hx => ?_, c⟩
  rcases List.mem_cons.mp hx with e | hx
  · subst e
    exact h2
  · exact t x hx
theorem At.lit (x : V) (A : At F ds M ts σ H) : At F ds M ((x, D.v x) :: ts) σ H := by
  obtain ⟨G, w, s, t, c⟩ := A.ex
  refine ⟨G, w, s, fun y hy => ?_, c⟩
  rcases List.mem_cons.mp hy with e | hy
  · subst e
    exact .v x
  · exact t y hy
theorem At.openL {xs : List D} (A : At F ds M ts σ H) (h : (v, D.lst xs) ∈ ts) : ∃ a vs, v = .ref a ∧ H a = some (.lst vs) ∧ vs.length = xs.length ∧ At F ds M (vs.zip xs ++ ts) σ H := by
  obtain ⟨G, w, s, t, c⟩ := A.ex
  cases t _ h with
  | @lst a vs _ e r =>
    refine ⟨a, vs, rfl, w.le _ _ e, r.len, G, w, s, fun x hx => ?_, c⟩
    rcases List.mem_append.mp hx with hx | hx
    · exact r.zip x hx
    · exact t x hx
theorem At.openT {xs : List D} (A : At F ds M ts σ H) (h : (v, D.tup xs) ∈ ts) : ∃ a vs, v = .ref a ∧ H a = some (.tup vs) ∧ vs.length = xs.length ∧ At F ds M (vs.zip xs ++ ts) σ H := by
  obtain ⟨G, w, s, t, c⟩ := A.ex
  cases t _ h with
  | @tup a vs _ e r =>
    refine ⟨a, vs, rfl, w.le _ _ e, r.len, G, w, s, fun x hx => ?_, c⟩
    rcases List.mem_append.mp hx with hx | hx
    · exact r.zip x hx
    · exact t x hx
theorem At.openI {C : Addr} {ns : List Str} {xs : List D} (A : At F ds M ts σ H) (h : (v, D.ins C ns xs) ∈ ts) : ∃ a dx vs, v = .ref a ∧ H a = some (.ins C dx (ns.zip vs)) ∧ ns.length = xs.length ∧ vs.length = xs.length ∧ At F ds M (vs.zip xs ++ ts) σ H := by
  obtain ⟨G, w, s, t, c⟩ := A.ex
  cases t _ h with
  | @ins a C dx ns vs _ e l r =>
    refine ⟨a, dx, vs, rfl, w.le _ _ e, l, r.len, G, w, s, fun x hx => ?_, c⟩
    rcases List.mem_append.mp hx with hx | hx
    · exact r.zip x hx
    · exact t x hx
theorem At.openD {ks : List Key} {xs : List D} (A : At F ds M ts σ H) (h : (v, D.dic ks xs) ∈ ts) : ∃ a vs, v = .ref a ∧ H a = some (.dK (ks.zip vs)) ∧ ks.length = xs.length ∧ vs.length = xs.length ∧ At F ds M (vs.zip xs ++ ts) σ H := by
  obtain ⟨G, w, s, t, c⟩ := A.ex
  cases t _ h with
  | @dic a ks vs _ e l r =>
    refine ⟨a, vs, rfl, w.le _ _ e, l, r.len, G, w, s, fun x hx => ?_, c⟩
    rcases List.mem_append.mp hx with hx | hx
    · exact r.zip x hx
    · exact t x hx
theorem At.cellL {i : Nat} {xs : List D} (A : At F ds M ts σ H) (h : M[i]? = some (a, D.lst xs)) : ∃ vs, H a = some (.lst vs) ∧ vs.length = xs.length ∧ At F ds M (vs.zip xs ++ ts) σ H := by
  obtain ⟨G, w, s, t, c⟩ := A.ex
  obtain ⟨_, ⟨vs, e, r⟩, _⟩ := c.ok _ (List.mem_of_getElem? h)
  refine ⟨vs, e, r.len, G, w, s, fun x hx => ?_, c⟩
  rcases List.mem_append.mp hx with hx | hx
  · exact r.zip x hx
  · exact t x hx
theorem At.cellI {i : Nat} {C : Addr} {ns : List Str} {xs : List D} (A : At F ds M ts σ H) (h : M[i]? = some (a, D.ins C ns xs)) : ∃ dx vs, H a = some (.ins C dx (ns.zip vs)) ∧ ns.length = xs.length ∧ vs.length = xs.length ∧ At F ds M (vs.zip xs ++ ts) σ H := by
  obtain ⟨G, w, s, t, c⟩ := A.ex
  obtain ⟨_, ⟨dx, vs, e, l, r⟩, _⟩ := c.ok _ (List.mem_of_getElem? h)
  refine ⟨dx, vs, e, l, r.len, G, w, s, fun x hx => ?_, c⟩
  rcases List.mem_append.mp hx with hx | hx
  · exact r.zip x hx
  · exact t x hx
theorem At.rpA {vs : List V} {xs : List D} (A : At F ds M (vs.zip xs ++ ts) σ H) (l : vs.length = xs.length) : ∃ G, Same G H ∧ RpA G vs xs := by
  obtain ⟨G, w, s, t, c⟩ := A.ex
  exact ⟨G, w.le, RpA.of l fun x hx => t x (List.mem_append_left _ hx)⟩
/-- a new object, seen as data -/
theorem At.alloc {o : HO} {p : Addr} (A : At F ds M ts σ H) (hp : H p = none) (hr : ∀ G', (∀ t ∈ ts, Rp G' t.1 t.2) → G' p = some o → Rp G' (.ref p) d) : At F ds M ((.ref p, d) :: ts) σ (upd H p o) := by
  obtain ⟨G, w, s, t, c⟩ := A.ex
  have gp : G p = none := by
    cases e : G p with
    | none => rfl
    | some u =>
      have e2 := w.le _ _ e
      rw [hp] at e2
      cases e2
  have sg : Same G (upd G p o) := fun b u e => by
    rw [upd_ne (ne_of_none e gp)]
    exact e
  refine ⟨upd G p o, ⟨w.base.trans sg, fun b u e => ?_, fun b h1 h0 h2 => ?_, fun b u e nb => ?_, fun b h1 => ?_⟩, s.up sg, fun x hx => ?_, c.nd, fun q hq => ?_⟩
  · by_cases hb : b = p
    · subst hb
      rw [upd_same] at e ⊢
      exact e
    · rw [upd_ne hb] at e ⊢
      exact w.le _ _ e
  · have nb : b ≠ p := fun z => w.live b h1 (z ▸ hp)
    rw [upd_ne nb]
    exact w.hid b h1 h0 h2
  · have e2 := w.keep b u e nb
    rw [upd_ne (ne_of_none e2 hp)]
    exact e2
  · by_cases hb : b = p
    · subst hb
      rw [upd_same]
      exact fun z => nomatch z
    · rw [upd_ne hb]
      exact w.live b h1
  · rcases List.mem_cons.mp hx with e | hx
    · subst e
      exact hr _ (fun y hy => (t y hy).up sg) upd_same
    · exact (t x hx).up sg
  · obtain ⟨h1, h2, h3⟩ := c.ok q hq
    obtain ⟨u, hu⟩ := h2.some
    have nq : q.1 ≠ p := ne_of_none hu hp
    exact ⟨by rw [upd_ne nq]; exact h1, h2.up sg fun o' e => by rw [upd_ne nq]; exact e, h3⟩
/-- a new object, a cell of ours -/
theorem At.allocC {o : HO} {p : Addr} (A : At F ds M ts σ H) (hp : H p = none) (hr : ∀ G' H', (∀ t ∈ ts, Rp G' t.1 t.2) → H' p = some o → Cell F.w G' H' p d) : At F ds ((p, d) :: M) ((.ref p, .ref p) :: ts) σ (upd H p o) ∧ F.H p = none := by
  obtain ⟨G, w, s, t, c⟩ := A.ex
  have gp : G p = none := by
    cases e : G p with
    | none => rfl
    | some u =>
      have e2 := w.le _ _ e
      rw [hp] at e2
      cases e2
  have fp : F.H p = none := by
    cases e : F.H p with
    | none => rfl
    | some u => exact absurd hp (w.live p (by rw [e]; exact fun z => nomatch z))
  refine ⟨⟨G, ⟨w.base, fun b u e => ?_, w.hid, fun b u e nb => ?_, fun b h1 => ?_⟩, s, fun x hx => ?_, ?_, fun q hq => ?_⟩, fp⟩
  · rw [upd_ne (ne_of_none e gp)]
    exact w.le _ _ e
  · have e2 := w.keep b u e nb
    rw [upd_ne (ne_of_none e2 hp)]
    exact e2
  · by_cases hb : b = p
    · subst hb
      rw [upd_same]
      exact fun z => nomatch z
    · rw [upd_ne hb]
      exact w.live b h1
  · rcases List.mem_cons.mp hx with e | hx
    · subst e
      exact .v _
    · exact t x hx
  · refine List.nodup_cons.mpr ⟨fun hm => ?_, c.nd⟩
    obtain ⟨q, hq, e⟩ := List.mem_map.mp hm
    obtain ⟨u, hu⟩ := (c.ok q hq).2.1.some
    have e' : q.1 = p := e
    rw [e', hp] at hu
    cases hu
  · rcases List.mem_cons.mp hq with e | hq
    · subst e
      exact ⟨gp, hr _ _ t upd_same, .inr fp⟩
    · obtain ⟨h1, h2, h3⟩ := c.ok q hq
      obtain ⟨u, hu⟩ := h2.some
      exact ⟨h1, h2.up (Same.refl _) fun o' e => by rw [upd_ne (ne_of_none hu hp)]; exact e, h3⟩
/-- a cell is written -/
theorem At.write2 {G : Hp} {o : HO} {i : Nat} {d0 : D} (w : Wd F G H) (s : Sd G σ ds) (t : ∀ t ∈ ts, Rp G t.1 t.2) (c : CellsOk F G H M) (hi : M[i]? = some (a, d0)) (hr : ∀ H', H' a = some o → Cell F.w G H' a d) : At F ds (M.set i (a, d)) ts σ (upd H a o) := by
  obtain ⟨g1, g2, g3⟩ := c.ok _ (List.mem_of_getElem? hi)
  have hmap : (M.set i (a, d)).map (·.1) = M.map (·.1) := by
    rw [List.map_set]
    have e2 : (M.map (·.1))[i]? = some a := by rw [List.getElem?_map, hi]; rfl
    exact set_same e2
  have g1' : G a = none := g1
  refine ⟨G, ⟨w.base, fun b u e => ?_, w.hid, fun b u e nb => ?_, fun b h1 => ?_⟩, s, t, by rw [hmap]; exact c.nd, fun q hq => ?_⟩
  · rw [upd_ne (ne_of_none e g1')]
    exact w.le _ _ e
  · have nb2 : b ≠ a := fun z => by
      subst z
      rcases g3 with h | h
      · exact nb h
      · rw [show F.H b = none from h] at e
        cases e
    rw [upd_ne nb2]
    exact w.keep b u e nb
  · by_cases hb : b = a
    · subst hb
      rw [upd_same]
      exact fun z => nomatch z
    · rw [upd_ne hb]
      exact w.live b h1
  · obtain ⟨j, hj⟩ := List.mem_iff_getElem?.mp hq
    by_cases hij : i = j
    · subst hij
      have hlt : i < M.length := (List.getElem?_eq_some_iff.mp hi).1
      rw [List.getElem?_set_self hlt] at hj
      cases hj
      exact ⟨g1, hr _ upd_same, g3⟩
    · rw [List.getElem?_set_ne hij] at hj
      obtain ⟨h1, h2, h3⟩ := c.ok q (List.mem_of_getElem? hj)
      have nq : q.1 ≠ a := fun z => by
        have e1 : (M.map (·.1))[i]? = some a := by rw [List.getElem?_map, hi]; rfl
        have e2 : (M.map (·.1))[j]? = some a := by rw [List.getElem?_map, hj, Option.map_some, z]
        exact hij (nd_ix c.nd e1 e2)
      exact ⟨h1, h2.up (Same.refl _) fun o' e => by rw [upd_ne nq]; exact e, h3⟩
theorem nodup_erase {α : Type} {l : List α} (h : l.Nodup) (i : Nat) : (l.eraseIdx i).Nodup := h.sublist (List.eraseIdx_sublist ..)
theorem At.write {o : HO} {i : Nat} {d0 : D} (A : At F ds M ts σ H) (hi : M[i]? = some (a, d0)) (hr : ∀ G' H', (∀ t ∈ ts, Rp G' t.1 t.2) → H' a = some o → Cell F.w G' H' a d) : At F ds (M.set i (a, d)) ts σ (upd H a o) := by
  obtain ⟨G, w, s, t, c⟩ := A.ex
  exact At.write2 w s t c hi fun H' e => hr G H' t e
/-- a cell of our own making becomes data -/
theorem At.freeze0 {i : Nat} (A : At F ds M ts σ H) (hi : M[i]? = some (a, d)) (hd : ∀ xs x, d ≠ .nd xs x) : At F ds (M.eraseIdx i) ((.ref a, d) :: ts) σ H := by
  obtain ⟨G, w, s, t, c⟩ := A.ex
  obtain ⟨g1, g2, g3⟩ := c.ok _ (List.mem_of_getElem? hi)
  have ga : G a = none := g1
  obtain ⟨o, ho⟩ := g2.some
  have ho' : H a = some o := ho
  have sg : Same G (upd G a o) := fun b u e => by
    rw [upd_ne (ne_of_none e ga)]
    exact e
  refine ⟨upd G a o, ⟨w.base.trans sg, fun b u e => ?_, fun b h1 h0 h2 => ?_, w.keep, w.live⟩, s.up sg, fun x hx => ?_, ?_, fun q hq => ?_⟩
  · by_cases hb : b = a
    · subst hb
      rw [upd_same] at e
      cases e
      exact ho'
    · rw [upd_ne hb] at e
      exact w.le _ _ e
  · have nb : b ≠ a := fun z => by
      subst z
      rcases g3 with g3 | g3
      · exact h0 g3
      · exact h1 g3
    rw [upd_ne nb]
    exact w.hid b h1 h0 h2
  · rcases List.mem_cons.mp hx with e | hx
    · subst e
      have g2' : Cell F.w G H a d := g2
      cases d with
      | lst xs =>
        obtain ⟨vs, h, r⟩ := g2'
        rw [ho'] at h
        cases h
        exact .lst upd_same (r.up sg)
      | ins C ns xs =>
        obtain ⟨dx, vs, h, l, r⟩ := g2'
        rw [ho'] at h
        cases h
        exact .ins upd_same l (r.up sg)
      | nd xs x => exact absurd rfl (hd xs x)
      | _ => exact g2'.elim
    · exact (t x hx).up sg
  · rw [map_era]
    exact nodup_erase c.nd i
  · have hq' : q ∈ M := List.mem_of_mem_eraseIdx hq
    obtain ⟨h1, h2, h3⟩ := c.ok q hq'
    have nq : q.1 ≠ a := fun z => by
      have hn := c.nd
      obtain ⟨hlt, e⟩ := List.getElem?_eq_some_iff.mp hi
      obtain ⟨j, hj, e2⟩ := List.mem_iff_getElem.mp hq
      have e3 : (M.eraseIdx i)[j]? = some q := by rw [List.getElem?_eq_getElem hj, e2]
      rw [List.getElem?_eraseIdx] at e3
      have key : ∀ k, M[k]? = some q → k = i := fun k hk => by
        have f1 : (M.map (·.1))[i]? = some a := by rw [List.getElem?_map, hi]; rfl
        have f2 : (M.map (·.1))[k]? = some a := by rw [List.getElem?_map, hk, Option.map_some, z]
        exact (nd_ix hn f1 f2).symm
      split at e3
      · have := key j e3
        omega
      · have := key (j + 1) e3
        omega
    exact ⟨by rw [upd_ne nq]; exact h1, h2.up sg fun o' e => e, h3⟩
theorem At.freeze {i : Nat} (A : At F ds M ts σ H) (hi : M[i]? = some (a, d)) (_fa : F.H a = none) (hd : ∀ xs x, d ≠ .nd xs x) : At F ds (M.eraseIdx i) ((.ref a, d) :: ts) σ H := A.freeze0 hi hd
theorem At.set {i : Nat} (A : At F ds M ts σ H) (h : (v, d) ∈ ts) : At F (ds.set i (some d)) M ts (σ.set i (some v)) H := by
  obtain ⟨G, w, s, t, c⟩ := A.ex
  exact ⟨G, w, s.set (t _ h) i, t, c⟩
theorem At.unset {i : Nat} {o : Option V} (A : At F ds M ts σ H) : At F (ds.set i none) M ts (σ.set i o) H := by
  obtain ⟨G, w, s, t, c⟩ := A.ex
  exact ⟨G, w, Sd.unset (o := o) i s, t, c⟩
end
end K23

set_option maxHeartbeats 4000000
/-! Expressions, read by data. -/
namespace K23
open PySem PySem.Spec PyProof.Rows L2

structure sE (X : Cx) (e : Expr) (σ : St) (H : Hp) (Q : VK) : Prop where
  run : ∀ (pins : List (Addr × Obj)) (s : Shared), Inv X pins σ H s → wpAny (model X.prog X.w) X.A (eval e X.env) (EP X pins σ Q) X.xe s
structure sT (X : Cx) (e : Expr) (σ : St) (H : Hp) (Q : Bool → Hp → Prop) : Prop where
  run : ∀ (pins : List (Addr × Obj)) (s : Shared), Inv X pins σ H s → wpAny (model X.prog X.w) X.A (isTrue e X.env (eval e X.env)) (TP X pins σ Q) X.xe s
structure sA (X : Cx) (es : List Expr) (σ : St) (H : Hp) (Q : List V → Hp → Prop) : Prop where
  run : ∀ (pos : Pos) (pins : List (Addr × Obj)) (s : Shared), Inv X pins σ H s → wpAny (model X.prog X.w) X.A (spliced (backTo pos (starEach es X.env))) (AP X pins σ Q) X.xe s
theorem pe_s {X : Cx} {e : Expr} : PE X e (sE X e) := ⟨fun pins s _ _ _ I h => h.run pins s I⟩
theorem pt_s {X : Cx} {e : Expr} : PT X e (sT X e) := ⟨fun pins s _ _ _ I h => h.run pins s I⟩
theorem pa_s {X : Cx} {es : List Expr} : PA X es (sA X es) := ⟨fun pos pins s _ _ _ I h => h.run pos pins s I⟩
theorem sE_of {X : Cx} {e : Expr} {t : TE} (h : PE X e t) {σ : St} {H : Hp} {Q : VK} (q : t σ H Q) : sE X e σ H Q := ⟨fun pins s I => h.run pins s σ H Q I q⟩
theorem sT_of {X : Cx} {e : Expr} {t : TT} (h : PT X e t) {σ : St} {H : Hp} {Q : Bool → Hp → Prop} (q : t σ H Q) : sT X e σ H Q := ⟨fun pins s I => h.run pins s σ H Q I q⟩
theorem sA_of {X : Cx} {es : List Expr} {t : TA} (h : PA X es t) {σ : St} {H : Hp} {Q : List V → Hp → Prop} (q : t σ H Q) : sA X es σ H Q := ⟨fun pos pins s I => h.run pos pins s σ H Q I q⟩

def Ev (F : Fm) (ds : List (Option D)) (M : Cells) (te : TE) (d : D) (M' : Cells) : Prop :=
  ∀ (ts : List (V × D)) (σ : St) (H : Hp), At F ds M ts σ H → ∀ Q : VK, (∀ v H', At F ds M' ((v, d) :: ts) σ H' → Q v H') → te σ H Q
def EvK (F : Fm) (ds : List (Option D)) (M : Cells) (te : TE) (K : D → Cells → Prop) : Prop :=
  ∀ (ts : List (V × D)) (σ : St) (H : Hp), At F ds M ts σ H → ∀ Q : VK, (∀ d M' v H', K d M' → At F ds M' ((v, d) :: ts) σ H' → Q v H') → te σ H Q
def EvT (F : Fm) (ds : List (Option D)) (M : Cells) (tt : TT) (b : Bool) (M' : Cells) : Prop :=
  ∀ (ts : List (V × D)) (σ : St) (H : Hp), At F ds M ts σ H → ∀ Q : Bool → Hp → Prop, (∀ H', At F ds M' ts σ H' → Q b H') → tt σ H Q
def EvA (F : Fm) (ds : List (Option D)) (M : Cells) (ta : TA) (es : List D) (M' : Cells) : Prop :=
  ∀ (ts : List (V × D)) (σ : St) (H : Hp), At F ds M ts σ H → ∀ Q : List V → Hp → Prop, (∀ vs H', vs.length = es.length → At F ds M' (vs.zip es ++ ts) σ H' → Q vs H') → ta σ H Q
abbrev EV (X : Cx) (F : Fm) (ds : List (Option D)) (M : Cells) (e : Expr) (d : D) (M' : Cells) : Prop := Ev F ds M (sE X e) d M'
abbrev EVK (X : Cx) (F : Fm) (ds : List (Option D)) (M : Cells) (e : Expr) (K : D → Cells → Prop) : Prop := EvK F ds M (sE X e) K
abbrev ET (X : Cx) (F : Fm) (ds : List (Option D)) (M : Cells) (e : Expr) (b : Bool) (M' : Cells) : Prop := EvT F ds M (sT X e) b M'
abbrev EA (X : Cx) (F : Fm) (ds : List (Option D)) (M : Cells) (es : List Expr) (xs : List D) (M' : Cells) : Prop := EvA F ds M (sA X es) xs M'
def RB (F : Fm) (ds : List (Option D)) (M : Cells) (r : R2) (d1 d2 d : D) (M' : Cells) : Prop :=
  ∀ (ts : List (V × D)) (σ : St) (H : Hp) (v1 v2 : V), At F ds M ((v2, d2) :: (v1, d1) :: ts) σ H → ∀ Q : VK, (∀ v H', At F ds M' ((v, d) :: ts) σ H' → Q v H') → r v1 v2 H Q

section
variable {X : Cx} {F : Fm} {ds : List (Option D)} {M M1 M2 M3 M' : Cells} {d d1 d2 d3 : D} {e a b c o : Expr} {es : List Expr} {pos apos p p2 : Pos} {x f m : Str} {K : D → Cells → Prop}
theorem ev_of {te : TE} (h : PE X e te) (q : Ev F ds M te d M') : EV X F ds M e d M' := fun ts σ H A Q k => sE_of h (q ts σ H A Q k)
theorem evk_of {te : TE} (h : PE X e te) (q : EvK F ds M te K) : EVK X F ds M e K := fun ts σ H A Q k => sE_of h (q ts σ H A Q k)
theorem et_of {tt : TT} {b : Bool} (h : PT X e tt) (q : EvT F ds M tt b M') : ET X F ds M e b M' := fun ts σ H A Q k => sT_of h (q ts σ H A Q k)
theorem Ev.k {te : TE} (h : Ev F ds M te d M') : EvK F ds M te (fun d' M2 => d' = d ∧ M2 = M') := fun ts σ H A Q k => h ts σ H A Q fun v H' A' => k d M' v H' ⟨rfl, rfl⟩ A'
theorem Ev.eq {te : TE} (h : Ev F ds M te d M') (e : d = d1) : Ev F ds M te d1 M' := e ▸ h
theorem ev_v (i : Nat) (hd : ds[i]? = some (some d) := by rfl) (hN : X.N[i]? = some x := by rfl) (hv : Vis X.env.scope x := by first | exact Or.inl rfl | exact Or.inr (Or.inl rfl) | exact Or.inr (Or.inr rfl))
    (hdb : (x == ("__debug__" : Str)) = false := by decide) (hcd : (x == ("__classdict__" : Str)) = false := by decide) : EV X F ds M (.Name x pos) d M :=
  ev_of (pe_var hN hv hdb hcd) fun ts σ H A Q k => let ⟨v, h1, A'⟩ := A.slot hd; ⟨v, h1, k v H A'⟩
theorem ev_i {i : Int} {j : Nat} : EV X F ds M (.Constant (.int i) j pos) (.int i) M := ev_of pe_int fun ts σ H A Q k => k _ H (A.lit _)
theorem ev_b {i : Bool} {j : Nat} : EV X F ds M (.Constant (.bool i) j pos) (.bl i) M := ev_of pe_bl fun ts σ H A Q k => k _ H (A.lit _)
theorem ev_n {j : Nat} : EV X F ds M (.Constant .none j pos) .non M := ev_of pe_non fun ts σ H A Q k => k _ H (A.lit _)
theorem ev_s {z : Str} {j : Nat} : EV X F ds M (.Constant (.str z) j pos) (.str z) M := ev_of pe_str fun ts σ H A Q k => k _ H (A.lit _)
/-- what a module's name holds -/
def GV (mg : Str → Option Value) (x : Str) (v : V) : Prop := ∃ u, mg x = some u ∧ RelV v u
theorem ev_g {v : V} (h : GV X.mg x v) (hg : Gl X x := by rfl) (hd : (x == ("__debug__" : Str)) = false := by decide) : EV X F ds M (.Name x pos) (.v v) M :=
  let ⟨_, hm, r⟩ := h; ev_of (pe_glob hg hm r hd) fun ts σ H A Q k => k _ H (A.lit _)
/-- a built-in's name as a value -/
theorem ev_bltn {v : V} {u : Value} (hm : X.mg x = none) (hv : bootBuiltins x = some u) (r : RelV v u) (hg : Gl X x := by rfl) (hn : x ≠ "__name__" := by decide) (hd : (x == ("__debug__" : Str)) = false := by decide) : EV X F ds M (.Name x pos) (.v v) M :=
  ev_of (pe_bltn hg hm hv r hn hd) fun ts σ H A Q k => k _ H (A.lit _)
theorem ev_neg {i : Int} (h : EV X F ds M e (.int i) M1) : EV X F ds M (.UnaryOp .USub e pos) (.int (-i)) M1 :=
  ev_of (pe_un un_neg pe_s) fun ts σ H A Q k => h ts σ H A _ fun v H1 A1 => ⟨i, A1.val List.mem_cons_self, k _ H1 ((A1.sub fun t ht => List.mem_cons_of_mem _ ht).lit _)⟩
theorem ev_bin {op : Operator} {r : R2} (ho : OpR X (binaryOp op) r) (hr : RB F ds M2 r d1 d2 d M3) (ha : EV X F ds M a d1 M1) (hb : EV X F ds M1 b d2 M2) : EV X F ds M (.BinOp a op b pos) d M3 :=
  ev_of (pe_op ho pe_s pe_s) fun ts σ H A Q k => ha ts σ H A _ fun v1 H1 A1 => hb _ σ H1 A1 _ fun v2 H2 A2 => hr ts σ H2 v1 v2 A2 Q k
theorem ev_cmp {op : CmpOp} {r : R2} (ho : OpR X (compareOp op) r) (hr : RB F ds M2 r d1 d2 d M3) (ha : EV X F ds M a d1 M1) (hb : EV X F ds M1 b d2 M2) (hm : behindInMarks op b = false := by first | exact nomark _ | rfl) : EV X F ds M (.Compare a [op] [b] pos) d M3 :=
  ev_of (pe_cmpR ho pe_s pe_s hm) fun ts σ H A Q k => ha ts σ H A _ fun v1 H1 A1 => hb _ σ H1 A1 _ fun v2 H2 A2 => hr ts σ H2 v1 v2 A2 Q k
theorem et_cmp {op : CmpOp} {r : R2} {k : Bool} (ho : OpR X (compareOp op) r) (hr : RB F ds M2 r d1 d2 (.bl k) M3) (ha : EV X F ds M a d1 M1) (hb : EV X F ds M1 b d2 M2) (hm : behindInMarks op b = false := by first | exact nomark _ | rfl) : ET X F ds M (.Compare a [op] [b] pos) k M3 :=
  et_of (pt_cmpR ho pe_s pe_s hm) fun ts σ H A Q q => ha ts σ H A _ fun v1 H1 A1 => hb _ σ H1 A1 _ fun v2 H2 A2 => hr ts σ H2 v1 v2 A2 _ fun v H3 A3 => ⟨k, A3.val List.mem_cons_self, q H3 (A3.sub fun t ht => List.mem_cons_of_mem _ ht)⟩
theorem ix_op {r : R2} (hr : IxR X r) (hb0 : RB F ds M2 r d1 d2 d M3) (ha : EV X F ds M a d1 M1) (hb : EV X F ds M1 b d2 M2) (hs : PlainIx b) : EV X F ds M (.Subscript a b pos) d M3 :=
  ev_of (pe_ix hr pe_s pe_s hs) fun ts σ H A Q k => ha ts σ H A _ fun v1 H1 A1 => hb _ σ H1 A1 _ fun v2 H2 A2 => hb0 ts σ H2 v1 v2 A2 Q k

theorem At.two {F : Fm} {ds : List (Option D)} {M : Cells} {ts : List (V × D)} {σ : St} {H : Hp} {v1 v2 x1 x2 : V} (A : At F ds M ((v2, .v x2) :: (v1, .v x1) :: ts) σ H) : v1 = x1 ∧ v2 = x2 ∧ At F ds M ts σ H :=
  ⟨A.val (List.mem_cons_of_mem _ List.mem_cons_self), A.val List.mem_cons_self, A.sub fun t ht => List.mem_cons_of_mem _ (List.mem_cons_of_mem _ ht)⟩
theorem rb_I0 {g : Int → Int → V} {i j : Int} : RB F ds M (rI0 g) (.int i) (.int j) (.v (g i j)) M := fun ts σ H v1 v2 A Q k => let ⟨e1, e2, A'⟩ := A.two; ⟨i, j, e1, e2, k _ H (A'.lit _)⟩
theorem rb_I {C : Int → Int → Prop} {g : Int → Int → V} {i j : Int} (hc : C i j) : RB F ds M (rI C g) (.int i) (.int j) (.v (g i j)) M := fun ts σ H v1 v2 A Q k => let ⟨e1, e2, A'⟩ := A.two; ⟨i, j, e1, e2, hc, k _ H (A'.lit _)⟩
theorem rb_eq {x y : V} (hs : scal x y = true) : RB F ds M rEq (.v x) (.v y) (.bl (decide (x = y))) M := fun ts σ H v1 v2 A Q k => by
  obtain ⟨e1, e2, A'⟩ := A.two
  subst e1 e2
  exact ⟨hs, k _ H (A'.lit _)⟩
theorem rb_ne {x y : V} (hs : scal x y = true) : RB F ds M rNe (.v x) (.v y) (.bl (!decide (x = y))) M := fun ts σ H v1 v2 A Q k => by
  obtain ⟨e1, e2, A'⟩ := A.two
  subst e1 e2
  exact ⟨hs, k _ H (A'.lit _)⟩
def isNon : D → Bool
  | .v .non => true
  | _ => false
theorem isNon_dec {G : Hp} {v : V} {d : D} (r : Rp G v d) : decide (v = .non) = isNon d := by
  cases r with
  | v x => cases v <;> simp [isNon]
  | _ => simp [isNon]
theorem At.non {F : Fm} {ds : List (Option D)} {M : Cells} {ts : List (V × D)} {σ : St} {H : Hp} {v : V} {d : D} (A : At F ds M ts σ H) (h : (v, d) ∈ ts) : decide (v = .non) = isNon d := by
  obtain ⟨G, w, s, t, c⟩ := A.ex
  exact isNon_dec (t _ h)
theorem rb_isN : RB F ds M (fun x y H Q => y = .non ∧ Q (.bl (decide (x = .non))) H) d .non (.bl (isNon d)) M := fun ts σ H v1 v2 A Q k => by
  refine ⟨A.val List.mem_cons_self, ?_⟩
  rw [A.non (List.mem_cons_of_mem _ List.mem_cons_self)]
  exact k _ H ((A.sub fun t ht => List.mem_cons_of_mem _ (List.mem_cons_of_mem _ ht)).lit _)
theorem rb_notN : RB F ds M (fun x y H Q => y = .non ∧ Q (.bl (!decide (x = .non))) H) d .non (.bl (!isNon d)) M := fun ts σ H v1 v2 A Q k => by
  refine ⟨A.val List.mem_cons_self, ?_⟩
  rw [A.non (List.mem_cons_of_mem _ List.mem_cons_self)]
  exact k _ H ((A.sub fun t ht => List.mem_cons_of_mem _ (List.mem_cons_of_mem _ ht)).lit _)
theorem rb_isB {i j : Bool} : RB F ds M rIsB (.bl i) (.bl j) (.bl (decide (i = j))) M := fun ts σ H v1 v2 A Q k => let ⟨e1, e2, A'⟩ := A.two; ⟨i, j, e1, e2, k _ H (A'.lit _)⟩
theorem rb_addS {i j : Str} (h : i.length + j.length ≤ 100000) : RB F ds M (fun x y H Q => ∃ i j, x = .str i ∧ y = .str j ∧ i.length + j.length ≤ sizeLine ∧ Q (.str (i ++ j)) H) (.str i) (.str j) (.str (i ++ j)) M :=
  fun ts σ H v1 v2 A Q k => let ⟨e1, e2, A'⟩ := A.two; ⟨i, j, e1, e2, Nat.le_trans h (by decide), k _ H (A'.lit _)⟩
theorem rb_inS {i j : Str} : RB F ds M (fun x y H Q => ∃ i j, x = .str i ∧ y = .str j ∧ Q (.bl (!(Builtin.Str.occurrences j i 0 j.length 1).isEmpty)) H) (.str i) (.str j) (.bl (!(Builtin.Str.occurrences j i 0 j.length 1).isEmpty)) M :=
  fun ts σ H v1 v2 A Q k => let ⟨e1, e2, A'⟩ := A.two; ⟨i, j, e1, e2, k _ H (A'.lit _)⟩
theorem rb_ninS {i j : Str} : RB F ds M (fun x y H Q => ∃ i j, x = .str i ∧ y = .str j ∧ Q (.bl (!(!(Builtin.Str.occurrences j i 0 j.length 1).isEmpty))) H) (.str i) (.str j) (.bl (!(!(Builtin.Str.occurrences j i 0 j.length 1).isEmpty))) M :=
  fun ts σ H v1 v2 A Q k => let ⟨e1, e2, A'⟩ := A.two; ⟨i, j, e1, e2, k _ H (A'.lit _)⟩

/-! ints -/
theorem ev_add {i j : Int} (ha : EV X F ds M a (.int i) M1) (hb : EV X F ds M1 b (.int j) M2) : EV X F ds M (.BinOp a .Add b pos) (.int (i + j)) M2 := ev_bin op_add rb_I0 ha hb
theorem ev_sub {i j : Int} (ha : EV X F ds M a (.int i) M1) (hb : EV X F ds M1 b (.int j) M2) : EV X F ds M (.BinOp a .Sub b pos) (.int (i - j)) M2 := ev_bin op_sub rb_I0 ha hb
theorem ev_mul {i j : Int} (hc : CMul i j) (ha : EV X F ds M a (.int i) M1) (hb : EV X F ds M1 b (.int j) M2) : EV X F ds M (.BinOp a .Mult b pos) (.int (i * j)) M2 := ev_bin op_mul (rb_I hc) ha hb
theorem ev_mod {i j : Int} (ha : EV X F ds M a (.int i) M1) (hb : EV X F ds M1 b (.int j) M2) (hc : 0 < j := by decide) : EV X F ds M (.BinOp a .Mod b pos) (.int (i % j)) M2 := ev_bin op_mod (rb_I hc) ha hb
theorem ev_fdiv {i j : Int} (ha : EV X F ds M a (.int i) M1) (hb : EV X F ds M1 b (.int j) M2) (hc : CDiv i j := by exact ⟨by decide, by decide⟩) : EV X F ds M (.BinOp a .FloorDiv b pos) (.int (i / j)) M2 := ev_bin op_fdiv (rb_I hc) ha hb
theorem ev_lt {i j : Int} (ha : EV X F ds M a (.int i) M1) (hb : EV X F ds M1 b (.int j) M2) : EV X F ds M (.Compare a [.Lt] [b] pos) (.bl (decide (i < j))) M2 := ev_cmp op_lt rb_I0 ha hb
theorem et_lt {i j : Int} (ha : EV X F ds M a (.int i) M1) (hb : EV X F ds M1 b (.int j) M2) : ET X F ds M (.Compare a [.Lt] [b] pos) (decide (i < j)) M2 := et_cmp op_lt rb_I0 ha hb
theorem et_gt {i j : Int} (ha : EV X F ds M a (.int i) M1) (hb : EV X F ds M1 b (.int j) M2) : ET X F ds M (.Compare a [.Gt] [b] pos) (decide (j < i)) M2 := et_cmp op_gt rb_I0 ha hb
theorem et_ge {i j : Int} (ha : EV X F ds M a (.int i) M1) (hb : EV X F ds M1 b (.int j) M2) : ET X F ds M (.Compare a [.GtE] [b] pos) (decide (j ≤ i)) M2 := et_cmp op_ge rb_I0 ha hb
theorem dec_v {i j : Int} : decide (V.int i = V.int j) = decide (i = j) := by
  by_cases h : i = j
  · subst h; simp
  · simp [h]
theorem dec_s {i j : Str} : decide (V.str i = V.str j) = decide (i = j) := by
  by_cases h : i = j
  · subst h; simp
  · simp [h]
theorem ev_eqI {i j : Int} (ha : EV X F ds M a (.int i) M1) (hb : EV X F ds M1 b (.int j) M2) : EV X F ds M (.Compare a [.Eq] [b] pos) (.bl (decide (i = j))) M2 := by
  rw [← dec_v]
  exact ev_cmp op_eq (rb_eq rfl) ha hb
theorem et_eqI {i j : Int} (ha : EV X F ds M a (.int i) M1) (hb : EV X F ds M1 b (.int j) M2) : ET X F ds M (.Compare a [.Eq] [b] pos) (decide (i = j)) M2 := by
  rw [← dec_v]
  exact et_cmp op_eq (rb_eq rfl) ha hb
theorem et_neI {i j : Int} (ha : EV X F ds M a (.int i) M1) (hb : EV X F ds M1 b (.int j) M2) : ET X F ds M (.Compare a [.NotEq] [b] pos) (!decide (i = j)) M2 := by
  rw [← dec_v]
  exact et_cmp op_ne (rb_ne rfl) ha hb
theorem et_eqS {i j : Str} (ha : EV X F ds M a (.str i) M1) (hb : EV X F ds M1 b (.str j) M2) : ET X F ds M (.Compare a [.Eq] [b] pos) (decide (i = j)) M2 := by
  rw [← dec_s]
  exact et_cmp op_eq (rb_eq rfl) ha hb
theorem et_neS {i j : Str} (ha : EV X F ds M a (.str i) M1) (hb : EV X F ds M1 b (.str j) M2) : ET X F ds M (.Compare a [.NotEq] [b] pos) (!decide (i = j)) M2 := by
  rw [← dec_s]
  exact et_cmp op_ne (rb_ne rfl) ha hb
theorem ev_addS {i j : Str} (ha : EV X F ds M a (.str i) M1) (hb : EV X F ds M1 b (.str j) M2) (h : i.length + j.length ≤ 100000) : EV X F ds M (.BinOp a .Add b pos) (.str (i ++ j)) M2 := ev_bin op_add_str (rb_addS h) ha hb
theorem et_isN (ha : EV X F ds M a d M1) {j : Nat} : ET X F ds M (.Compare a [.Is] [.Constant .none j p] pos) (isNon d) M1 := et_cmp op_isN rb_isN ha ev_n
theorem ev_isN (ha : EV X F ds M a d M1) {j : Nat} : EV X F ds M (.Compare a [.Is] [.Constant .none j p] pos) (.bl (isNon d)) M1 := ev_cmp op_isN rb_isN ha ev_n
theorem et_notN (ha : EV X F ds M a d M1) {j : Nat} : ET X F ds M (.Compare a [.IsNot] [.Constant .none j p] pos) (!isNon d) M1 := et_cmp op_notN rb_notN ha ev_n
theorem ev_isT {i : Bool} (ha : EV X F ds M a (.bl i) M1) {j : Nat} {k : Bool} : EV X F ds M (.Compare a [.Is] [.Constant (.bool k) j p] pos) (.bl (decide (i = k))) M1 := ev_cmp op_isBl rb_isB ha ev_b
theorem et_inS {i j : Str} (ha : EV X F ds M a (.str i) M1) (hb : EV X F ds M1 b (.str j) M2) (hm : behindInMarks .In b = false := by rfl) : ET X F ds M (.Compare a [.In] [b] pos) (!(Builtin.Str.occurrences j i 0 j.length 1).isEmpty) M2 := et_cmp op_in_str rb_inS ha hb hm
theorem et_ninS {i j : Str} (ha : EV X F ds M a (.str i) M1) (hb : EV X F ds M1 b (.str j) M2) (hm : behindInMarks .NotIn b = false := by rfl) : ET X F ds M (.Compare a [.NotIn] [b] pos) (!(!(Builtin.Str.occurrences j i 0 j.length 1).isEmpty)) M2 := et_cmp op_notin_str rb_ninS ha hb hm

/-! tests -/
theorem et_val {k : Bool} (h : EV X F ds M e (.bl k) M1) (he : ∀ whole, isTrue e X.env whole = (do let v ← whole; standAt e.pos; holding [v] (truthy v)) := by intro _; rfl) : ET X F ds M e k M1 :=
  et_of (pt_val pe_s he) fun ts σ H A Q q => h ts σ H A _ fun v H1 A1 => ⟨k, A1.val List.mem_cons_self, q H1 (A1.sub fun t ht => List.mem_cons_of_mem _ ht)⟩
theorem et_not {k : Bool} (h : ET X F ds M e k M1) : ET X F ds M (.UnaryOp .Not e pos) (!k) M1 := et_of (pt_not pt_s) fun ts σ H A Q q => h ts σ H A _ fun H1 A1 => q H1 A1
theorem et_and {k j : Bool} (h1 : ET X F ds M a k M) (h2 : k = true → ET X F ds M b j M) : ET X F ds M (.BoolOp .And [a, b] pos) (k && j) M :=
  et_of (PW.pt (pw_and pt_s (pw_and1 pt_s))) fun ts σ H A Q q => h1 ts σ H A _ fun H1 A1 => by
    cases k with
    | true => exact h2 rfl ts σ H1 A1 _ q
    | false => exact q H1 A1
theorem et_or {k j : Bool} (h1 : ET X F ds M a k M) (h2 : k = false → ET X F ds M b j M) : ET X F ds M (.BoolOp .Or [a, b] pos) (k || j) M :=
  et_of (PW.pt (pw_or pt_s (pw_or1 pt_s))) fun ts σ H A Q q => h1 ts σ H A _ fun H1 A1 => by
    cases k with
    | true => exact q H1 A1
    | false => exact h2 rfl ts σ H1 A1 _ q
theorem et_or3 {k j l : Bool} (h1 : ET X F ds M a k M) (h2 : k = false → ET X F ds M b j M) (h3 : k = false → j = false → ET X F ds M c l M) : ET X F ds M (.BoolOp .Or [a, b, c] pos) (k || (j || l)) M :=
  et_of (PW.pt (pw_or pt_s (pw_or pt_s (pw_or1 pt_s)))) fun ts σ H A Q q => h1 ts σ H A _ fun H1 A1 => by
    cases k with
    | true => exact q H1 A1
    | false =>
      refine h2 rfl ts σ H1 A1 _ fun H2 A2 => ?_
      cases j with
      | true => exact q H2 A2
      | false => exact h3 rfl rfl ts σ H2 A2 _ q
theorem ev_orV {k j : Bool} (h1 : EV X F ds M a (.bl k) M) (h2 : k = false → EV X F ds M b (.bl j) M) : EV X F ds M (.BoolOp .Or [a, b] pos) (.bl (k || j)) M :=
  ev_of (pe_or pe_s (pe_one pe_s)) fun ts σ H A Q q => h1 ts σ H A _ fun v H1 A1 => ⟨k, A1.val List.mem_cons_self, by
    cases k with
    | true => exact q _ H1 ((A1.sub fun t ht => List.mem_cons_of_mem _ ht).lit _)
    | false => exact h2 rfl ts σ H1 (A1.sub fun t ht => List.mem_cons_of_mem _ ht) _ q⟩
theorem ev_and3 {k j l : Bool} (h1 : EV X F ds M a (.bl k) M) (h2 : k = true → EV X F ds M b (.bl j) M) (h3 : k = true → j = true → EV X F ds M c (.bl l) M) : EV X F ds M (.BoolOp .And [a, b, c] pos) (.bl (k && (j && l))) M :=
  ev_of (pe_and pe_s (pe_and pe_s (pe_one pe_s))) fun ts σ H A Q q => h1 ts σ H A _ fun v H1 A1 => ⟨k, A1.val List.mem_cons_self, by
    cases k with
    | false => exact q _ H1 ((A1.sub fun t ht => List.mem_cons_of_mem _ ht).lit _)
    | true =>
      refine h2 rfl ts σ H1 (A1.sub fun t ht => List.mem_cons_of_mem _ ht) _ fun v2 H2 A2 => ⟨j, A2.val List.mem_cons_self, ?_⟩
      cases j with
      | false => exact q _ H2 ((A2.sub fun t ht => List.mem_cons_of_mem _ ht).lit _)
      | true => exact h3 rfl rfl ts σ H2 (A2.sub fun t ht => List.mem_cons_of_mem _ ht) _ q⟩
theorem ev_if {k : Bool} (h : ET X F ds M c k M1) (h1 : k = true → EV X F ds M1 a d M2) (h2 : k = false → EV X F ds M1 b d M2) : EV X F ds M (.IfExp c a b pos) d M2 :=
  ev_of (pe_ifExp pt_s pe_s pe_s) fun ts σ H A Q q => h ts σ H A _ fun H1 A1 => by
    cases k with
    | true => exact h1 rfl ts σ H1 A1 _ q
    | false => exact h2 rfl ts σ H1 A1 _ q
theorem et_chain {op op' : CmpOp} {r r' : R2} {k j : Bool} (ho : OpR X (compareOp op) r) (ho' : OpR X (compareOp op') r') (ha : EV X F ds M a d1 M) (hb : EV X F ds M b d2 M) (hr : RB F ds M r d1 d2 (.bl k) M) (hc : EV X F ds M c d3 M) (hr' : RB F ds M r' d2 d3 (.bl j) M)
    (hm : lastMarks [op, op'] [b, c] = false := by with_unfolding_all rfl) : ET X F ds M (.Compare a [op, op'] [b, c] pos) (k && j) M :=
  et_of (pt_chain ho ho' pe_s pe_s pe_s hm) fun ts σ H A Q q => ha ts σ H A _ fun v1 H1 A1 => hb _ σ H1 A1 _ fun v2 H2 A2 => hr ((v2, d2) :: ts) σ H2 v1 v2 (A2.sub fun t ht => by
      simp only [List.mem_cons] at ht ⊢
      rcases ht with h | h | h | h <;> simp [h]) _ fun v3 H3 A3 => ⟨k, A3.val List.mem_cons_self, by
    cases k with
    | false => exact ⟨false, rfl, q H3 (A3.sub fun t ht => List.mem_cons_of_mem _ (List.mem_cons_of_mem _ ht))⟩
    | true =>
      refine hc ((v2, d2) :: ts) σ H3 (A3.sub fun t ht => List.mem_cons_of_mem _ ht) _ fun v4 H4 A4 => hr' ts σ H4 v2 v4 A4 _ fun v5 H5 A5 => ⟨j, A5.val List.mem_cons_self, q H5 (A5.sub fun t ht => List.mem_cons_of_mem _ ht)⟩⟩

/-! displays -/
theorem ea_nil : EA X F ds M [] [] M := fun ts σ H A Q k => sA_of pa_nil (k [] H rfl A)
theorem ea_cons {xs : List D} (h : EV X F ds M e d M1) (hr : EA X F ds M1 es xs M2) (hs : starEach (e :: es) X.env = (false, eval e X.env) :: starEach es X.env := by rfl) : EA X F ds M (e :: es) (d :: xs) M2 :=
  fun ts σ H A Q k => sA_of (pa_cons pe_s pa_s hs) (h ts σ H A _ fun v H1 A1 => hr _ σ H1 A1 _ fun vs H2 hl A2 => k (v :: vs) H2 (by simp [hl]) (A2.sub fun t ht => by
    simp only [List.zip_cons_cons, List.cons_append, List.mem_cons, List.mem_append] at ht ⊢
    rcases ht with h | h | h
    · exact .inr (.inl h)
    · exact .inl h
    · exact .inr (.inr h)))
theorem ev_tup {xs : List D} {x1 : Nat} (h : EA X F ds M es xs M1) (hl : xs.length ≤ 100000 := by first | decide | exact Nat.le_of_ble_eq_true rfl) : EV X F ds M (.Tuple es x1 pos) (.tup xs) M1 :=
  ev_of (pe_tup pa_s) fun ts σ H A Q k => h ts σ H A _ fun vs H1 el A1 => ⟨by rw [el]; exact Nat.le_trans hl (by decide), fun p hp => k _ _ ((A1.alloc hp fun G' r e => .tup e (RpA.of el fun t ht => r t (List.mem_append_left _ ht))).sub fun t ht => by
    rcases List.mem_cons.mp ht with h | h
    · subst h; exact List.mem_cons_self
    · exact List.mem_cons_of_mem _ (List.mem_append_right _ h))⟩
theorem ev_lst {xs : List D} (h : EA X F ds M es xs M1) (hl : xs.length ≤ 100000 := by first | decide | exact Nat.le_of_ble_eq_true rfl) : EV X F ds M (.List es pos) (.lst xs) M1 :=
  ev_of (pe_lst pa_s) fun ts σ H A Q k => h ts σ H A _ fun vs H1 el A1 => ⟨by rw [el]; exact Nat.le_trans hl (by decide), fun p hp => k _ _ ((A1.alloc hp fun G' r e => .lst e (RpA.of el fun t ht => r t (List.mem_append_left _ ht))).sub fun t ht => by
    rcases List.mem_cons.mp ht with h | h
    · subst h; exact List.mem_cons_self
    · exact List.mem_cons_of_mem _ (List.mem_append_right _ h))⟩
/-- a list that is ours to change -/
def NewL (F : Fm) (xs : List D) (M : Cells) : D → Cells → Prop := fun d M' => ∃ p, F.H p = none ∧ d = .ref p ∧ M' = (p, .lst xs) :: M
theorem ev_lstC {xs : List D} (h : EA X F ds M es xs M1) (hl : xs.length ≤ 100000 := by first | decide | exact Nat.le_of_ble_eq_true rfl) : EVK X F ds M (.List es pos) (NewL F xs M1) :=
  evk_of (pe_lst pa_s) fun ts σ H A Q k => h ts σ H A _ fun vs H1 el A1 => ⟨by rw [el]; exact Nat.le_trans hl (by decide), fun p hp => by
    obtain ⟨A2, fp⟩ := A1.allocC (d := .lst xs) (o := .lst vs) hp fun G' H' r e => ⟨vs, e, RpA.of el fun t ht => r t (List.mem_append_left _ ht)⟩
    exact k _ _ _ _ ⟨p, fp, rfl, rfl⟩ (A2.sub fun t ht => by
      rcases List.mem_cons.mp ht with h | h
      · subst h; exact List.mem_cons_self
      · exact List.mem_cons_of_mem _ (List.mem_append_right _ h))⟩
/-- a cell of ours becomes data -/
theorem ev_frz {q : Addr} {i : Nat} (h : EV X F ds M e (.ref q) M1) (hi : M1[i]? = some (q, d) := by rfl) (fq : F.H q = none := by assumption) (hd : ∀ xs x, d ≠ .nd xs x := by exact fun _ _ z => nomatch z) : EV X F ds M e d (M1.eraseIdx i) :=
  fun ts σ H A Q k => h ts σ H A _ fun v H1 A1 => by
    have e1 := A1.val List.mem_cons_self
    subst e1
    exact k _ _ ((A1.freeze hi fq hd).sub fun t ht => by
      rcases List.mem_cons.mp ht with h | h
      · subst h; exact List.mem_cons_self
      · exact List.mem_cons_of_mem _ (List.mem_cons_of_mem _ h))
end
end K23

set_option maxHeartbeats 4000000
/-! Sequences, attributes, calls. -/
namespace K23
open PySem PySem.Spec PyProof.Rows L2

theorem mem1 {α : Type} {l : List α} {t a b : α} (h : t ∈ a :: l) : t ∈ a :: b :: l := by
  rcases List.mem_cons.mp h with e | h
  · rw [e]; exact List.mem_cons_self
  · exact List.mem_cons_of_mem _ (List.mem_cons_of_mem _ h)
theorem zip_mem {α β : Type} : ∀ {vs : List α} {xs : List β} {i : Nat} {v : α} {x : β}, vs[i]? = some v → xs[i]? = some x → (v, x) ∈ vs.zip xs
  | [], _, _, _, _, h, _ => by simp at h
  | _ :: _, [], _, _, _, _, h => by simp at h
  | a :: vs, b :: xs, 0, v, x, h1, h2 => by
    have e1 : a = v := by simpa using h1
    have e2 : b = x := by simpa using h2
    rw [e1, e2]
    exact List.mem_cons_self
  | a :: vs, b :: xs, i + 1, v, x, h1, h2 => List.mem_cons_of_mem _ (zip_mem (i := i) (by simpa using h1) (by simpa using h2))
theorem at_pair {vs : List V} {xs : List D} {i : Int} {d : D} (hl : vs.length = xs.length) (h : atI xs i = some d) : ∃ v, atI vs i = some v ∧ (v, d) ∈ vs.zip xs := by
  unfold atI at h ⊢
  rw [hl]
  cases e : ixN xs.length i with
  | none => rw [e] at h; cases h
  | some j =>
    rw [e] at h
    have h' : xs[j]? = some d := h
    have hj : j < vs.length := by rw [hl]; exact (List.getElem?_eq_some_iff.mp h').1
    exact ⟨vs[j], List.getElem?_eq_getElem hj, zip_mem (List.getElem?_eq_getElem hj) h'⟩

/-! ### an instance's fields -/
def fix (f : Str) : List Str → Option Nat
  | [] => none
  | g :: r => if g = f then some 0 else (fix f r).map (· + 1)
theorem look_zip (f : Str) : ∀ {ns : List Str} {vs : List V}, ns.length = vs.length → (ns.zip vs).lookup f = (fix f ns).bind fun j => vs[j]?
  | [], _, _ => rfl
  | _ :: _, [], h => by simp at h
  | g :: ns, v :: vs, h => by
    have ih := look_zip f (ns := ns) (vs := vs) (by simpa using h)
    have e : ((g, v) :: ns.zip vs).lookup f = if g = f then some v else (ns.zip vs).lookup f := by
      rw [List.lookup_cons]
      by_cases hg : g = f
      · subst hg
        rw [if_pos rfl]
        simp
      · rw [if_neg hg]
        have : (f == g) = false := beq_eq_false_iff_ne.mpr fun z => hg z.symm
        rw [this]
    show ((g, v) :: ns.zip vs).lookup f = _
    rw [e]
    unfold fix
    by_cases hg : g = f
    · rw [if_pos hg, if_pos hg]
      rfl
    · rw [if_neg hg, if_neg hg, ih]
      cases fix f ns <;> rfl
theorem put_old {f : Str} {v : V} : ∀ {ns : List Str} {vs : List V} {j : Nat}, ns.length = vs.length → fix f ns = some j → putF f v (ns.zip vs) = ns.zip (vs.set j v)
  | [], _, _, _, h => by cases h
  | _ :: _, [], _, h, _ => by simp at h
  | g :: ns, w :: vs, j, h, e => by
    unfold fix at e
    show (if g = f then (g, v) :: ns.zip vs else (g, w) :: putF f v (ns.zip vs)) = _
    by_cases hg : g = f
    · rw [if_pos hg] at e ⊢
      cases e
      rfl
    · rw [if_neg hg] at e ⊢
      cases e2 : fix f ns with
      | none => rw [e2] at e; cases e
      | some i =>
        rw [e2] at e
        cases e
        rw [put_old (by simpa using h) e2]
        rfl
theorem put_new {f : Str} {v : V} : ∀ {ns : List Str} {vs : List V}, ns.length = vs.length → fix f ns = none → putF f v (ns.zip vs) = (ns ++ [f]).zip (vs ++ [v])
  | [], [], _, _ => rfl
  | [], _ :: _, h, _ => by simp at h
  | _ :: _, [], h, _ => by simp at h
  | g :: ns, w :: vs, h, e => by
    unfold fix at e
    show (if g = f then (g, v) :: ns.zip vs else (g, w) :: putF f v (ns.zip vs)) = _
    by_cases hg : g = f
    · rw [if_pos hg] at e
      cases e
    · rw [if_neg hg] at e ⊢
      have e2 : fix f ns = none := by
        cases e2 : fix f ns with
        | none => rfl
        | some i => rw [e2] at e; cases e
      rw [put_new (by simpa using h) e2]
      rfl

section
variable {X : Cx} {F : Fm} {ds : List (Option D)} {M M1 M2 M3 M' : Cells} {d d1 d2 d3 : D} {e a b c o : Expr} {es : List Expr} {pos apos p p2 : Pos} {x f m : Str} {K : D → Cells → Prop}
/-! ### items -/
theorem ev_ixL {xs : List D} {i : Int} (ha : EV X F ds M a (.lst xs) M1) (hb : EV X F ds M1 b (.int i) M2) (h : atI xs i = some d) (hs : PlainIx b := by exact fun _ _ => rfl) : EV X F ds M (.Subscript a b pos) d M2 :=
  ix_op ix_list (fun ts σ H v1 v2 A Q k => by
    obtain ⟨p, vs, e1, hp, hl, A2⟩ := A.openL (List.mem_cons_of_mem _ List.mem_cons_self)
    obtain ⟨v, hv, hm⟩ := at_pair hl h
    exact ⟨p, vs, i, v, e1, A.val List.mem_cons_self, SqL.of hp, hv, k v H (A2.sub fun t ht => by
      rcases List.mem_cons.mp ht with z | z
      · rw [z]; exact List.mem_append_left _ hm
      · exact List.mem_append_right _ (List.mem_cons_of_mem _ (List.mem_cons_of_mem _ z)))⟩) ha hb hs
theorem ev_ixT {xs : List D} {i : Int} (ha : EV X F ds M a (.tup xs) M1) (hb : EV X F ds M1 b (.int i) M2) (h : atI xs i = some d) (hs : PlainIx b := by exact fun _ _ => rfl) : EV X F ds M (.Subscript a b pos) d M2 :=
  ix_op ix_tup (fun ts σ H v1 v2 A Q k => by
    obtain ⟨p, vs, e1, hp, hl, A2⟩ := A.openT (List.mem_cons_of_mem _ List.mem_cons_self)
    obtain ⟨v, hv, hm⟩ := at_pair hl h
    exact ⟨p, vs, i, v, e1, A.val List.mem_cons_self, .inl (.inl hp), hv, k v H (A2.sub fun t ht => by
      rcases List.mem_cons.mp ht with z | z
      · rw [z]; exact List.mem_append_left _ hm
      · exact List.mem_append_right _ (List.mem_cons_of_mem _ (List.mem_cons_of_mem _ z)))⟩) ha hb hs
/-- an item of a list that is a cell -/
theorem ev_ixC {xs : List D} {i : Int} {q : Addr} {j : Nat} (ha : EV X F ds M a (.ref q) M1) (hb : EV X F ds M1 b (.int i) M2) (hj : M2[j]? = some (q, .lst xs)) (h : atI xs i = some d) (hs : PlainIx b := by exact fun _ _ => rfl) : EV X F ds M (.Subscript a b pos) d M2 :=
  ix_op ix_list (fun ts σ H v1 v2 A Q k => by
    obtain ⟨vs, hp, hl, A2⟩ := A.cellL hj
    obtain ⟨v, hv, hm⟩ := at_pair hl h
    exact ⟨q, vs, i, v, A.val (List.mem_cons_of_mem _ List.mem_cons_self), A.val List.mem_cons_self, SqL.of hp, hv, k v H (A2.sub fun t ht => by
      rcases List.mem_cons.mp ht with z | z
      · rw [z]; exact List.mem_append_left _ hm
      · exact List.mem_append_right _ (List.mem_cons_of_mem _ (List.mem_cons_of_mem _ z)))⟩) ha hb hs

/-! ### slices -/
def EvO (F : Fm) (ds : List (Option D)) (M : Cells) (t : TO) (oi : Option Int) (M' : Cells) : Prop :=
  ∀ (ts : List (V × D)) (σ : St) (H : Hp), At F ds M ts σ H → ∀ Q : Option Int → Hp → Prop, (∀ H', At F ds M' ts σ H' → Q oi H') → t σ H Q
theorem eo_none : EvO F ds M tNoPart none M := fun ts σ H A Q k => k H A
theorem eo_some {i : Int} (h : EV X F ds M e (.int i) M1) : EvO F ds M (tPart (sE X e)) (some i) M1 := fun ts σ H A Q k => h ts σ H A _ fun v H1 A1 => ⟨i, A1.val List.mem_cons_self, k H1 (A1.sub fun t ht => List.mem_cons_of_mem _ ht)⟩
def cutD (xs : List D) (lo hi : Option Int) : List D := (xs.drop (HT.sIx xs.length 0 lo)).take (HT.sIx xs.length xs.length hi - HT.sIx xs.length 0 lo)
theorem RpA.cut {G : Hp} {vs : List V} {xs : List D} (r : RpA G vs xs) (lo hi : Option Int) : RpA G (cutV vs lo hi) (cutD xs lo hi) := by
  unfold cutV cutD
  rw [r.len]
  exact (r.drop _).take _
theorem ev_slL {xs : List D} {lo hi : Option Expr} {tl th : TO} {l h : Option Int} (pl : PO X lo tl) (ph : PO X hi th) (he : EV X F ds M e (.lst xs) M1) (hl : EvO F ds M1 tl l M2) (hh : EvO F ds M2 th h M3) : EV X F ds M (.Subscript e (.Slice lo hi none p2) pos) (.lst (cutD xs l h)) M3 :=
  ev_of (pe_slice sl_list pe_s pl ph) fun ts σ H A Q k => he ts σ H A _ fun v H1 A1 => hl _ σ H1 A1 _ fun H2 A2 => hh _ σ H2 A2 _ fun H3 A3 => by
    obtain ⟨q, vs, e1, hp, el, A4⟩ := A3.openL List.mem_cons_self
    refine ⟨q, vs, e1, SqL.of hp, fun r hr => k _ _ ((A4.alloc (d := .lst (cutD xs l h)) hr fun G' r0 e0 => .lst e0 ((RpA.of el fun t ht => r0 t (List.mem_append_left _ ht)).cut l h)).sub fun t ht => ?_)⟩
    rcases List.mem_cons.mp ht with z | z
    · rw [z]; exact List.mem_cons_self
    · exact List.mem_cons_of_mem _ (List.mem_append_right _ (List.mem_cons_of_mem _ z))
theorem ev_slT {xs : List D} {lo hi : Option Expr} {tl th : TO} {l h : Option Int} (pl : PO X lo tl) (ph : PO X hi th) (he : EV X F ds M e (.tup xs) M1) (hl : EvO F ds M1 tl l M2) (hh : EvO F ds M2 th h M3)
    (hw : ¬ (HT.sIx xs.length 0 l = 0 ∧ HT.sIx xs.length xs.length h = xs.length)) : EV X F ds M (.Subscript e (.Slice lo hi none p2) pos) (.tup (cutD xs l h)) M3 :=
  ev_of (pe_slice sl_tup pe_s pl ph) fun ts σ H A Q k => he ts σ H A _ fun v H1 A1 => hl _ σ H1 A1 _ fun H2 A2 => hh _ σ H2 A2 _ fun H3 A3 => by
    obtain ⟨q, vs, e1, hp, el, A4⟩ := A3.openT List.mem_cons_self
    refine ⟨q, vs, e1, .inl (.inl hp), by rw [el]; exact hw, fun r hr => k _ _ ((A4.alloc (d := .tup (cutD xs l h)) hr fun G' r0 e0 => .tup e0 ((RpA.of el fun t ht => r0 t (List.mem_append_left _ ht)).cut l h)).sub fun t ht => ?_)⟩
    rcases List.mem_cons.mp ht with z | z
    · rw [z]; exact List.mem_cons_self
    · exact List.mem_cons_of_mem _ (List.mem_append_right _ (List.mem_cons_of_mem _ z))
theorem ev_slS {z : Str} {lo hi : Expr} {l h : Int} (he : EV X F ds M e (.str z) M1) (hl : EV X F ds M1 lo (.int l) M2) (hh : EV X F ds M2 hi (.int h) M3) (hz : z.length ≤ 100000) : EV X F ds M (.Subscript e (.Slice (some lo) (some hi) none p2) pos) (.str (cutS z (some l) (some h))) M3 :=
  ev_of (pe_slice sl_str pe_s (po_some pe_s) (po_some pe_s)) fun ts σ H A Q k => he ts σ H A _ fun v H1 A1 => eo_some hl _ σ H1 A1 _ fun H2 A2 => eo_some hh _ σ H2 A2 _ fun H3 A3 =>
    ⟨z, A3.val List.mem_cons_self, Nat.le_trans hz (by decide), k _ H3 ((A3.sub fun t ht => List.mem_cons_of_mem _ ht).lit _)⟩

/-! ### lists and tuples joined -/
theorem ev_catL {xs ys : List D} (ha : EV X F ds M a (.lst xs) M1) (hb : EV X F ds M1 b (.lst ys) M2) (h : xs.length + ys.length ≤ 100000) : EV X F ds M (.BinOp a .Add b pos) (.lst (xs ++ ys)) M2 :=
  ev_bin op_cat (fun ts σ H v1 v2 A Q k => by
    obtain ⟨q1, vs, e1, h1, l1, A1⟩ := A.openL (List.mem_cons_of_mem _ List.mem_cons_self)
    obtain ⟨q2, ws, e2, h2, l2, A2⟩ := A1.openL (List.mem_append_right _ List.mem_cons_self)
    refine ⟨q1, q2, vs, ws, e1, e2, h1, h2, by rw [l1, l2]; exact Nat.le_trans h (by decide), fun r hr => k _ _ ((A2.alloc (d := .lst (xs ++ ys)) hr fun G' r0 e0 => .lst e0 (RpA.app (RpA.of l1 fun t ht => r0 t (List.mem_append_right _ (List.mem_append_left _ ht))) (RpA.of l2 fun t ht => r0 t (List.mem_append_left _ ht)))).sub fun t ht => ?_)⟩
    rcases List.mem_cons.mp ht with z | z
    · rw [z]; exact List.mem_cons_self
    · exact List.mem_cons_of_mem _ (List.mem_append_right _ (List.mem_append_right _ (List.mem_cons_of_mem _ (List.mem_cons_of_mem _ z))))) ha hb
theorem ev_catT {xs ys : List D} (ha : EV X F ds M a (.tup xs) M1) (hb : EV X F ds M1 b (.tup ys) M2) (h : xs.length + ys.length ≤ 100000) : EV X F ds M (.BinOp a .Add b pos) (.tup (xs ++ ys)) M2 :=
  ev_bin op_catA (fun ts σ H v1 v2 A Q k => by
    obtain ⟨q1, vs, e1, h1, l1, A1⟩ := A.openT (List.mem_cons_of_mem _ List.mem_cons_self)
    obtain ⟨q2, ws, e2, h2, l2, A2⟩ := A1.openT (List.mem_append_right _ List.mem_cons_self)
    refine ⟨q1, q2, vs, ws, e1, e2, .inl (.inl h1), .inl (.inl h2), by rw [l1, l2]; exact Nat.le_trans h (by decide), fun hv => ?_, fun _ hw => ?_, fun _ _ r hr => k _ _ ((A2.alloc (d := .tup (xs ++ ys)) hr fun G' r0 e0 => .tup e0 (RpA.app (RpA.of l1 fun t ht => r0 t (List.mem_append_right _ (List.mem_append_left _ ht))) (RpA.of l2 fun t ht => r0 t (List.mem_append_left _ ht)))).sub fun t ht => ?_)⟩
    · have hx : xs = [] := List.length_eq_zero_iff.mp (by rw [← l1, hv]; rfl)
      subst hx e2
      exact k _ _ (A.sub fun t ht => mem1 ht)
    · have hy : ys = [] := List.length_eq_zero_iff.mp (by rw [← l2, hw]; rfl)
      subst hy e1
      rw [List.append_nil] at k
      exact k _ _ (A.sub fun t ht => List.mem_cons_of_mem _ ht)
    · rcases List.mem_cons.mp ht with z | z
      · rw [z]; exact List.mem_cons_self
      · exact List.mem_cons_of_mem _ (List.mem_append_right _ (List.mem_append_right _ (List.mem_cons_of_mem _ (List.mem_cons_of_mem _ z))))) ha hb

/-! ### attributes -/
/-- an object's fields, where it stands: data or a cell -/
def InsAt (M : Cells) (d : D) (C : Addr) (ns : List Str) (xs : List D) : Prop := d = .ins C ns xs ∨ ∃ (q : Addr) (j : Nat), d = .ref q ∧ M[j]? = some (q, .ins C ns xs)
theorem At.insAt {F : Fm} {ds : List (Option D)} {M : Cells} {ts : List (V × D)} {σ : St} {H : Hp} {v : V} {d : D} {C : Addr} {ns : List Str} {xs : List D} (A : At F ds M ts σ H) (hm : (v, d) ∈ ts) (h : InsAt M d C ns xs) :
    ∃ a dx vs, v = .ref a ∧ H a = some (.ins C dx (ns.zip vs)) ∧ ns.length = vs.length ∧ vs.length = xs.length ∧ At F ds M (vs.zip xs ++ ts) σ H := by
  rcases h with e | ⟨q, j, e, hj⟩
  · subst e
    obtain ⟨a, dx, vs, h1, h2, h3, h4, h5⟩ := A.openI hm
    exact ⟨a, dx, vs, h1, h2, h3.trans h4.symm, h4, h5⟩
  · subst e
    obtain ⟨dx, vs, h2, h3, h4, h5⟩ := A.cellI hj
    exact ⟨q, dx, vs, A.val hm, h2, h3.trans h4.symm, h4, h5⟩
theorem InsAt.data {C : Addr} {ns : List Str} {xs : List D} : InsAt M (.ins C ns xs) C ns xs := .inl rfl
theorem InsAt.cell {q C : Addr} {ns : List Str} {xs : List D} (j : Nat) (h : M[j]? = some (q, .ins C ns xs) := by rfl) : InsAt M (.ref q) C ns xs := .inr ⟨q, j, rfl, h⟩
theorem ev_fld {C : Addr} {ns : List Str} {xs : List D} {j : Nat} (c : Cls X.K C) (n : NoAttr X.K C f) (he : EV X F ds M e d1 M1) (hi : InsAt M1 d1 C ns xs) (hj : fix f ns = some j := by decide +kernel) (hx : xs[j]? = some d := by rfl)
    (hb : attributeBase e f X.env (eval e X.env) = eval e X.env := by rfl) : EV X F ds M (.Attribute e f pos) d M1 :=
  ev_of (pe_fld pe_s hb) fun ts σ H A Q k => he ts σ H A _ fun v H1 A1 => by
    obtain ⟨q, dx, vs, e1, hq, hl, hl2, A2⟩ := A1.insAt List.mem_cons_self hi
    have hj2 : j < vs.length := by rw [hl2]; exact (List.getElem?_eq_some_iff.mp hx).1
    refine ⟨q, C, dx, _, vs[j], e1, hq, c, n, ?_, k _ H1 (A2.sub fun t ht => ?_)⟩
    · rw [look_zip f hl, hj]
      exact List.getElem?_eq_getElem hj2
    · rcases List.mem_cons.mp ht with z | z
      · rw [z]; exact List.mem_append_left _ (zip_mem (List.getElem?_eq_getElem hj2) hx)
      · exact List.mem_append_right _ (List.mem_cons_of_mem _ z)

/-! ### contracts -/
abbrev Ctr := List D → Cells → (D → Cells → Prop) → Prop
structure RetP (F : Fm) (K : D → Cells → Prop) (v : V) (H' : Hp) : Prop where
  ex : ∃ d M G, K d M ∧ Wd F G H' ∧ Rp G v d ∧ CellsOk F G H' M
abbrev fmOf (w : World) (G H : Hp) (M : Cells) : Fm := ⟨w, G, H, M.map (·.1)⟩
def toSp (w : World) (C : Ctr) : Sp := fun vs H Q _ => ∃ (G : Hp) (args : List D) (M : Cells) (K : D → Cells → Prop), Same G H ∧ RpA G vs args ∧ CellsOk (fmOf w G H M) G H M ∧ C args M K ∧ ∀ v H', RetP (fmOf w G H M) K v H' → Q v H'
/-- a def of the module's, by what it promises -/
structure GF (P : Program) (w : World) (K : PySem.W.Frag) (mg : Str → Option Value) (base : Heap) (x : Str) (k : Nat) (C : Ctr) : Prop where
  ex : ∃ f fd ps, mg x = some (.ref f) ∧ FnOk P w K mg base CX0 k f fd ps (toSp w C) ∧ PySem.W.keepIn K (.ref f) = true ∧ Binds K fd ps []
structure MF (P : Program) (w : World) (K : PySem.W.Frag) (mg : Str → Option Value) (base : Heap) (A : Addr) (x : Str) (k : Nat) (C : Ctr) : Prop where
  ex : ∃ f fd ps, Meth K A x f ∧ FnOk P w K mg base CX0 k f fd ps (toSp w C) ∧ Binds K fd ps []
structure KF (P : Program) (w : World) (K : PySem.W.Frag) (mg : Str → Option Value) (base : Heap) (x : Str) (A : Addr) (k : Nat) (C : Ctr) : Prop where
  ex : ∃ f fd ps, mg x = some (.ref A) ∧ Mk K A f ∧ FnOk P w K mg base CX0 k f fd ps (toSp w C) ∧ Binds K fd ps []
/-- what a call gives: the cells handed in are exchanged -/
def CallK (K : D → Cells → Prop) (Mr : Cells) : D → Cells → Prop := fun d M' => ∃ Mo, K d Mo ∧ M' = Mo ++ Mr
theorem At.back {F : Fm} {ds : List (Option D)} {M Min Mr Mo : Cells} {ts : List (V × D)} {σ : St} {H H' : Hp} {G G' : Hp} {v : V} {d : D} (W : Wd F G H) (S : Sd G σ ds) (T : ∀ t ∈ ts, Rp G t.1 t.2) (Cc : CellsOk F G H M) (hp : M.Perm (Min ++ Mr))
    (W' : Wd (fmOf F.w G H Min) G' H') (r : Rp G' v d) (c' : CellsOk (fmOf F.w G H Min) G' H' Mo) : At F ds (Mo ++ Mr) ((v, d) :: ts) σ H' := by
  have Ci : ∀ q ∈ Min, q ∈ M := fun q hq => hp.mem_iff.mpr (List.mem_append_left _ hq)
  have Cr : ∀ q ∈ Mr, q ∈ M := fun q hq => hp.mem_iff.mpr (List.mem_append_right _ hq)
  have nd0 : ((Min ++ Mr).map (·.1)).Nodup := (hp.map (·.1)).nodup_iff.mp Cc.nd
  rw [List.map_append, List.nodup_append] at nd0
  obtain ⟨ndi, ndr, dis⟩ := nd0
  have sg : Same G G' := W'.base
  refine ⟨G', ⟨W.base.trans sg, W'.le, fun b h1 h0 h2 => ?_, fun b u e nb => ?_, fun b h1 => W'.live b (W.live b h1)⟩, S.up sg, fun t ht => ?_, ?_, fun q hq => ?_⟩
  · refine W'.hid b (W.live b h1) (fun hm => ?_) (W.hid b h1 h0 h2)
    obtain ⟨q, hq, e2⟩ := List.mem_map.mp hm
    rcases (Cc.ok q (Ci q hq)).2.2 with z | z
    · exact h0 (by rw [← e2]; exact z)
    · rw [e2] at z
      exact h1 z
  · refine W'.keep b u (W.keep b u e nb) fun hm => ?_
    obtain ⟨q, hq, e2⟩ := List.mem_map.mp hm
    rcases (Cc.ok q (Ci q hq)).2.2 with z | z
    · exact nb (by rw [← e2]; exact z)
    · rw [e2] at z
      rw [z] at e
      cases e
  · rcases List.mem_cons.mp ht with z | z
    · rw [z]; exact r
    · exact (T t z).up sg
  · rw [List.map_append, List.nodup_append]
    refine ⟨c'.nd, ndr, fun x hx y hy e => ?_⟩
    subst e
    obtain ⟨q, hq, e2⟩ := List.mem_map.mp hx
    obtain ⟨q2, hq2, e3⟩ := List.mem_map.mp hy
    rcases (c'.ok q hq).2.2 with z | z
    · exact dis _ z _ (by rw [e2]; exact hy) rfl
    · obtain ⟨u, hu⟩ := (Cc.ok q2 (Cr q2 hq2)).2.1.some
      have z' : H q.1 = none := z
      rw [e2, ← e3, hu] at z'
      cases z'
  · rcases List.mem_append.mp hq with hq | hq
    · obtain ⟨h1, h2, h3⟩ := c'.ok q hq
      refine ⟨h1, h2, ?_⟩
      rcases h3 with z | z
      · obtain ⟨q2, hq2, e2⟩ := List.mem_map.mp z
        have := (Cc.ok q2 (Ci q2 hq2)).2.2
        rw [e2] at this
        exact this
      · refine .inr ?_
        cases e : F.H q.1 with
        | none => rfl
        | some u => exact absurd z (W.live _ (by rw [e]; exact fun z => nomatch z))
    · obtain ⟨h1, h2, h3⟩ := Cc.ok q (Cr q hq)
      obtain ⟨u, hu⟩ := h2.some
      have nq : q.1 ∉ Min.map (·.1) := fun hm => dis _ hm _ (List.mem_map.mpr ⟨q, hq, rfl⟩) rfl
      exact ⟨W'.hid _ (by show H q.1 ≠ none; rw [hu]; exact fun z => nomatch z) nq h1, h2.up sg fun o' e => W'.keep _ _ e nq, h3⟩
theorem CellsOk.part {F : Fm} {G H : Hp} {M Min Mr : Cells} (c : CellsOk F G H M) (hp : M.Perm (Min ++ Mr)) : CellsOk (fmOf F.w G H Min) G H Min := by
  have nd0 : ((Min ++ Mr).map (·.1)).Nodup := (hp.map (·.1)).nodup_iff.mp c.nd
  rw [List.map_append, List.nodup_append] at nd0
  refine ⟨nd0.1, fun q hq => ?_⟩
  obtain ⟨h1, h2, h3⟩ := c.ok q (hp.mem_iff.mpr (List.mem_append_left _ hq))
  exact ⟨h1, h2, .inl (List.mem_map.mpr ⟨q, hq, rfl⟩)⟩
variable {k j : Nat} {C : Ctr} {xs : List D} {Min Mr Mo : Cells}
theorem evk_call (Fn : GF X.prog X.w X.K X.mg X.base x j C) (hr : Room j X.A) (hw : F.w = X.w) (ha : EA X F ds M (e :: es) xs M1) (hC : C xs Min K) (hp : M1.Perm (Min ++ Mr)) (hg : Gl X x := by rfl) (hdb : (x == ("__debug__" : Str)) = false := by decide)
    (he : starEach (e :: es) X.env = (false, eval e X.env) :: starEach es X.env := by rfl) (hpl : (backTo pos (starEach es X.env)).any (·.1) = false := by rfl) : EVK X F ds M (.Call (.Name x p) (e :: es) [] pos) (CallK K Mr) := by
  obtain ⟨f, fd, ps, hm, fo, hk, hb⟩ := Fn.ex
  refine evk_of (pe_call fo hr hg hm hk hb .nil pass0 pa_s hdb he hpl) fun ts σ H A Q q => ha ts σ H A _ fun vs H1 hl A1 => ?_
  obtain ⟨G, W, S, T, Cc⟩ := A1.ex
  refine ⟨G, xs, Min, K, W.le, by rw [List.append_nil]; exact RpA.of hl fun t ht => T t (List.mem_append_left _ ht), by rw [← hw]; exact Cc.part hp, hC, fun v H' ⟨d, Mo, G', hK, W', r, c'⟩ => ?_⟩
  rw [← hw] at W' c'
  exact q d (Mo ++ Mr) v H' ⟨Mo, hK, rfl⟩ (At.back W S (fun t ht => T t (List.mem_append_right _ ht)) Cc hp W' r c')
theorem evk_call0 (Fn : GF X.prog X.w X.K X.mg X.base x j C) (hr : Room j X.A) (hw : F.w = X.w) (hC : C [] Min K) (hp : M.Perm (Min ++ Mr)) (hg : Gl X x := by rfl) (hdb : (x == ("__debug__" : Str)) = false := by decide) : EVK X F ds M (.Call (.Name x p) [] [] pos) (CallK K Mr) := by
  obtain ⟨f, fd, ps, hm, fo, hk, hb⟩ := Fn.ex
  refine evk_of (pe_call0 fo hr hg hm hk hb .nil pass0 hdb) fun ts σ H A Q q => ?_
  obtain ⟨G, W, S, T, Cc⟩ := A.ex
  refine ⟨G, [], Min, K, W.le, .nil, by rw [← hw]; exact Cc.part hp, hC, fun v H' ⟨d, Mo, G', hK, W', r, c'⟩ => ?_⟩
  rw [← hw] at W' c'
  exact q d (Mo ++ Mr) v H' ⟨Mo, hK, rfl⟩ (At.back W S T Cc hp W' r c')
theorem evk_meth {A0 : Addr} {ns : List Str} {ys : List D} {pl : Sem Bool} (c : Cls X.K A0) (Fn : MF X.prog X.w X.K X.mg X.base A0 m j C) (hr : Room j X.A) (hw : F.w = X.w) (ho : EV X F ds M o d1 M1) (hi : InsAt M1 d1 A0 ns ys) (ha : EA X F ds M1 (e :: es) xs M2)
    (hC : C (d1 :: xs) Min K) (hp : M2.Perm (Min ++ Mr)) (hn : fix m ns = none := by decide +kernel)
    (hst : starEach (e :: es) X.env = (false, eval e X.env) :: starEach es X.env := by rfl) (hpl : (backTo pos (starEach es X.env)).any (·.1) = false := by rfl)
    (ht : eval (.Call (.Attribute o m apos) (e :: es) [] pos) X.env = (do
      let ov ← eval o X.env
      standAt apos.atName
      let (f, first) ← holding [ov] (getMethod ov m pl)
      callWith pos f first (backTo pos (starEach (e :: es) X.env)) (backToKw pos (keywordEach [] X.env))) := by rfl) : EVK X F ds M (.Call (.Attribute o m apos) (e :: es) [] pos) (CallK K Mr) := by
  obtain ⟨f, fd, ps, hm, fo, hb⟩ := Fn.ex
  refine evk_of (pe_meth pe_s c hm fo hr hb .nil pass0 pa_s hst hpl ht) fun ts σ H A Q q => ho ts σ H A _ fun v H1 A1 => ?_
  obtain ⟨a, dx, vs, e1, h2, h3, h4, h5⟩ := A1.insAt List.mem_cons_self hi
  refine ⟨a, dx, _, e1, h2, by rw [look_zip m h3, hn]; rfl, ha _ σ H1 A1 _ fun ws H2 hl A2 => ?_⟩
  obtain ⟨G, W, S, T, Cc⟩ := A2.ex
  refine ⟨G, d1 :: xs, Min, K, W.le, by rw [List.append_nil]; exact .cons (T _ (List.mem_append_right _ List.mem_cons_self)) (RpA.of hl fun t ht => T t (List.mem_append_left _ ht)), by rw [← hw]; exact Cc.part hp, hC, fun v H' ⟨d, Mo, G', hK, W', r, c'⟩ => ?_⟩
  rw [← hw] at W' c'
  exact q d (Mo ++ Mr) v H' ⟨Mo, hK, rfl⟩ (At.back W S (fun t ht => T t (List.mem_append_right _ (List.mem_cons_of_mem _ ht))) Cc hp W' r c')
theorem evk_meth0 {A0 : Addr} {ns : List Str} {ys : List D} {pl : Sem Bool} (c : Cls X.K A0) (Fn : MF X.prog X.w X.K X.mg X.base A0 m j C) (hr : Room j X.A) (hw : F.w = X.w) (ho : EV X F ds M o d1 M1) (hi : InsAt M1 d1 A0 ns ys)
    (hC : C [d1] Min K) (hp : M1.Perm (Min ++ Mr)) (hn : fix m ns = none := by decide +kernel)
    (ht : eval (.Call (.Attribute o m apos) [] [] pos) X.env = (do
      let ov ← eval o X.env
      standAt apos.atName
      let (f, first) ← holding [ov] (getMethod ov m pl)
      callWith pos f first (backTo pos (starEach [] X.env)) (backToKw pos (keywordEach [] X.env))) := by rfl) : EVK X F ds M (.Call (.Attribute o m apos) [] [] pos) (CallK K Mr) := by
  obtain ⟨f, fd, ps, hm, fo, hb⟩ := Fn.ex
  refine evk_of (pe_meth0 pe_s c hm fo hr hb .nil pass0 ht) fun ts σ H A Q q => ho ts σ H A _ fun v H1 A1 => ?_
  obtain ⟨a, dx, vs, e1, h2, h3, h4, h5⟩ := A1.insAt List.mem_cons_self hi
  refine ⟨a, dx, _, e1, h2, by rw [look_zip m h3, hn]; rfl, ?_⟩
  obtain ⟨G, W, S, T, Cc⟩ := A1.ex
  refine ⟨G, [d1], Min, K, W.le, .cons (T _ List.mem_cons_self) .nil, by rw [← hw]; exact Cc.part hp, hC, fun v H' ⟨d, Mo, G', hK, W', r, c'⟩ => ?_⟩
  rw [← hw] at W' c'
  exact q d (Mo ++ Mr) v H' ⟨Mo, hK, rfl⟩ (At.back W S (fun t ht => T t (List.mem_cons_of_mem _ ht)) Cc hp W' r c')
/-- what making an instance gives -/
def MakeK (F : Fm) (K : Addr → D → Cells → Prop) (Mr : Cells) : D → Cells → Prop := fun d M' => ∃ q Mo, F.H q = none ∧ d = .ref q ∧ K q .non Mo ∧ M' = Mo ++ Mr
theorem At.dx {F : Fm} {ds : List (Option D)} {M : Cells} {ts : List (V × D)} {σ : St} {H : Hp} {y : Addr} {u : HO} (A : At F ds M ts σ H) (hy : H y = none) : At F ds M ts σ (upd H y u) := by
  obtain ⟨G, W, S, T, Cc⟩ := A.ex
  have st : ∀ b o, H b = some o → upd H y u b = some o := fun b o e => by
    rw [upd_ne (ne_of_none e hy)]
    exact e
  refine ⟨G, ⟨W.base, fun b o e => st b o (W.le b o e), W.hid, fun b o e nb => st b o (W.keep b o e nb), fun b h1 => ?_⟩, S, T, Cc.nd, fun q hq => ?_⟩
  · obtain ⟨o, ho⟩ := Option.ne_none_iff_exists'.mp (W.live b h1)
    rw [st b o ho]
    exact fun z => nomatch z
  · obtain ⟨h1, h2, h3⟩ := Cc.ok q hq
    exact ⟨h1, h2.up (Same.refl _) fun o e => st _ o e, h3⟩
theorem evk_make {A0 : Addr} {K : Addr → D → Cells → Prop} (Fn : KF X.prog X.w X.K X.mg X.base x A0 j C) (hr : Room (j + 1) X.A) (hw : F.w = X.w) (ha : EA X F ds M (e :: es) xs M1) (hp : M1.Perm (Min ++ Mr)) (hC : ∀ q, C (.ref q :: xs) ((q, .ins A0 [] []) :: Min) (K q)) (hK : ∀ q d Mo, K q d Mo → d = .non) (hg : Gl X x := by rfl)
    (hdb : (x == ("__debug__" : Str)) = false := by decide) (he : starEach (e :: es) X.env = (false, eval e X.env) :: starEach es X.env := by rfl) (hpl : (backTo pos (starEach es X.env)).any (·.1) = false := by rfl) : EVK X F ds M (.Call (.Name x p) (e :: es) [] pos) (MakeK F K Mr) := by
  obtain ⟨f, fd, ps, hm, mk, fo, hb⟩ := Fn.ex
  refine evk_of (pe_make mk fo hr hg hm hb .nil pass0 pa_s hdb he hpl) fun ts σ H A Q q => ha ts σ H A _ fun vs H1 hl A1 => ?_
  intro y dy ny ndy ney
  have A2 := A1.dx (u := .own y) ndy
  have ny2 : upd H1 dy (.own y) y = none := by rw [upd_ne (Ne.symm ney)]; exact ny
  obtain ⟨A3, fy⟩ := A2.allocC (d := .ins A0 [] []) (o := .ins A0 dy []) ny2 fun G' H' r e => ⟨dy, [], e, rfl, .nil⟩
  obtain ⟨G, W, S, T, Cc⟩ := A3.ex
  have hp2 : ((y, D.ins A0 [] []) :: M1).Perm (((y, D.ins A0 [] []) :: Min) ++ Mr) := List.Perm.cons _ hp
  refine ⟨G, .ref y :: xs, (y, .ins A0 [] []) :: Min, K y, W.le, by rw [List.append_nil]; exact .cons (.v _) (RpA.of hl fun t ht => T t (List.mem_cons_of_mem _ (List.mem_append_left _ ht))), by rw [← hw]; exact Cc.part hp2, hC y, fun v H' ⟨d, Mo, G', hk, W', r, c'⟩ => ?_⟩
  have ed := hK _ _ _ hk
  subst ed
  refine ⟨r.val, ?_⟩
  rw [← hw] at W' c'
  have B := At.back W S T Cc hp2 W' r c'
  exact q (.ref y) (Mo ++ Mr) _ H' ⟨y, Mo, fy, rfl, hk, rfl⟩ (B.sub fun t ht => by
    rcases List.mem_cons.mp ht with z | z
    · rw [z]; exact List.mem_cons_of_mem _ List.mem_cons_self
    · exact List.mem_cons_of_mem _ (List.mem_cons_of_mem _ (List.mem_append_right _ z)))
/-- one answer -/
abbrev KD (d : D) (M : Cells) : D → Cells → Prop := fun d' M' => d' = d ∧ M' = M
theorem EvK.one {te : TE} (h : EvK F ds M te (CallK (KD d Mo) Mr)) : Ev F ds M te d (Mo ++ Mr) := fun ts σ H A Q k => h ts σ H A Q fun d' M' v H' ⟨Mo', ⟨e1, e2⟩, e3⟩ A' => by
  subst e1 e2 e3
  exact k v H' A'
theorem ev_call (Fn : GF X.prog X.w X.K X.mg X.base x j C) (hr : Room j X.A) (hw : F.w = X.w) (ha : EA X F ds M (e :: es) xs M1) (hC : C xs Min (KD d Mo)) (hp : M1.Perm (Min ++ Mr)) (hg : Gl X x := by rfl) (hdb : (x == ("__debug__" : Str)) = false := by decide)
    (he : starEach (e :: es) X.env = (false, eval e X.env) :: starEach es X.env := by rfl) (hpl : (backTo pos (starEach es X.env)).any (·.1) = false := by rfl) : EV X F ds M (.Call (.Name x p) (e :: es) [] pos) d (Mo ++ Mr) := (evk_call Fn hr hw ha hC hp hg hdb he hpl).one
/-- a pure def: no cells -/
theorem ev_callP (Fn : GF X.prog X.w X.K X.mg X.base x j C) (hr : Room j X.A) (hw : F.w = X.w) (ha : EA X F ds M (e :: es) xs M1) (hC : C xs [] (KD d [])) (hg : Gl X x := by rfl) (hdb : (x == ("__debug__" : Str)) = false := by decide)
    (he : starEach (e :: es) X.env = (false, eval e X.env) :: starEach es X.env := by rfl) (hpl : (backTo pos (starEach es X.env)).any (·.1) = false := by rfl) : EV X F ds M (.Call (.Name x p) (e :: es) [] pos) d M1 := (evk_call (Min := []) (Mr := M1) Fn hr hw ha hC (List.Perm.refl _) hg hdb he hpl).one
theorem ev_methP {A0 : Addr} {ns : List Str} {ys : List D} {pl : Sem Bool} (c : Cls X.K A0) (Fn : MF X.prog X.w X.K X.mg X.base A0 m j C) (hr : Room j X.A) (hw : F.w = X.w) (ho : EV X F ds M o d1 M1) (hi : InsAt M1 d1 A0 ns ys) (ha : EA X F ds M1 (e :: es) xs M2)
    (hC : C (d1 :: xs) [] (KD d [])) (hn : fix m ns = none := by decide +kernel)
    (hst : starEach (e :: es) X.env = (false, eval e X.env) :: starEach es X.env := by rfl) (hpl : (backTo pos (starEach es X.env)).any (·.1) = false := by rfl)
    (ht : eval (.Call (.Attribute o m apos) (e :: es) [] pos) X.env = (do
      let ov ← eval o X.env
      standAt apos.atName
      let (f, first) ← holding [ov] (getMethod ov m pl)
      callWith pos f first (backTo pos (starEach (e :: es) X.env)) (backToKw pos (keywordEach [] X.env))) := by rfl) : EV X F ds M (.Call (.Attribute o m apos) (e :: es) [] pos) d M2 :=
  (evk_meth (Min := []) (Mr := M2) c Fn hr hw ho hi ha hC (List.Perm.refl _) hn hst hpl ht).one
end
end K23

set_option maxHeartbeats 4000000
/-! Built-ins: data compared, sorted, keys of dicts. -/
namespace K23
open PySem PySem.Spec PyProof.Rows L2

/-! ### data as the library's own data -/
mutual
def toP : D → PyData
  | .v .non => .none
  | .v (.bl b) => .bool b
  | .v (.int i) => .int i
  | .v (.str z) => .str z
  | .tup xs => .tuple (toPs xs)
  | .lst xs => .list (toPs xs)
  | _ => .none
def toPs : List D → List PyData
  | [] => []
  | x :: xs => toP x :: toPs xs
end
mutual
def okD : D → Bool
  | .v .non => true
  | .v (.bl _) => true
  | .v (.int _) => true
  | .v (.str _) => true
  | .tup xs => okDs xs
  | .lst xs => okDs xs
  | _ => false
def okDs : List D → Bool
  | [] => true
  | x :: xs => okD x && okDs xs
end
theorem toPs_map : ∀ xs : List D, toPs xs = xs.map toP
  | [] => rfl
  | x :: xs => by rw [toPs, toPs_map xs]; rfl
theorem okDs_all : ∀ xs : List D, okDs xs = xs.all okD
  | [] => rfl
  | x :: xs => by rw [okDs, okDs_all xs]; rfl
mutual
theorem Rp.dp {K : PySem.W.Frag} {G H : Hp} (s : Same G H) : ∀ {v : V} {d : D}, Rp G v d → okD d = true → Dp K H v (toP d)
  | u, .v x, h, o => by
    have e : u = x := h.val
    subst e
    cases u with
    | non => exact .non
    | bl b => exact .bl b
    | int i => exact .int i
    | str z => exact .str z
    | _ => cases o
  | _, .tup xs, h, o => by
    cases h with
    | tup e r => exact .tup (.inl (.inl (s _ _ e))) (RpA.dp s r o)
  | _, .lst xs, h, o => by
    cases h with
    | lst e r => exact .lst (.inl (.inl (s _ _ e))) (RpA.dp s r o)
  | _, .dic _ _, _, o => by cases o
  | _, .ins _ _ _, _, o => by cases o
  | _, .nd _ _, _, o => by cases o
  | _, .scr _ _, _, o => by cases o
theorem RpA.dp {K : PySem.W.Frag} {G H : Hp} (s : Same G H) : ∀ {vs : List V} {ds : List D}, RpA G vs ds → okDs ds = true → DpAll K H vs (toPs ds)
  | _, [], h, _ => by
    cases h
    exact .nil
  | _, d :: ds, h, o => by
    cases h with
    | cons h r =>
      rw [okDs, Bool.and_eq_true] at o
      exact .cons (Rp.dp s h o.1) (RpA.dp s r o.2)
end
theorem At.dp {K : PySem.W.Frag} {F : Fm} {ds : List (Option D)} {M : Cells} {ts : List (V × D)} {σ : St} {H : Hp} {v : V} {d : D} (A : At F ds M ts σ H) (h : (v, d) ∈ ts) (o : okD d = true) : Dp K H v (toP d) := by
  obtain ⟨G, w, s, t, c⟩ := A.ex
  exact (t _ h).dp w.le o
def good (d : D) : Prop := okD d = true ∧ SeqAt.shaped (toP d) = true
theorem rb_eqD {X : Cx} {F : Fm} {ds : List (Option D)} {M : Cells} {d1 d2 : D} (g1 : good d1) (g2 : good d2) : RB F ds M (rEqD X.K) d1 d2 (.bl (PyData.eqv (toP d1) (toP d2))) M := fun ts σ H v1 v2 A Q k =>
  ⟨toP d1, toP d2, A.dp (List.mem_cons_of_mem _ List.mem_cons_self) g1.1, A.dp List.mem_cons_self g2.1, g1.2, g2.2, k _ H ((A.sub fun t ht => List.mem_cons_of_mem _ (List.mem_cons_of_mem _ ht)).lit _)⟩
theorem rb_neD {X : Cx} {F : Fm} {ds : List (Option D)} {M : Cells} {d1 d2 : D} (g1 : good d1) (g2 : good d2) : RB F ds M (rNeD X.K) d1 d2 (.bl (!PyData.eqv (toP d1) (toP d2))) M := fun ts σ H v1 v2 A Q k =>
  ⟨toP d1, toP d2, A.dp (List.mem_cons_of_mem _ List.mem_cons_self) g1.1, A.dp List.mem_cons_self g2.1, g1.2, g2.2, k _ H ((A.sub fun t ht => List.mem_cons_of_mem _ (List.mem_cons_of_mem _ ht)).lit _)⟩
theorem rb_ninD {X : Cx} {F : Fm} {ds : List (Option D)} {M : Cells} {d1 : D} {xs : List D} (g1 : good d1) (g2 : good (.lst xs)) : RB F ds M (rNotInD X.K) d1 (.lst xs) (.bl (!(toPs xs).any fun z => PyData.eqv z (toP d1))) M := fun ts σ H v1 v2 A Q k =>
  ⟨toP d1, toPs xs, A.dp (List.mem_cons_of_mem _ List.mem_cons_self) g1.1, A.dp List.mem_cons_self g2.1, g1.2, g2.2, k _ H ((A.sub fun t ht => List.mem_cons_of_mem _ (List.mem_cons_of_mem _ ht)).lit _)⟩

/-! ### sorted -/
def srt {α : Type} (enc : α → D) (xs : List α) : List α := xs.mergeSort (PySem.W.dataLe false fun a => toP (enc a))
theorem srt_perm {α : Type} (enc : α → D) (xs : List α) : (srt enc xs).Perm xs := List.mergeSort_perm _ _
def rSrt (K : PySem.W.Frag) : List V → Hp → VK → Prop := fun vs H Q => ∃ (a : Addr) (bs : List (V × D)), vs = [V.ref a] ∧ SqL K H a (bs.map (·.1)) ∧ (∀ b ∈ bs, Dp K H b.1 (toP b.2)) ∧ PySem.W.AllAlike (bs.map fun b => toP b.2) ∧ PySem.W.Sortable (bs.map fun b => toP b.2) ∧
  (∀ b ∈ bs, (toP b.2).depth ≤ 32) ∧ ∀ p, H p = none → Q (.ref p) (upd H p (.lst ((srt (fun b : V × D => b.2) bs).map (·.1))))
theorem each_vals {X : Cx} {pins : List (Addr × Obj)} {σ : St} {H : Hp} {s : Shared} (I : Inv X pins σ H s) : ∀ {bs : List (V × D)} {us : List Value}, Vals (bs.map (·.1)) us → (∀ b ∈ bs, Dp X.K H b.1 (toP b.2)) →
    PySem.W.EachIs (fun u (b : V × D) => RelV b.1 u) us bs ∧ PySem.W.EachIs (fun u (b : V × D) => ∃ as, Reads s.heap u (toP b.2) as) us bs
  | [], _, r, _ => by
    cases r
    exact ⟨.nil, .nil⟩
  | b :: bs, _, r, h => by
    cases r with
    | cons r1 r2 =>
      obtain ⟨e1, e2⟩ := each_vals I r2 fun c hc => h c (List.mem_cons_of_mem _ hc)
      exact ⟨.cons r1 e1, .cons (Dp.reads I _ _ _ (h b List.mem_cons_self) r1) e2⟩
theorem vals_each : ∀ {bs : List (V × D)} {us : List Value}, PySem.W.EachIs (fun u (b : V × D) => RelV b.1 u) us bs → Vals (bs.map (·.1)) us
  | _, _, .nil => .nil
  | _, _, .cons r t => .cons r (vals_each t)
theorem cr_srt {X : Cx} (hu : X.A.units + 64 < cLine) : CallR X (.builtin "sorted") (rSrt X.K) := by
  intro pins s σ H vs us Q I r h
  obtain ⟨a, bs, rfl, hs, hd, hal, hsr, hdp, q⟩ := h
  obtain ⟨its, rv, hl, hz⟩ := I.list hs
  obtain ⟨u, rfl, ru⟩ := vals1 r
  obtain rfl : u = Value.ref a := ru
  obtain ⟨e1, e2⟩ := each_vals I rv hd
  have hb : bs.length ≤ sizeLine := by simpa using hz
  refine PySem.W.sorted_data (R := fun u (b : V × D) => RelV b.1 u) (enc := fun b => toP b.2) hl.isList e1 e2 hal hsr hb (fun b hbm => by have := hdp b hbm; omega) fun out ho he => ?_
  obtain ⟨c, hc⟩ := sortedAll_at s.heap its (List.toArray out)
  have hfr : H (s.heap.objs.size + 1) = none := I.hok.fresh (Nat.le_succ _)
  refine ⟨.ref (s.heap.objs.size + 1), upd H (s.heap.objs.size + 1) (.lst ((srt (fun b : V × D => b.2) bs).map (·.1))), I.laid (t' := s.toks) (fun b o e => sortedAll_old e) (Nat.le_succ _) ⟨?_, out, c, vals_each he, hc⟩, rfl, q _ hfr⟩
  rw [List.length_map]
  exact Nat.le_trans (Nat.le_of_eq (srt_perm _ _).length_eq) hb

theorem zip_map1 {α β : Type} : ∀ {vs : List α} {xs : List β}, vs.length = xs.length → (vs.zip xs).map (·.1) = vs
  | [], [], _ => rfl
  | [], _ :: _, h => by simp at h
  | _ :: _, [], h => by simp at h
  | v :: vs, x :: xs, h => by rw [List.zip_cons_cons, List.map_cons, zip_map1 (by simpa using h)]
theorem zip_map2 {α β : Type} : ∀ {vs : List α} {xs : List β}, vs.length = xs.length → (vs.zip xs).map (·.2) = xs
  | [], [], _ => rfl
  | [], _ :: _, h => by simp at h
  | _ :: _, [], h => by simp at h
  | v :: vs, x :: xs, h => by rw [List.zip_cons_cons, List.map_cons, zip_map2 (by simpa using h)]
theorem zip_of_map {α β : Type} : ∀ (l : List (α × β)), (l.map (·.1)).zip (l.map (·.2)) = l
  | [] => rfl
  | x :: l => by rw [List.map_cons, List.map_cons, List.zip_cons_cons, zip_of_map l]
theorem srt_map2 (bs : List (V × D)) : (srt (fun b : V × D => b.2) bs).map (·.2) = srt id (bs.map (·.2)) := by
  unfold srt
  exact List.map_mergeSort fun a _ b _ => rfl
theorem srt_enc {α : Type} (enc : α → D) (xs : List α) : srt id (xs.map enc) = (srt enc xs).map enc := by
  unfold srt
  exact (List.map_mergeSort (r := PySem.W.dataLe false fun a => toP (enc a)) (s := PySem.W.dataLe false fun a => toP (id a)) (f := enc) (l := xs) fun a _ b _ => rfl).symm

section
variable {X : Cx} {F : Fm} {ds : List (Option D)} {M M1 M2 M3 M' : Cells} {d d1 d2 d3 : D} {e a b c o : Expr} {es : List Expr} {pos apos p p2 : Pos} {x f m : Str} {K : D → Cells → Prop}
theorem ev_eqD (hu : X.A.units + 64 < cLine) (ha : EV X F ds M a d1 M1) (hb : EV X F ds M1 b d2 M2) (g1 : good d1) (g2 : good d2) : EV X F ds M (.Compare a [.Eq] [b] pos) (.bl (PyData.eqv (toP d1) (toP d2))) M2 := ev_cmp (op_eqD hu) (rb_eqD g1 g2) ha hb
theorem et_neD (hu : X.A.units + 64 < cLine) (ha : EV X F ds M a d1 M1) (hb : EV X F ds M1 b d2 M2) (g1 : good d1) (g2 : good d2) : ET X F ds M (.Compare a [.NotEq] [b] pos) (!PyData.eqv (toP d1) (toP d2)) M2 := et_cmp (op_neD hu) (rb_neD g1 g2) ha hb
theorem et_ninD (hu : X.A.units + 65 < cLine) {xs : List D} (ha : EV X F ds M a d1 M1) (hb : EV X F ds M1 b (.lst xs) M2) (g1 : good d1) (g2 : good (.lst xs)) (hm : behindInMarks .NotIn b = false := by rfl) : ET X F ds M (.Compare a [.NotIn] [b] pos) (!(toPs xs).any fun z => PyData.eqv z (toP d1)) M2 := et_cmp (op_notInD hu) (rb_ninD g1 g2) ha hb hm

/-! ### built-ins by name -/
theorem ev_callB {id : String} {r : List V → Hp → VK → Prop} {xs : List D} (hc : CallR X (.builtin id) r) (hm : X.mg x = none) (hv : bootBuiltins x = some (.builtin id)) (ha : EA X F ds M (e :: es) xs M1)
    (hr : ∀ (ts : List (V × D)) σ H vs, vs.length = xs.length → At F ds M1 (vs.zip xs ++ ts) σ H → ∀ Q : VK, (∀ v H', At F ds M' ((v, d) :: ts) σ H' → Q v H') → r vs H Q) (hg : Gl X x := by rfl) (hn : x ≠ "__name__" := by decide) (hdb : (x == ("__debug__" : Str)) = false := by decide)
    (he : starEach (e :: es) X.env = (false, eval e X.env) :: starEach es X.env := by rfl) (hpl : (backTo pos (starEach es X.env)).any (·.1) = false := by rfl) : EV X F ds M (.Call (.Name x p) (e :: es) [] pos) d M' :=
  ev_of (pe_callB hc hg hm hv pa_s hn hdb he hpl) fun ts σ H A Q k => ha ts σ H A _ fun vs H1 hl A1 => hr ts σ H1 vs hl A1 Q k
theorem ev_callTy {T : String} {r : List V → Hp → VK → Prop} {xs : List D} (hc : CallR X (.type T) r) (hm : X.mg x = none) (hv : bootBuiltins x = some (.type T)) (ha : EA X F ds M (e :: es) xs M1)
    (hr : ∀ (ts : List (V × D)) σ H vs, vs.length = xs.length → At F ds M1 (vs.zip xs ++ ts) σ H → ∀ Q : VK, (∀ v H', At F ds M' ((v, d) :: ts) σ H' → Q v H') → r vs H Q) (hg : Gl X x := by rfl) (hn : x ≠ "__name__" := by decide) (hdb : (x == ("__debug__" : Str)) = false := by decide)
    (he : starEach (e :: es) X.env = (false, eval e X.env) :: starEach es X.env := by rfl) (hpl : (backTo pos (starEach es X.env)).any (·.1) = false := by rfl) : EV X F ds M (.Call (.Name x p) (e :: es) [] pos) d M' :=
  ev_of (pe_callTy hc hg hm hv pa_s hn hdb he hpl) fun ts σ H A Q k => ha ts σ H A _ fun vs H1 hl A1 => hr ts σ H1 vs hl A1 Q k
theorem len1 {vs : List V} {d : D} (h : vs.length = [d].length) : ∃ v, vs = [v] := by
  match vs, h with
  | [v], _ => exact ⟨v, rfl⟩
theorem len2 {vs : List V} {d e : D} (h : vs.length = [d, e].length) : ∃ v w, vs = [v, w] := by
  match vs, h with
  | [v, w], _ => exact ⟨v, w, rfl⟩
theorem ev_lenL {xs : List D} (hm : X.mg "len" = none) (ha : EV X F ds M e (.lst xs) M1) (hg : Gl X "len" := by rfl) (he : starEach [e] X.env = (false, eval e X.env) :: starEach [] X.env := by rfl) : EV X F ds M (.Call (.Name "len" p) [e] [] pos) (.int xs.length) M1 :=
  ev_callB call_len_seq hm PySem.boot_len (ea_cons ha ea_nil he) (fun ts σ H vs hl A Q k => by
    obtain ⟨v, rfl⟩ := len1 hl
    obtain ⟨q, ws, rfl, h1, h2, A2⟩ := A.openL List.mem_cons_self
    refine ⟨q, ws, rfl, .inl (SqL.of h1), ?_⟩
    rw [h2]
    exact k _ H ((A.sub fun t ht => List.mem_cons_of_mem _ ht).lit _)) hg (he := he)
theorem ev_lenT {xs : List D} (hm : X.mg "len" = none) (ha : EV X F ds M e (.tup xs) M1) (hg : Gl X "len" := by rfl) (he : starEach [e] X.env = (false, eval e X.env) :: starEach [] X.env := by rfl) : EV X F ds M (.Call (.Name "len" p) [e] [] pos) (.int xs.length) M1 :=
  ev_callB call_len_seq hm PySem.boot_len (ea_cons ha ea_nil he) (fun ts σ H vs hl A Q k => by
    obtain ⟨v, rfl⟩ := len1 hl
    obtain ⟨q, ws, rfl, h1, h2, A2⟩ := A.openT List.mem_cons_self
    refine ⟨q, ws, rfl, .inr (.inl (.inl h1)), ?_⟩
    rw [h2]
    exact k _ H ((A.sub fun t ht => List.mem_cons_of_mem _ ht).lit _)) hg (he := he)
theorem ev_lenC {xs : List D} {q : Addr} {j : Nat} (hm : X.mg "len" = none) (ha : EV X F ds M e (.ref q) M1) (hj : M1[j]? = some (q, .lst xs)) (hg : Gl X "len" := by rfl) (he : starEach [e] X.env = (false, eval e X.env) :: starEach [] X.env := by rfl) : EV X F ds M (.Call (.Name "len" p) [e] [] pos) (.int xs.length) M1 :=
  ev_callB call_len_seq hm PySem.boot_len (ea_cons ha ea_nil he) (fun ts σ H vs hl A Q k => by
    obtain ⟨v, rfl⟩ := len1 hl
    obtain ⟨ws, h1, h2, A2⟩ := A.cellL hj
    refine ⟨q, ws, by rw [A.val List.mem_cons_self], .inl (SqL.of h1), ?_⟩
    rw [h2]
    exact k _ H ((A.sub fun t ht => List.mem_cons_of_mem _ ht).lit _)) hg (he := he)
theorem ev_lenS {z : Str} (hm : X.mg "len" = none) (ha : EV X F ds M e (.str z) M1) (hz : z.length ≤ 100000) (hg : Gl X "len" := by rfl) (he : starEach [e] X.env = (false, eval e X.env) :: starEach [] X.env := by rfl) : EV X F ds M (.Call (.Name "len" p) [e] [] pos) (.int z.length) M1 :=
  ev_callB call_len_str hm PySem.boot_len (ea_cons ha ea_nil he) (fun ts σ H vs hl A Q k => by
    obtain ⟨v, rfl⟩ := len1 hl
    exact ⟨z, by rw [A.val List.mem_cons_self], Nat.le_trans hz (by decide), k _ H ((A.sub fun t ht => List.mem_cons_of_mem _ ht).lit _)⟩) hg (he := he)
theorem ev_min {i j : Int} (hc : X.calm = true) (hm : X.mg "min" = none) (ha : EV X F ds M a (.int i) M1) (hb : EV X F ds M1 b (.int j) M2) (hg : Gl X "min" := by rfl) (h1 : starEach [a, b] X.env = (false, eval a X.env) :: starEach [b] X.env := by rfl) (h2 : starEach [b] X.env = (false, eval b X.env) :: starEach [] X.env := by rfl)
    (hpl : (backTo pos (starEach [b] X.env)).any (·.1) = false := by rfl) : EV X F ds M (.Call (.Name "min" p) [a, b] [] pos) (.int (if j < i then j else i)) M2 :=
  ev_callB (call_min2 hc) hm (by decide +kernel) (ea_cons ha (ea_cons hb ea_nil h2) h1) (fun ts σ H vs hl A Q k => by
    obtain ⟨v, w, rfl⟩ := len2 hl
    exact ⟨i, j, by rw [A.val List.mem_cons_self, A.val (List.mem_cons_of_mem _ List.mem_cons_self)], k _ H ((A.sub fun t ht => List.mem_cons_of_mem _ (List.mem_cons_of_mem _ ht)).lit _)⟩) hg (he := h1) (hpl := hpl)
theorem ev_int {i : Int} (hm : X.mg "int" = none) (ha : EV X F ds M e (.int i) M1) (hg : Gl X "int" := by rfl) (he : starEach [e] X.env = (false, eval e X.env) :: starEach [] X.env := by rfl) : EV X F ds M (.Call (.Name "int" p) [e] [] pos) (.int i) M1 :=
  ev_callTy call_int1 hm PyProof.Rows.boot_int (ea_cons ha ea_nil he) (fun ts σ H vs hl A Q k => by
    obtain ⟨v, rfl⟩ := len1 hl
    exact .inl ⟨i, by rw [A.val List.mem_cons_self], k _ H ((A.sub fun t ht => List.mem_cons_of_mem _ ht).lit _)⟩) hg (he := he)
theorem ev_intS {z : Str} {i : Int} (hm : X.mg "int" = none) (ha : EV X F ds M e (.str z) M1) (hz : z.length ≤ 640) (hi : PySem.intText? z = some i) (hg : Gl X "int" := by rfl) (he : starEach [e] X.env = (false, eval e X.env) :: starEach [] X.env := by rfl) : EV X F ds M (.Call (.Name "int" p) [e] [] pos) (.int i) M1 :=
  ev_callTy call_int_str hm PyProof.Rows.boot_int (ea_cons ha ea_nil he) (fun ts σ H vs hl A Q k => by
    obtain ⟨v, rfl⟩ := len1 hl
    exact ⟨z, i, by rw [A.val List.mem_cons_self], hi, hz, k _ H ((A.sub fun t ht => List.mem_cons_of_mem _ ht).lit _)⟩) hg (he := he)
theorem ev_strI {i : Int} (hm : X.mg "str" = none) (ha : EV X F ds M e (.int i) M1) (hi : i.natAbs.log2 < 1920) (hg : Gl X "str" := by rfl) (he : starEach [e] X.env = (false, eval e X.env) :: starEach [] X.env := by rfl) : EV X F ds M (.Call (.Name "str" p) [e] [] pos) (.str (toString i)) M1 :=
  ev_callTy call_str_int hm PyProof.Rows.boot_str (ea_cons ha ea_nil he) (fun ts σ H vs hl A Q k => by
    obtain ⟨v, rfl⟩ := len1 hl
    exact ⟨i, by rw [A.val List.mem_cons_self], hi, k _ H ((A.sub fun t ht => List.mem_cons_of_mem _ ht).lit _)⟩) hg (he := he)
/-- list(..), a list or a tuple: a new list -/
def SeqD (d : D) (xs : List D) : Prop := d = .lst xs ∨ d = .tup xs
theorem At.openS {F : Fm} {ds : List (Option D)} {M : Cells} {ts : List (V × D)} {σ : St} {H : Hp} {v : V} {d : D} {xs : List D} {K : PySem.W.Frag} (A : At F ds M ts σ H) (h : (v, d) ∈ ts) (s : SeqD d xs) :
    ∃ a vs, v = .ref a ∧ (SqL K H a vs ∨ SqT K H a vs) ∧ vs.length = xs.length ∧ At F ds M (vs.zip xs ++ ts) σ H := by
  rcases s with e | e
  · subst e
    obtain ⟨a, vs, h1, h2, h3, h4⟩ := A.openL h
    exact ⟨a, vs, h1, .inl (SqL.of h2), h3, h4⟩
  · subst e
    obtain ⟨a, vs, h1, h2, h3, h4⟩ := A.openT h
    exact ⟨a, vs, h1, .inr (.inl (.inl h2)), h3, h4⟩
theorem ev_list {xs : List D} (hm : X.mg "list" = none) (ha : EV X F ds M e d M1) (hs : SeqD d xs) (hg : Gl X "list" := by rfl) (he : starEach [e] X.env = (false, eval e X.env) :: starEach [] X.env := by rfl) : EV X F ds M (.Call (.Name "list" p) [e] [] pos) (.lst xs) M1 :=
  ev_callTy call_list_of hm PyProof.Rows.boot_list (ea_cons ha ea_nil he) (fun ts σ H vs hl A Q k => by
    obtain ⟨v, rfl⟩ := len1 hl
    obtain ⟨q, ws, rfl, h1, h2, A2⟩ := A.openS List.mem_cons_self hs
    exact ⟨q, ws, rfl, h1, fun r hr => k _ _ ((A2.alloc (d := .lst xs) hr fun G' r0 e0 => .lst e0 (RpA.of h2 fun t ht => r0 t (List.mem_append_left _ ht))).sub fun t ht => by
      rcases List.mem_cons.mp ht with z | z
      · rw [z]; exact List.mem_cons_self
      · exact List.mem_cons_of_mem _ (List.mem_append_right _ (List.mem_cons_of_mem _ z)))⟩) hg (he := he)
/-- list(..) that is ours to change -/
theorem evk_list {xs : List D} (hm : X.mg "list" = none) (ha : EV X F ds M e d M1) (hs : SeqD d xs) (hg : Gl X "list" := by rfl) (he : starEach [e] X.env = (false, eval e X.env) :: starEach [] X.env := by rfl) : EVK X F ds M (.Call (.Name "list" p) [e] [] pos) (NewL F xs M1) :=
  evk_of (pe_callTy call_list_of hg hm PyProof.Rows.boot_list pa_s (by decide) (by decide) he) fun ts σ H A Q k => ea_cons ha ea_nil he ts σ H A _ fun vs H1 hl A1 => by
    obtain ⟨v, rfl⟩ := len1 hl
    obtain ⟨q, ws, rfl, h1, h2, A2⟩ := A1.openS List.mem_cons_self hs
    refine ⟨q, ws, rfl, h1, fun r hr => ?_⟩
    obtain ⟨A3, fp⟩ := A2.allocC (d := .lst xs) (o := .lst ws) hr fun G' H' r0 e0 => ⟨ws, e0, RpA.of h2 fun t ht => r0 t (List.mem_append_left _ ht)⟩
    exact k _ _ _ _ ⟨r, fp, rfl, rfl⟩ (A3.sub fun t ht => by
      rcases List.mem_cons.mp ht with z | z
      · rw [z]; exact List.mem_cons_self
      · exact List.mem_cons_of_mem _ (List.mem_append_right _ (List.mem_cons_of_mem _ z)))
theorem ev_tuple {xs : List D} (hm : X.mg "tuple" = none) (ha : EV X F ds M e (.lst xs) M1) (hg : Gl X "tuple" := by rfl) (he : starEach [e] X.env = (false, eval e X.env) :: starEach [] X.env := by rfl) : EV X F ds M (.Call (.Name "tuple" p) [e] [] pos) (.tup xs) M1 :=
  ev_callTy call_tuple_of hm PyProof.Rows.boot_tuple (ea_cons ha ea_nil he) (fun ts σ H vs hl A Q k => by
    obtain ⟨v, rfl⟩ := len1 hl
    obtain ⟨q, ws, rfl, h1, h2, A2⟩ := A.openL List.mem_cons_self
    exact ⟨q, ws, rfl, .inl ⟨SqL.of h1, fun r hr => k _ _ ((A2.alloc (d := .tup xs) hr fun G' r0 e0 => .tup e0 (RpA.of h2 fun t ht => r0 t (List.mem_append_left _ ht))).sub fun t ht => by
      rcases List.mem_cons.mp ht with z | z
      · rw [z]; exact List.mem_cons_self
      · exact List.mem_cons_of_mem _ (List.mem_append_right _ (List.mem_cons_of_mem _ z)))⟩⟩) hg (he := he)
/-- tuple(cell) -/
theorem ev_tupleC {xs : List D} {q : Addr} {j : Nat} (hm : X.mg "tuple" = none) (ha : EV X F ds M e (.ref q) M1) (hj : M1[j]? = some (q, .lst xs)) (hg : Gl X "tuple" := by rfl) (he : starEach [e] X.env = (false, eval e X.env) :: starEach [] X.env := by rfl) : EV X F ds M (.Call (.Name "tuple" p) [e] [] pos) (.tup xs) M1 :=
  ev_callTy call_tuple_of hm PyProof.Rows.boot_tuple (ea_cons ha ea_nil he) (fun ts σ H vs hl A Q k => by
    obtain ⟨v, rfl⟩ := len1 hl
    obtain ⟨ws, h1, h2, A2⟩ := A.cellL hj
    exact ⟨q, ws, by rw [A.val List.mem_cons_self], .inl ⟨SqL.of h1, fun r hr => k _ _ ((A2.alloc (d := .tup xs) hr fun G' r0 e0 => .tup e0 (RpA.of h2 fun t ht => r0 t (List.mem_append_left _ ht))).sub fun t ht => by
      rcases List.mem_cons.mp ht with z | z
      · rw [z]; exact List.mem_cons_self
      · exact List.mem_cons_of_mem _ (List.mem_append_right _ (List.mem_cons_of_mem _ z)))⟩⟩) hg (he := he)
/-- list(range(a, b)) -/
theorem ev_range2 {i j : Int} (hc : X.calm = true) (hl : X.mg "list" = none) (hr : X.mg "range" = none) (ha : EV X F ds M a (.int i) M1) (hb : EV X F ds M1 b (.int j) M2) (h0 : 0 ≤ i) (h1 : i ≤ 100000) (h2 : 0 ≤ j) (h3 : j ≤ 100000) (hg : Gl X "list" := by rfl) (hg2 : Gl X "range" := by rfl)
    (na : starEach [.Call (.Name "range" p2) [a, b] [] apos] X.env = (false, eval (.Call (.Name "range" p2) [a, b] [] apos) X.env) :: starEach [] X.env := by rfl) (nb : starEach [a, b] X.env = (false, eval a X.env) :: starEach [b] X.env := by rfl) (nc : starEach [b] X.env = (false, eval b X.env) :: starEach [] X.env := by rfl)
    (hp : (backTo apos (starEach [b] X.env)).any (·.1) = false := by rfl) : EV X F ds M (.Call (.Name "list" p) [.Call (.Name "range" p2) [a, b] [] apos] [] pos) (.lst ((rgV i j).map .v)) M2 :=
  ev_of (pe_listRg hc hg hl (prg_2 hg2 hr pe_s pe_s nb nc hp) na) fun ts σ H A Q k => ha ts σ H A _ fun v1 H1 A1 => hb _ σ H1 A1 _ fun v2 H2 A2 => by
    obtain ⟨e1, e2, A3⟩ := A2.two
    refine ⟨i, j, e1, e2, RgOk.of_le h0 (by omega) (by omega) h2, fun q hq => k _ _ (A3.alloc (d := .lst ((rgV i j).map .v)) hq fun G' r0 e0 => .lst e0 (RpA.vals _))⟩
theorem ev_sorted {α : Type} {enc : α → D} {xs : List α} (hu : X.A.units + 64 < cLine) (hm : X.mg "sorted" = none) (ha : EV X F ds M e (.lst (xs.map enc)) M1) (h1 : ∀ a ∈ xs, okD (enc a) = true) (h2 : ∀ a ∈ xs, ∀ b ∈ xs, PySem.W.alike (toP (enc a)) (toP (enc b)) = true)
    (h3 : (∀ a ∈ xs, ∃ x r, toP (enc a) = .tuple (x :: r)) ∨ ∀ a ∈ xs, toP (enc a) ≠ .none ∧ ∀ r, toP (enc a) ≠ .tuple r) (h4 : ∀ a ∈ xs, (toP (enc a)).depth ≤ 32) (hg : Gl X "sorted" := by rfl) (he : starEach [e] X.env = (false, eval e X.env) :: starEach [] X.env := by rfl) :
    EV X F ds M (.Call (.Name "sorted" p) [e] [] pos) (.lst ((srt enc xs).map enc)) M1 :=
  ev_callB (cr_srt hu) hm (by decide +kernel) (ea_cons ha ea_nil he) (fun ts σ H vs hl A Q k => by
    obtain ⟨v, rfl⟩ := len1 hl
    obtain ⟨q, ws, rfl, g1, g2, A2⟩ := A.openL List.mem_cons_self
    have e1 : (ws.zip (xs.map enc)).map (·.1) = ws := zip_map1 g2
    have e2 : (ws.zip (xs.map enc)).map (·.2) = xs.map enc := zip_map2 g2
    have hin : ∀ b ∈ ws.zip (xs.map enc), ∃ a ∈ xs, b.2 = enc a := fun b hb => by
      have : b.2 ∈ xs.map enc := by rw [← e2]; exact List.mem_map.mpr ⟨b, hb, rfl⟩
      obtain ⟨a, ha, e⟩ := List.mem_map.mp this
      exact ⟨a, ha, e.symm⟩
    refine ⟨q, ws.zip (xs.map enc), rfl, by rw [e1]; exact SqL.of g1, fun b hb => ?_, ?_, ?_, fun b hb => ?_, fun r hr => ?_⟩
    · obtain ⟨a, ha, e⟩ := hin b hb
      exact A2.dp (List.mem_append_left _ hb) (by rw [e]; exact h1 a ha)
    · intro y hy z hz
      obtain ⟨b, hb, rfl⟩ := List.mem_map.mp hy
      obtain ⟨c, hc, rfl⟩ := List.mem_map.mp hz
      obtain ⟨a1, m1, z1⟩ := hin b hb
      obtain ⟨a2, m2, z2⟩ := hin c hc
      rw [z1, z2]
      exact h2 _ m1 _ m2
    · rcases h3 with h3 | h3
      · refine .inl fun y hy => ?_
        obtain ⟨b, hb, rfl⟩ := List.mem_map.mp hy
        obtain ⟨a1, m1, z1⟩ := hin b hb
        rw [z1]
        exact h3 _ m1
      · refine .inr fun y hy => ?_
        obtain ⟨b, hb, rfl⟩ := List.mem_map.mp hy
        obtain ⟨a1, m1, z1⟩ := hin b hb
        rw [z1]
        exact h3 _ m1
    · obtain ⟨a1, m1, z1⟩ := hin b hb
      rw [z1]
      exact h4 _ m1
    · have hz := srt_perm (fun b : V × D => b.2) (ws.zip (xs.map enc))
      have e3 : (srt (fun b : V × D => b.2) (ws.zip (xs.map enc))).map (·.2) = (srt enc xs).map enc := by rw [srt_map2, e2, srt_enc]
      refine k _ _ ((A2.alloc (d := .lst ((srt enc xs).map enc)) hr fun G' r0 e0 => .lst e0 (RpA.of ?_ fun t ht => ?_)).sub fun t ht => ?_)
      · rw [← e3, List.length_map, List.length_map]
      · rw [← e3, zip_of_map] at ht
        exact r0 t (List.mem_append_left _ (hz.mem_iff.mp ht))
      · rcases List.mem_cons.mp ht with z | z
        · rw [z]; exact List.mem_cons_self
        · exact List.mem_cons_of_mem _ (List.mem_append_right _ (List.mem_cons_of_mem _ z))) hg (he := he)
end
end K23

set_option maxHeartbeats 4000000
/-! Methods of lists, dicts keyed by nested tuples, len of an own class, written dicts. -/
namespace K23
open PySem PySem.Spec PyProof.Rows L2

/-! ### rules that the layer lacks -/
theorem ext_tup (l : Addr) (items : Array Value) (n : Nat) (b : Addr) (ob : Obj) (items2 : Array Value) (n2 : Nat) (hc : ob.cls = .type "tuple") (hd2 : ob.data = .seq items2 n2) (hs0 : ¬(!items.isEmpty && Builtin.List.listTooLong (items.size + items2.size)) = true) (hs1 : items.size ≤ sizeLine)
    (hs2 : items.size + items2.size ≤ sizeLine + 1) :
    Meets (Builtin.«list.extend» ⟨[.ref l, .ref b], []⟩) (fun _ R s => s.heap.get? l = some { cls := .type "list", dict := none, data := .seq items n, slots := #[] } ∧ s.heap.get? b = some ob ∧
      R (.ok (.ret Value.none)) { s with heap := s.heap.update l (Obj.mapSeq fun x => x ++ items2), toks := s.toks }) := by
  obtain ⟨oc, od, odt, osl⟩ := ob
  simp only at hc hd2
  subst hc hd2
  exact .of_wp fun prog w A R s h => by
    obtain ⟨hp, g, d, tk, os⟩ := s
    obtain ⟨hl, hb, h⟩ := h
    have f1 := AutoSeq1.idx_int
    have f2 := AutoSeq1.sub_tuple_tuple
    have f3 := AutoSeq1.sub_list_list
    have f4 := AutoSeq1.sub_tuple_list
    have f5 := AutoSeq1.sub_list_tuple
    have hz' : (items ++ items2).size ≤ sizeLine + 1 := by rw [Array.size_append]; exact hs2
    wp_walk using (wpAny_updateSeq hl rfl (hz := hs1) (_hz' := hz')), AutoSeq1.wpAny_loadPart' hl, AutoSeq1.wpAny_loadPart' hb
    exact ⟨_, rfl, h⟩
def rExtT (K : PySem.W.Frag) : V → List V → Hp → VK → Prop := fun x vs H Q => ∃ l b xs zs, x = .ref l ∧ vs = [.ref b] ∧ H l = some (.lst xs) ∧ SqT K H b zs ∧ xs.length + zs.length ≤ sizeLine ∧ Q .non (upd H l (.lst (xs ++ zs)))
theorem mt_extT {X : Cx} : MtR X "list.extend" (rExtT X.K) := by
  intro pins s σ H x vs v us Q I rx rv h
  obtain ⟨l, b, xs, zs, rfl, rfl, hH, hB, hz, q⟩ := h
  cases rx
  obtain ⟨u, rfl, ru⟩ := rv.one
  cases ru
  obtain ⟨z, its, n, r, hl, e⟩ := I.lstM hH
  obtain ⟨its2, r2, ⟨ob, e2, c2, n2, d2⟩, z2⟩ := I.tuple hB
  have h2 := r2.length
  have hsz : its.toArray.size + its2.toArray.size ≤ sizeLine := by
    rw [List.size_toArray, List.size_toArray]
    omega
  have hlong : ¬ (!its.toArray.isEmpty && Builtin.List.listTooLong (its.toArray.size + its2.toArray.size)) = true := by rw [notLongL hsz, Bool.and_false]; exact Bool.false_ne_true
  refine call_meets PySem.F.slot_list_extend ⟨_, e, rfl⟩ PySem.F.entry_list_extend (PySem.F.args_list_extend_2 _ _) (ext_tup l its.toArray n b ob its2.toArray n2 c2 d2 hlong (by rw [List.size_toArray]; omega) (by omega)) ⟨e, e2, ?_⟩
  exact ⟨.non, _, I.lset (its' := its ++ its2) hH e (by simp) (r.append r2) (by rw [List.length_append]; omega), rfl, q⟩

/-- len(o), o's class has a __len__ -/
theorem cr_lenOwn {X : Cx} {C f : Addr} {fd : FuncData} {ps : List Str} {sp : Sp} {k : Nat} (hl : PySem.W.findIn X.K (.ref C) "__len__" = some (some (.ref f))) (hf : PySem.W.isFn X.K (.ref f) = true) (Fo : FnOk X.prog X.w X.K X.mg X.base CX0 k f fd ps sp) (hb : Binds X.K fd ps [])
    (hr : Room (k + 1) X.A) : CallR X (.builtin "len") (fun vs H Q => ∃ a dx fs, vs = [V.ref a] ∧ H a = some (.ins C dx fs) ∧ sp [.ref a] H (fun v H' => ∃ n : Int, v = .int n ∧ 0 ≤ n ∧ n < 2 ^ 62 ∧ Q (.int n) H') E0) := by
  intro pins s σ H vs us Q I r h
  obtain ⟨a, dx, fs, rfl, ha, hsp⟩ := h
  obtain ⟨u, rfl, ru⟩ := vals1 r
  obtain rfl : u = Value.ref a := ru
  obtain ⟨mA, om, _⟩ := ins_get I.hok ha
  obtain ⟨od, ia, _⟩ := om.look
  obtain ⟨m, F'⟩ := I.fr
  refine PySem.W.len_K F' I.mod.kin ia hl hf (wpAny_call (codeAny_mono (Fo.run X.A.in1 X.stack s H ⟨[.ref a], []⟩ ([.ref a] ++ []) [.ref a] _ E0 hr.in1 I.env0.in1 (hb s [.ref a] I.kIn ?_) ?_ hsp) fun r s' hq => ?_))
  · have := Fo.len _ _ _ _ hsp
    simpa using this
  · simpa using r
  · cases r with
    | error e => exact hq.elim
    | ok fl =>
      cases fl with
      | ret u =>
        obtain ⟨v, H', I', rv, n, e, h0, h1, q⟩ := I.after hq
        subst e
        obtain ⟨t, rfl⟩ := rv
        exact ⟨⟨h0, by omega⟩, .int n, H', I'.tok _, ⟨_, rfl⟩, q⟩
      | next => exact hq.elim
      | brk => exact hq.elim
      | cont => exact hq.elim

/-! ### keys that are nested tuples -/
theorem toNs_map : ∀ xs : List D, toNs xs = xs.map toN
  | [] => rfl
  | x :: xs => by rw [toNs, toNs_map xs]; rfl
mutual
theorem nk_is {X : Cx} {pins : List (Addr × Obj)} {σ : St} {H G : Hp} {s : Shared} (I : Inv X pins σ H s) (sg : Same G H) : ∀ {d : D} {v : V} {u : Value}, Rp G v d → RelV v u → okN d = true → NestedIs s.heap (toN d) u
  | .v x, v, u, h, r, o => by
    have e : v = x := h.val
    subst e
    cases v with
    | int i =>
      obtain ⟨t, rfl⟩ := r
      exact .int i t
    | _ => cases o
  | .tup xs, _, _, h, r, o => by
    cases h with
    | tup e ra =>
      cases r
      obtain ⟨its, rv, ⟨ob, h1, h2, n, h3⟩, _⟩ := I.tuple (.inl (.inl (sg _ _ e)))
      exact .tup h1 h2 h3 (nks_is I sg ra rv o)
  | .lst _, _, _, _, _, o => by cases o
  | .dic _ _, _, _, _, _, o => by cases o
  | .ins _ _ _, _, _, _, _, o => by cases o
  | .nd _ _, _, _, _, _, o => by cases o
  | .scr _ _, _, _, _, _, o => by cases o
theorem nks_is {X : Cx} {pins : List (Addr × Obj)} {σ : St} {H G : Hp} {s : Shared} (I : Inv X pins σ H s) (sg : Same G H) : ∀ {xs : List D} {vs : List V} {us : List Value}, RpA G vs xs → Vals vs us → okNs xs = true → NestedAll s.heap (toNs xs) us
  | [], _, _, h, r, _ => by
    cases h
    cases r
    exact .nil
  | x :: xs, _, _, h, r, o => by
    cases h with
    | cons h1 h2 =>
      cases r with
      | cons r1 r2 =>
        rw [okNs, Bool.and_eq_true] at o
        exact .cons (nk_is I sg h1 r1 o.1) (nks_is I sg h2 r2 o.2)
end
/-- the dict as the library tells it -/
theorem nd_of {X : Cx} {pins : List (Addr × Obj)} {σ : St} {H G : Hp} {s : Shared} {a : Addr} {xs : List D} {x : V} (I : Inv X pins σ H s) (sg : Same G H) (n : NdAt X.w G H a xs x) : (a == sysModules) = false ∧ ∃ es : List (NestedKey × Addr × Value),
    H a = some (NDO X.w a es) ∧ es.length ≤ 100000 ∧ es.length = xs.length ∧ es.map (·.1) = xs.map toN ∧ (∀ (i : Nat) e d, es[i]? = some e → xs[i]? = some d → Rp G (.ref e.2.1) d ∧ e.1 = toN d ∧ okN d = true ∧ e.1.depth ≤ 8 ∧ RelV x e.2.2) ∧ s.heap.DictOfH (nestedKind X.prog X.w) a es := by
  obtain ⟨es, h, h0, hl, hn, hr⟩ := n.ex
  obtain ⟨⟨hm, o, ep, arr, h1, h2, h3, h4⟩, _, _⟩ := I.hok a _ h
  have hk : es.map (·.1) = xs.map toN := by
    refine List.ext_getElem? fun i => ?_
    rw [List.getElem?_map, List.getElem?_map]
    by_cases hi : i < es.length
    · have hi2 : i < xs.length := by omega
      rw [List.getElem?_eq_getElem hi, List.getElem?_eq_getElem hi2]
      exact congrArg some (hr i _ _ (List.getElem?_eq_getElem hi) (List.getElem?_eq_getElem hi2)).2.1
    · rw [List.getElem?_eq_none (by omega), List.getElem?_eq_none (by omega)]
      rfl
  refine ⟨hm, es, h, h0, hl, hk, hr, o, arr, ep, h1, h2, h3, h4, fun e he => ?_, hn⟩
  obtain ⟨i, hi⟩ := List.mem_iff_getElem?.mp he
  have hi2 : i < xs.length := by rw [← hl]; exact (List.getElem?_eq_some_iff.mp hi).1
  obtain ⟨r1, r2, r3, r4, _⟩ := hr i e _ hi (List.getElem?_eq_getElem hi2)
  refine ⟨?_, r4⟩
  rw [r2]
  exact nk_is I sg r1 rfl r3
theorem atKey_some {κ : Type} [DecidableEq κ] (k : κ) : ∀ (es : List (κ × Addr × Value)), (atKey es k).isSome = decide (k ∈ es.map (·.1))
  | [] => by simp [atKey]
  | e :: es => by
    have ih := atKey_some k es
    by_cases h : e.1 = k
    · simp [atKey, List.find?_cons, h]
    · have h' : ¬ k = e.1 := fun z => h z.symm
      simp only [atKey, List.find?_cons, decide_eq_false h] at ih ⊢
      rw [ih]
      simp [h']
def rInN (w : World) (neg : Bool) : R2 := fun x y H Q => ∃ (G : Hp) (a : Addr) (b : Addr) (xs : List D) (z : V) (d : D), x = .ref b ∧ y = .ref a ∧ Same G H ∧ NdAt w G H a xs z ∧ Rp G x d ∧ okN d = true ∧ (toN d).depth ≤ 8 ∧ Q (.bl (if neg then !decide (toN d ∈ xs.map toN) else decide (toN d ∈ xs.map toN))) H
theorem nroom {A : Around} {P : Program} {w : World} (hu : A.units + 64 < cLine) : (nestedKind P w).room A.in1 := by
  have h : A.in1.units ≤ A.units + 1 := by simp [Around.in1_units]
  show A.in1.units + 8 < cLine
  omega
theorem op_inN {X : Cx} (hu : X.A.units + 64 < cLine) : OpR X (compareOp .In) (rInN X.w false) := by
  intro pins s σ H x y v u Q I rx ry h
  obtain ⟨G, a, b, xs, z, d, rfl, rfl, sg, hn, hr, ho, hd, q⟩ := h
  cases rx
  cases ry
  obtain ⟨hm, es, h1, _, _, hk, _, hdh⟩ := nd_of I sg hn
  refine wpAny_in_heap (knd := nestedKind X.prog X.w) (k := toN d) (nroom hu) ⟨nk_is I sg hr rfl ho, hd⟩ hm hdh ⟨.bl _, H, I.tok _, rfl, ?_⟩
  rw [atKey_some, hk]
  exact q
theorem op_ninN {X : Cx} (hu : X.A.units + 64 < cLine) : OpR X (compareOp .NotIn) (rInN X.w true) := by
  intro pins s σ H x y v u Q I rx ry h
  obtain ⟨G, a, b, xs, z, d, rfl, rfl, sg, hn, hr, ho, hd, q⟩ := h
  cases rx
  cases ry
  obtain ⟨hm, es, h1, _, _, hk, _, hdh⟩ := nd_of I sg hn
  refine notIn_keyed (knd := nestedKind X.prog X.w) (k := toN d) (nroom hu) ⟨nk_is I sg hr rfl ho, hd⟩ hm ⟨es, hdh, rfl⟩ ⟨.bl _, H, I.tok _, rfl, ?_⟩
  rw [valueAt_pairsH, Option.isSome_map, atKey_some, hk]
  exact q
/-- d[key] = value, the key not there yet -/
theorem nd_put {X : Cx} {pins : List (Addr × Obj)} {σ : St} {H G : Hp} {s : Shared} {a b : Addr} {xs : List D} {x : V} {d : D} {u : Value} {Q : Unit → Shared → Prop} {E : Value → Shared → Prop} (hu : X.A.units + 64 < cLine) (I : Inv X pins σ H s) (sg : Same G H) (n : NdAt X.w G H a xs x) (hz : xs.length < 100000)
    (hr : Rp G (.ref b) d) (ho : okN d = true) (hd : (toN d).depth ≤ 8) (hk : toN d ∉ xs.map toN) (rx : RelV x u)
    (h : ∀ s' o, Inv X pins σ (upd H a o) s' → (∀ G' H', Same G G' → H' a = some o → NdAt X.w G' H' a (xs ++ [d]) x) → Q () s') : wpAny (model X.prog X.w) X.A (setItem (.ref a) (.ref b) u) Q E s := by
  obtain ⟨hm, es, h1, h0, hl, hkk, hall, hdh⟩ := nd_of I sg n
  have hno : atKey es (toN d) = none := by
    cases e : atKey es (toN d) with
    | none => rfl
    | some p =>
      have := atKey_some (toN d) es
      rw [e, hkk] at this
      exact absurd (of_decide_eq_true this.symm) hk
  have hroom : (nestedKind X.prog X.w).room X.A.in1 := nroom hu
  refine wpAny_setItem_heap (knd := nestedKind X.prog X.w) (k := toN d) (xs := es) hroom ⟨nk_is I sg hr rfl ho, hd⟩ hdh (fun h' hd' sb => ?_) (Nat.le_trans h0 (by decide))
  rw [storedH_new hno] at hd'
  have hall2 : ∀ (i : Nat) e y, (es ++ [(toN d, b, u)])[i]? = some e → (xs ++ [d])[i]? = some y → Rp G (.ref e.2.1) y ∧ e.1 = toN y ∧ okN y = true ∧ e.1.depth ≤ 8 ∧ RelV x e.2.2 := fun i e y h1 h2 => by
    by_cases hi : i < es.length
    · rw [List.getElem?_append_left hi] at h1
      rw [List.getElem?_append_left (by omega)] at h2
      exact hall i e y h1 h2
    · rw [List.getElem?_append_right (by omega)] at h1
      rw [List.getElem?_append_right (by omega), ← hl] at h2
      cases hj : i - es.length with
      | zero =>
        rw [hj] at h1 h2
        simp at h1 h2
        subst h1 h2
        exact ⟨hr, rfl, ho, hd, rx⟩
      | succ j =>
        rw [hj] at h1
        simp at h1
  have hn2 : ((es ++ [(toN d, b, u)]).map (·.1)).Nodup := by obtain ⟨_, _, _, _, _, _, _, _, z⟩ := hd'; exact z
  refine h _ (NDO X.w a (es ++ [(toN d, b, u)])) (I.write (x := a) (e := a) (h' := h') (t' := s.toks + (nestedKind X.prog X.w).draws (toN d)) (by rw [h1]; exact trivial) (.inl rfl) (fun c o hc e => (sb.2 c hc).trans e) ?_ ?_) fun G' H' s1 e1 => ⟨_, e1, ?_, ?_, hn2, fun i e y g1 g2 => ?_⟩
  · obtain ⟨o, _, _, e, _⟩ := hd'
    exact ⟨o, e⟩
  · obtain ⟨o, arr, ep, e1, e2, e3, e4, _⟩ := hd'
    refine ⟨⟨hm, o, ep, arr, e1, e2, e3, e4⟩, ⟨o, e1⟩, fun g1 g2 p k => ?_⟩
    obtain ⟨q1, o2, ep2, arr2, p1, p2, p3, p4⟩ := p
    exact ⟨q1, o2, ep2, arr2, k _ p1, p2, p3, p4⟩
  · rw [List.length_append]
    simp
    omega
  · rw [List.length_append, List.length_append, hl]
    rfl
  · obtain ⟨z1, z2⟩ := hall2 i e y g1 g2
    exact ⟨z1.up s1, z2⟩

section
variable {X : Cx} {F : Fm} {ds : List (Option D)} {M M1 M2 M3 M' : Cells} {d d1 d2 d3 : D} {e a b c o : Expr} {es : List Expr} {pos apos p p2 : Pos} {x f m : Str} {K : D → Cells → Prop}
theorem At.rp {F : Fm} {ds : List (Option D)} {M : Cells} {ts : List (V × D)} {σ : St} {H : Hp} (A : At F ds M ts σ H) : ∃ G, Same G H ∧ (∀ t ∈ ts, Rp G t.1 t.2) ∧ (∀ p ∈ M, Cell F.w G H p.1 p.2) := by
  obtain ⟨G, w, s, t, c⟩ := A.ex
  exact ⟨G, w.le, t, fun p hp => (c.ok p hp).2.1⟩
theorem ref_of {G : Hp} {v : V} {xs : List D} (h : Rp G v (.tup xs)) : ∃ b, v = .ref b := by
  cases h
  exact ⟨_, rfl⟩
theorem rb_inN {neg : Bool} {q : Addr} {j : Nat} {xs ys : List D} {z : V} (hw : F.w = X.w) (hj : M[j]? = some (q, .nd xs z)) (ho : okN (.tup ys) = true) (hd : (toN (.tup ys)).depth ≤ 8) :
    RB F ds M (rInN X.w neg) (.tup ys) (.ref q) (.bl (if neg then !decide (toN (.tup ys) ∈ xs.map toN) else decide (toN (.tup ys) ∈ xs.map toN))) M := fun ts σ H v1 v2 A Q k => by
  obtain ⟨G, sg, t, c⟩ := A.rp
  have h1 := t _ (List.mem_cons_of_mem _ List.mem_cons_self)
  obtain ⟨b, rfl⟩ := ref_of h1
  refine ⟨G, q, b, xs, z, .tup ys, rfl, A.val List.mem_cons_self, sg, ?_, h1, ho, hd, k _ H ((A.sub fun t ht => List.mem_cons_of_mem _ (List.mem_cons_of_mem _ ht)).lit _)⟩
  rw [← hw]
  exact c _ (List.mem_of_getElem? hj)
theorem et_inN {q : Addr} {j : Nat} {xs ys : List D} {z : V} (hu : X.A.units + 64 < cLine) (hw : F.w = X.w) (ha : EV X F ds M a (.tup ys) M1) (hb : EV X F ds M1 b (.ref q) M2) (hj : M2[j]? = some (q, .nd xs z)) (ho : okN (.tup ys) = true) (hd : (toN (.tup ys)).depth ≤ 8)
    (hm : behindInMarks .In b = false := by rfl) : ET X F ds M (.Compare a [.In] [b] pos) (decide (toN (.tup ys) ∈ xs.map toN)) M2 := et_cmp (op_inN hu) (rb_inN (neg := false) hw hj ho hd) ha hb hm
theorem et_ninN {q : Addr} {j : Nat} {xs ys : List D} {z : V} (hu : X.A.units + 64 < cLine) (hw : F.w = X.w) (ha : EV X F ds M a (.tup ys) M1) (hb : EV X F ds M1 b (.ref q) M2) (hj : M2[j]? = some (q, .nd xs z)) (ho : okN (.tup ys) = true) (hd : (toN (.tup ys)).depth ≤ 8)
    (hm : behindInMarks .NotIn b = false := by rfl) : ET X F ds M (.Compare a [.NotIn] [b] pos) (!decide (toN (.tup ys) ∈ xs.map toN)) M2 := et_cmp (op_ninN hu) (rb_inN (neg := true) hw hj ho hd) ha hb hm
theorem ev_inN {q : Addr} {j : Nat} {xs ys : List D} {z : V} (hu : X.A.units + 64 < cLine) (hw : F.w = X.w) (ha : EV X F ds M a (.tup ys) M1) (hb : EV X F ds M1 b (.ref q) M2) (hj : M2[j]? = some (q, .nd xs z)) (ho : okN (.tup ys) = true) (hd : (toN (.tup ys)).depth ≤ 8)
    (hm : behindInMarks .In b = false := by rfl) : EV X F ds M (.Compare a [.In] [b] pos) (.bl (decide (toN (.tup ys) ∈ xs.map toN))) M2 := ev_cmp (op_inN hu) (rb_inN (neg := false) hw hj ho hd) ha hb hm

/-! ### methods of lists -/
theorem At.tyL {F : Fm} {ds : List (Option D)} {M : Cells} {ts : List (V × D)} {σ : St} {H : Hp} {v : V} {q : Addr} {j : Nat} {xs : List D} {K : PySem.W.Frag} (A : At F ds M ts σ H) (h : (v, D.ref q) ∈ ts) (hj : M[j]? = some (q, .lst xs)) : tyV K "list" v H := by
  rw [A.val h]
  obtain ⟨vs, e, _⟩ := A.cellL hj
  exact .inl ⟨rfl, vs, SqL.of e⟩
theorem evk_app {q : Addr} {j j2 : Nat} {xs : List D} {Kx : D → Cells → Prop} (ho : EV X F ds M o (.ref q) M1) (hj : M1[j]? = some (q, .lst xs)) (he : EVK X F ds M1 e Kx) (h2 : ∀ d M2, Kx d M2 → ∃ ys, M2[j2]? = some (q, .lst ys) ∧ ys.length < 100000)
    (hb : attributeBase o "append" X.env (eval o X.env) = eval o X.env := by rfl) (hf : ((backTo pos (starEach [e] X.env)).all (fun x => !x.1) && (backToKw pos (keywordEach [] X.env)).all (fun x => x.1.isSome) && decide (([e] : List Expr).length + ([] : List Keyword).length + (if ([] : List Keyword).isEmpty then 0 else 1) < 30)) = true := by rfl)
    (hl : (apos.endLine == pos.line) = true := by rfl) (hs : starEach [e] X.env = (false, eval e X.env) :: starEach [] X.env := by rfl) : EVK X F ds M (.Call (.Attribute o "append" apos) [e] [] pos) (fun d M' => d = .non ∧ ∃ d0 M2 ys, Kx d0 M2 ∧ M2[j2]? = some (q, .lst ys) ∧ M' = M2.set j2 (q, .lst (ys ++ [d0]))) :=
  evk_of (pe_bm PySem.F.plainAttrs_list PySem.F.slot_list_append PySem.F.type_list_append mt_append pe_s (pa_cons pe_s pa_nil hs) hb hf hl hs rfl) fun ts σ H A Q k => ho ts σ H A _ fun v H1 A1 => ⟨A1.tyL List.mem_cons_self hj, he _ σ H1 A1 _ fun d0 M2 u H2 hK A2 => by
    obtain ⟨ys, hy, hz⟩ := h2 _ _ hK
    obtain ⟨ws, g1, g2, A3⟩ := A2.cellL hy
    refine ⟨q, ws, u, A2.val (List.mem_cons_of_mem _ List.mem_cons_self), rfl, g1, by rw [g2]; exact Nat.lt_of_lt_of_le hz (by decide), ?_⟩
    have A4 := A3.write (d := .lst (ys ++ [d0])) (o := .lst (ws ++ [u])) hy fun G' H' t e => ⟨_, e, RpA.app (RpA.of g2 fun x hx => t x (List.mem_append_left _ hx)) (.cons (t (u, d0) (List.mem_append_right _ List.mem_cons_self)) .nil)⟩
    exact k _ _ _ _ ⟨rfl, d0, M2, ys, hK, hy, rfl⟩ ((A4.sub fun t ht => List.mem_append_right _ (List.mem_cons_of_mem _ (List.mem_cons_of_mem _ ht))).lit _)⟩
theorem ev_app {q : Addr} {j : Nat} {xs ys : List D} (ho : EV X F ds M o (.ref q) M1) (hj : M1[j]? = some (q, .lst xs) := by rfl) (he : EV X F ds M1 e d M2) (h2 : M2[j]? = some (q, .lst ys) := by rfl) (hz : ys.length < 100000)
    (hb : attributeBase o "append" X.env (eval o X.env) = eval o X.env := by rfl) (hf : ((backTo pos (starEach [e] X.env)).all (fun x => !x.1) && (backToKw pos (keywordEach [] X.env)).all (fun x => x.1.isSome) && decide (([e] : List Expr).length + ([] : List Keyword).length + (if ([] : List Keyword).isEmpty then 0 else 1) < 30)) = true := by rfl)
    (hl : (apos.endLine == pos.line) = true := by rfl) (hs : starEach [e] X.env = (false, eval e X.env) :: starEach [] X.env := by rfl) : EV X F ds M (.Call (.Attribute o "append" apos) [e] [] pos) .non (M2.set j (q, .lst (ys ++ [d]))) := fun ts σ H A Q k =>
  evk_app (j2 := j) ho hj he.k (fun d' M' hk => by rw [hk.2]; exact ⟨ys, h2, hz⟩) hb hf hl hs ts σ H A Q fun d' M' v H' ⟨e1, d0, M3, zs, ⟨e2, e3⟩, h3, e4⟩ A' => by
    subst e1 e2 e3 e4
    rw [h2] at h3
    cases h3
    exact k v H' A'
theorem ev_rev {q : Addr} {j : Nat} {xs : List D} (ho : EV X F ds M o (.ref q) M1) (hj : M1[j]? = some (q, .lst xs) := by rfl) (hb : attributeBase o "reverse" X.env (eval o X.env) = eval o X.env := by rfl) (hl : (apos.endLine == pos.line) = true := by rfl) :
    EV X F ds M (.Call (.Attribute o "reverse" apos) [] [] pos) .non (M1.set j (q, .lst xs.reverse)) :=
  ev_of (pe_bm0 PySem.F.plainAttrs_list PySem.F.slot_list_reverse PySem.F.type_list_reverse mt_reverse pe_s hb hl) fun ts σ H A Q k => ho ts σ H A _ fun v H1 A1 => ⟨A1.tyL List.mem_cons_self hj, by
    obtain ⟨ws, g1, g2, A3⟩ := A1.cellL hj
    refine ⟨q, ws, A1.val List.mem_cons_self, rfl, g1, ?_⟩
    have A4 := A3.write (d := .lst xs.reverse) (o := .lst ws.reverse) hj fun G' H' t e => ⟨_, e, (RpA.of g2 fun x hx => t x (List.mem_append_left _ hx)).rev⟩
    exact k _ _ ((A4.sub fun t ht => List.mem_append_right _ (List.mem_cons_of_mem _ ht)).lit _)⟩
theorem ev_pop {q : Addr} {j : Nat} {xs : List D} (ho : EV X F ds M o (.ref q) M1) (hj : M1[j]? = some (q, .lst xs) := by rfl) (hd : xs[xs.length - 1]? = some d) (hb : attributeBase o "pop" X.env (eval o X.env) = eval o X.env := by rfl) (hl : (apos.endLine == pos.line) = true := by rfl) :
    EV X F ds M (.Call (.Attribute o "pop" apos) [] [] pos) d (M1.set j (q, .lst xs.dropLast)) :=
  ev_of (pe_bm0 PySem.F.plainAttrs_list PySem.F.slot_list_pop PySem.F.type_list_pop mt_pop pe_s hb hl) fun ts σ H A Q k => ho ts σ H A _ fun v H1 A1 => ⟨A1.tyL List.mem_cons_self hj, by
    obtain ⟨ws, g1, g2, A3⟩ := A1.cellL hj
    have hlt : ws.length - 1 < ws.length := by
      have := (List.getElem?_eq_some_iff.mp hd).1
      omega
    refine ⟨q, ws, ws[ws.length - 1], A1.val List.mem_cons_self, rfl, g1, List.getElem?_eq_getElem hlt, ?_⟩
    have hm : (ws[ws.length - 1], d) ∈ ws.zip xs := zip_mem (List.getElem?_eq_getElem hlt) (by rw [g2]; exact hd)
    have A4 := A3.write (d := .lst xs.dropLast) (o := .lst ws.dropLast) hj fun G' H' t e => ⟨_, e, (RpA.of g2 fun x hx => t x (List.mem_append_left _ hx)).dropLast⟩
    exact k _ _ (A4.sub fun t ht => by
      rcases List.mem_cons.mp ht with z | z
      · rw [z]; exact List.mem_append_left _ hm
      · exact List.mem_append_right _ (List.mem_cons_of_mem _ z))⟩
theorem ev_ext {q : Addr} {j : Nat} {xs ys zs : List D} (ho : EV X F ds M o (.ref q) M1) (hj : M1[j]? = some (q, .lst xs) := by rfl) (he : EV X F ds M1 e (.lst zs) M2) (h2 : M2[j]? = some (q, .lst ys) := by rfl) (hz : ys.length + zs.length < 100000)
    (hb : attributeBase o "extend" X.env (eval o X.env) = eval o X.env := by rfl) (hf : ((backTo pos (starEach [e] X.env)).all (fun x => !x.1) && (backToKw pos (keywordEach [] X.env)).all (fun x => x.1.isSome) && decide (([e] : List Expr).length + ([] : List Keyword).length + (if ([] : List Keyword).isEmpty then 0 else 1) < 30)) = true := by rfl)
    (hl : (apos.endLine == pos.line) = true := by rfl) (hs : starEach [e] X.env = (false, eval e X.env) :: starEach [] X.env := by rfl) : EV X F ds M (.Call (.Attribute o "extend" apos) [e] [] pos) .non (M2.set j (q, .lst (ys ++ zs))) :=
  ev_of (pe_bm PySem.F.plainAttrs_list PySem.F.slot_list_extend PySem.F.type_list_extend mt_extend pe_s (pa_cons pe_s pa_nil hs) hb hf hl hs rfl) fun ts σ H A Q k => ho ts σ H A _ fun v H1 A1 => ⟨A1.tyL List.mem_cons_self hj, he _ σ H1 A1 _ fun u H2 A2 => by
    obtain ⟨b, us, rfl, f1, f2, A2'⟩ := A2.openL List.mem_cons_self
    obtain ⟨ws, g1, g2, A3⟩ := A2'.cellL h2
    refine ⟨q, b, ws, us, A2.val (List.mem_cons_of_mem _ List.mem_cons_self), rfl, g1, f1, by rw [g2, f2]; exact Nat.le_of_lt (Nat.lt_of_lt_of_le hz (by decide)), ?_⟩
    have A4 := A3.write (d := .lst (ys ++ zs)) (o := .lst (ws ++ us)) h2 fun G' H' t e => ⟨_, e, RpA.app (RpA.of g2 fun x hx => t x (List.mem_append_left _ hx)) (RpA.of f2 fun x hx => t x (List.mem_append_right _ (List.mem_append_left _ hx)))⟩
    exact k _ _ ((A4.sub fun t ht => List.mem_append_right _ (List.mem_append_right _ (List.mem_cons_of_mem _ (List.mem_cons_of_mem _ ht)))).lit _)⟩
theorem ev_extT {q : Addr} {j : Nat} {xs ys zs : List D} (ho : EV X F ds M o (.ref q) M1) (hj : M1[j]? = some (q, .lst xs) := by rfl) (he : EV X F ds M1 e (.tup zs) M2) (h2 : M2[j]? = some (q, .lst ys) := by rfl) (hz : ys.length + zs.length < 100000)
    (hb : attributeBase o "extend" X.env (eval o X.env) = eval o X.env := by rfl) (hf : ((backTo pos (starEach [e] X.env)).all (fun x => !x.1) && (backToKw pos (keywordEach [] X.env)).all (fun x => x.1.isSome) && decide (([e] : List Expr).length + ([] : List Keyword).length + (if ([] : List Keyword).isEmpty then 0 else 1) < 30)) = true := by rfl)
    (hl : (apos.endLine == pos.line) = true := by rfl) (hs : starEach [e] X.env = (false, eval e X.env) :: starEach [] X.env := by rfl) : EV X F ds M (.Call (.Attribute o "extend" apos) [e] [] pos) .non (M2.set j (q, .lst (ys ++ zs))) :=
  ev_of (pe_bm PySem.F.plainAttrs_list PySem.F.slot_list_extend PySem.F.type_list_extend mt_extT pe_s (pa_cons pe_s pa_nil hs) hb hf hl hs rfl) fun ts σ H A Q k => ho ts σ H A _ fun v H1 A1 => ⟨A1.tyL List.mem_cons_self hj, he _ σ H1 A1 _ fun u H2 A2 => by
    obtain ⟨b, us, rfl, f1, f2, A2'⟩ := A2.openT List.mem_cons_self
    obtain ⟨ws, g1, g2, A3⟩ := A2'.cellL h2
    refine ⟨q, b, ws, us, A2.val (List.mem_cons_of_mem _ List.mem_cons_self), rfl, g1, .inl (.inl f1), by rw [g2, f2]; exact Nat.le_of_lt (Nat.lt_of_lt_of_le hz (by decide)), ?_⟩
    have A4 := A3.write (d := .lst (ys ++ zs)) (o := .lst (ws ++ us)) h2 fun G' H' t e => ⟨_, e, RpA.app (RpA.of g2 fun x hx => t x (List.mem_append_left _ hx)) (RpA.of f2 fun x hx => t x (List.mem_append_right _ (List.mem_append_left _ hx)))⟩
    exact k _ _ ((A4.sub fun t ht => List.mem_append_right _ (List.mem_append_right _ (List.mem_cons_of_mem _ (List.mem_cons_of_mem _ ht)))).lit _)⟩
theorem ev_insert {q : Addr} {j : Nat} {i : Int} {xs ys : List D} {e1 e2 : Expr} (ho : EV X F ds M o (.ref q) M1) (hj : M1[j]? = some (q, .lst xs) := by rfl) (h1 : EV X F ds M1 e1 (.int i) M2) (h2 : EV X F ds M2 e2 d M3) (h3 : M3[j]? = some (q, .lst ys) := by rfl) (hz : ys.length < 100000) (hi : 0 ≤ i) (hi2 : i ≤ 100000)
    (hb : attributeBase o "insert" X.env (eval o X.env) = eval o X.env := by rfl) (hf : ((backTo pos (starEach [e1, e2] X.env)).all (fun x => !x.1) && (backToKw pos (keywordEach [] X.env)).all (fun x => x.1.isSome) && decide (([e1, e2] : List Expr).length + ([] : List Keyword).length + (if ([] : List Keyword).isEmpty then 0 else 1) < 30)) = true := by rfl)
    (hl : (apos.endLine == pos.line) = true := by rfl) (hs : starEach [e1, e2] X.env = (false, eval e1 X.env) :: starEach [e2] X.env := by rfl) (hs2 : starEach [e2] X.env = (false, eval e2 X.env) :: starEach [] X.env := by rfl) (hpl : (backTo pos (starEach [e2] X.env)).any (·.1) = false := by rfl) :
    EV X F ds M (.Call (.Attribute o "insert" apos) [e1, e2] [] pos) .non (M3.set j (q, .lst (ys.take i.toNat ++ [d] ++ ys.drop i.toNat))) :=
  ev_of (pe_bm PySem.F.plainAttrs_list PySem.F.slot_list_insert PySem.F.type_list_insert mt_insert pe_s (pa_cons pe_s (pa_cons pe_s pa_nil hs2) hs) hb hf hl hs hpl) fun ts σ H A Q k => ho ts σ H A _ fun v H1 A1 => ⟨A1.tyL List.mem_cons_self hj, h1 _ σ H1 A1 _ fun u H2 A2 => h2 _ σ H2 A2 _ fun u2 H3 A3 => by
    obtain ⟨ws, g1, g2, A4⟩ := A3.cellL h3
    refine ⟨q, ws, i, u2, A3.val (List.mem_cons_of_mem _ (List.mem_cons_of_mem _ List.mem_cons_self)), by rw [A3.val (List.mem_cons_of_mem _ List.mem_cons_self)], g1, by rw [g2]; exact Nat.lt_of_lt_of_le hz (by decide), hi, by omega, ?_⟩
    have A5 := A4.write (d := .lst (ys.take i.toNat ++ [d] ++ ys.drop i.toNat)) (o := .lst (ws.take i.toNat ++ [u2] ++ ws.drop i.toNat)) h3 fun G' H' t e => by
      have r := RpA.of g2 fun x hx => t x (List.mem_append_left _ hx)
      exact ⟨_, e, RpA.app (RpA.app (r.take _) (.cons (t (u2, d) (List.mem_append_right _ List.mem_cons_self)) .nil)) (r.drop _)⟩
    exact k _ _ ((A5.sub fun t ht => List.mem_append_right _ (List.mem_cons_of_mem _ (List.mem_cons_of_mem _ (List.mem_cons_of_mem _ ht)))).lit _)⟩

/-! ### written dicts -/
theorem ev_ixK {q : Addr} {z : Str} {v : V} (ha : EV X F ds M a (.ref q) M1) (hb : EV X F ds M1 b (.str z) M2) (h : KDct X.K X.w q z v) (hs : PlainIx b := by exact fun _ _ => rfl) : EV X F ds M (.Subscript a b pos) (.v v) M2 :=
  ix_op ix_kdict (fun ts σ H v1 v2 A Q k => let ⟨e1, e2, A'⟩ := A.two; ⟨q, z, v, e1, e2, h, k _ H (A'.lit _)⟩) ha hb hs
theorem et_inK {q : Addr} {z : Str} {es : Array DictEntry} {n : Nat} {r : Option Value} (Dd : KDict X.K X.w q es n) (hr : PySem.W.nsIn X.K q z = some r) (ha : EV X F ds M a (.str z) M1) (hb : EV X F ds M1 b (.ref q) M2) (hm : behindInMarks .In b = false := by rfl) : ET X F ds M (.Compare a [.In] [b] pos) r.isSome M2 :=
  et_cmp (op_in_kd Dd) (fun ts σ H v1 v2 A Q k => let ⟨e1, e2, A'⟩ := A.two; ⟨z, r, e1, e2, hr, k _ H (A'.lit _)⟩) ha hb hm
/-- list(t), t a written tuple of flat values -/
theorem ev_listK {q : Addr} {vs : List V} (hm : X.mg "list" = none) (ha : EV X F ds M e (.ref q) M1) (ht : ∀ H, SqT X.K H q vs) (hg : Gl X "list" := by rfl) (he : starEach [e] X.env = (false, eval e X.env) :: starEach [] X.env := by rfl) : EV X F ds M (.Call (.Name "list" p) [e] [] pos) (.lst (vs.map .v)) M1 :=
  ev_callTy call_list_of hm PyProof.Rows.boot_list (ea_cons ha ea_nil he) (fun ts σ H us hl A Q k => by
    obtain ⟨v, rfl⟩ := len1 hl
    exact ⟨q, vs, by rw [A.val List.mem_cons_self], .inr (ht H), fun r hr => k _ _ (((A.sub fun t ht => List.mem_cons_of_mem _ ht).alloc (d := .lst (vs.map .v)) hr fun G' r0 e0 => .lst e0 (RpA.vals _)))⟩) hg (he := he)
theorem ev_lenOwn {C : Addr} {ns : List Str} {xs : List D} {j : Nat} {Ct : Ctr} {n : Nat} (Fn : MF X.prog X.w X.K X.mg X.base C "__len__" j Ct) (hr : Room (j + 1) X.A) (hw : F.w = X.w) (hm : X.mg "len" = none) (ha : EV X F ds M e d1 M1) (hi : InsAt M1 d1 C ns xs) (hC : Ct [d1] [] (KD (.int n) [])) (hn : n ≤ 100000)
    (hg : Gl X "len" := by rfl) (he : starEach [e] X.env = (false, eval e X.env) :: starEach [] X.env := by rfl) : EV X F ds M (.Call (.Name "len" p) [e] [] pos) (.int n) M1 := by
  obtain ⟨f, fd, ps, hmt, fo, hb⟩ := Fn.ex
  refine ev_callB (cr_lenOwn hmt.at_ hmt.fn fo hb hr) hm PySem.boot_len (ea_cons ha ea_nil he) (fun ts σ H vs hl A Q q => ?_) hg (he := he)
  obtain ⟨v, rfl⟩ := len1 hl
  obtain ⟨a, dx, ws, rfl, h2, h3, h4, A2⟩ := A.insAt List.mem_cons_self hi
  obtain ⟨G, W, S, T, Cc⟩ := A.ex
  refine ⟨a, dx, _, rfl, h2, G, [d1], [], KD (.int n) [], W.le, .cons (T _ List.mem_cons_self) .nil, by rw [← hw]; exact Cc.part (List.Perm.refl ([] ++ M1)), hC, fun v H' ⟨d, Mo, G', ⟨e1, e2⟩, W', r, c'⟩ => ?_⟩
  subst e1 e2
  rw [← hw] at W' c'
  have B := At.back W S (fun t ht => T t (List.mem_cons_of_mem _ ht)) Cc (List.Perm.refl ([] ++ M1)) W' r c'
  exact ⟨n, r.val, by omega, by omega, q _ _ ((B.sub fun t ht => List.mem_cons_of_mem _ ht).lit _)⟩
end
end K23

set_option maxHeartbeats 4000000
/-! Statements, targets, loops, a def's body. -/
namespace K23
open PySem PySem.Spec PyProof.Rows L2

structure sB (X : Cx) (sts : List Stmt) (D : Ends) (σ : St) (H : Hp) : Prop where
  run : ∀ (pins : List (Addr × Obj)) (s : Shared), Inv X pins σ H s → wpAny (model X.prog X.w) X.A (execs sts X.env) (SP X pins D) X.xe s
theorem pss_b {X : Cx} {sts : List Stmt} : PSs X sts (sB X sts) := ⟨fun pins s _ _ _ I h => h.run pins s I⟩
theorem sB_of {X : Cx} {sts : List Stmt} {t : TS} (h : PSs X sts t) {D : Ends} {σ : St} {H : Hp} (q : t D σ H) : sB X sts D σ H := ⟨fun pins s I => h.run pins s σ H D I q⟩
theorem sB_cons {X : Cx} {st : Stmt} {rest : List Stmt} {t : TS} (h : PS X st t) {D : Ends} {σ : St} {H : Hp} (q : t { D with nx := sB X rest D } σ H) : sB X (st :: rest) D σ H := sB_of (pss_cons h pss_b) q
theorem sB_mono {X : Cx} {sts : List Stmt} {D D' : Ends} {σ : St} {H : Hp} (h : sB X sts D σ H) (h1 : ∀ σ H, D.nx σ H → D'.nx σ H) (h2 : ∀ v H, D.rt v H → D'.rt v H) (h3 : ∀ σ H, D.bk σ H → D'.bk σ H) (h4 : ∀ σ H, D.ct σ H → D'.ct σ H) : sB X sts D' σ H := ⟨fun pins s I => thn (h.run pins s I) fun f s' q => by
  cases f with
  | next => exact let ⟨a, b, c, d⟩ := q; ⟨a, b, c, h1 _ _ d⟩
  | brk => exact let ⟨a, b, c, d⟩ := q; ⟨a, b, c, h3 _ _ d⟩
  | cont => exact let ⟨a, b, c, d⟩ := q; ⟨a, b, c, h4 _ _ d⟩
  | ret u => exact let ⟨v, a, b, c, r, d⟩ := q; ⟨v, a, b, c, r, h2 _ _ d⟩⟩
structure sG (X : Cx) (tg : Expr) (v : V) (σ : St) (H : Hp) (Q : St → Hp → Prop) : Prop where
  run : ∀ (pins : List (Addr × Obj)) (s : Shared) (u : Value), Inv X pins σ H s → RelV v u → wpAny (model X.prog X.w) X.A (assign tg X.env u) (fun _ s' => ∃ σ' H', Inv X pins σ' H' s' ∧ Q σ' H') X.xe s
theorem pg_s {X : Cx} {tg : Expr} : PG X tg (sG X tg) := ⟨fun pins s _ _ _ u _ I r h => h.run pins s u I r⟩
theorem sG_of {X : Cx} {tg : Expr} {g : TG} (h : PG X tg g) {v : V} {σ : St} {H : Hp} {Q : St → Hp → Prop} (q : g v σ H Q) : sG X tg v σ H Q := ⟨fun pins s u I r => h.run pins s σ H v u Q I r q⟩

abbrev Slots := List (Option D)
def GB (X : Cx) (Dn : Ends) (F : Fm) (ts : List (V × D)) (ds : Slots) (M : Cells) (sts : List Stmt) : Prop := ∀ (σ : St) (H : Hp), At F ds M ts σ H → sB X sts Dn σ H
def AtI (F : Fm) (ts : List (V × D)) (I : Slots → Cells → Prop) : St → Hp → Prop := fun σ H => ∃ ds M, I ds M ∧ At F ds M ts σ H
def EG (X : Cx) (F : Fm) (ds : Slots) (M : Cells) (tg : Expr) (d : D) (ds' : Slots) : Prop :=
  ∀ (ts : List (V × D)) (σ : St) (H : Hp) (v : V), At F ds M ((v, d) :: ts) σ H → ∀ Q : St → Hp → Prop, (∀ σ' H', At F ds' M ts σ' H' → Q σ' H') → sG X tg v σ H Q
def EGs (F : Fm) (ds : Slots) (M : Cells) (g : TGs) (xs : List D) (ds' : Slots) : Prop :=
  ∀ (ts : List (V × D)) (σ : St) (H : Hp) (vs : List V), vs.length = xs.length → At F ds M (vs.zip xs ++ ts) σ H → ∀ Q : St → Hp → Prop, (∀ σ' H', At F ds' M ts σ' H' → Q σ' H') → g vs σ H Q
/-- what a body may count on -/
structure Good (X : Cx) : Prop where
  hp : PassesOwn (model X.prog X.w) X.A X.env X.xe
  hc : X.calm = true
  nd : X.N.Nodup

section
variable {X : Cx} {F : Fm} {ds ds' : Slots} {M M1 M2 M3 M' Mo N : Cells} {d d1 d2 d3 : D} {e a b c o tg iter value : Expr} {es : List Expr} {pos pos' apos p p2 : Pos} {x f m : Str} {K : D → Cells → Prop} {Dn : Ends} {ts : List (V × D)} {rest body els : List Stmt} {I : Slots → Cells → Prop}
theorem gb_nx (h : ∀ σ H, At F ds M ts σ H → Dn.nx σ H) : GB X Dn F ts ds M [] := fun σ H A => sB_of pss_nil (h σ H A)
/-- the end of a branch: what stands behind the if -/
theorem gb_end {Dm : Ends} (k : GB X Dm F ts ds' M rest) (hle : Le ds' ds) (hD : Dn.nx = sB X rest Dm := by rfl) : GB X Dn F ts ds M [] := gb_nx fun σ H A => by
  rw [hD]
  exact k σ H (A.le hle)
/-- the end of a turn -/
theorem gb_turn (hI : I ds' M) (hle : Le ds' ds) (hD : Dn.nx = AtI F ts I := by rfl) : GB X Dn F ts ds M [] := gb_nx fun σ H A => by
  rw [hD]
  exact ⟨ds', M, hI, A.le hle⟩
theorem gb_cont (hI : I ds' M) (hle : Le ds' ds) (hD : Dn.ct = AtI F ts I := by rfl) : GB X Dn F ts ds M (.Continue pos :: rest) := fun σ H A => sB_cons ps_continue (by
  show Dn.ct σ H
  rw [hD]
  exact ⟨ds', M, hI, A.le hle⟩)
theorem gb_break (hI : I ds' M) (hle : Le ds' ds) (hD : Dn.bk = AtI F ts I := by rfl) : GB X Dn F ts ds M (.Break pos :: rest) := fun σ H A => sB_cons ps_break (by
  show Dn.bk σ H
  rw [hD]
  exact ⟨ds', M, hI, A.le hle⟩)
theorem gb_le (hle : Le ds' ds) (k : GB X Dn F ts ds' M rest) : GB X Dn F ts ds M rest := fun σ H A => k σ H (A.le hle)
theorem gb_perm (hp : M.Perm M') (k : GB X Dn F ts ds M' rest) : GB X Dn F ts ds M rest := fun σ H A => k σ H (A.perm hp)
theorem gb_drop (k : GB X Dn F ts ds M rest) : GB X Dn F ts ds (M ++ N) rest := fun σ H A => k σ H A.drop
theorem gb_pass (k : GB X Dn F ts ds M rest) : GB X Dn F ts ds M (.Pass pos :: rest) := fun σ H A => sB_cons ps_pass (k σ H A)
/-! return -/
theorem ret_of {σ : St} {H : Hp} (A : At F ds M ts σ H) {v : V} (hm : (v, d) ∈ ts) (hk : K d Mo) (hp : M.Perm (Mo ++ N)) : RetP F K v H := by
  obtain ⟨G, w, s, t, c⟩ := ((A.perm hp).drop).ex
  exact ⟨d, Mo, G, hk, w, t _ hm, c⟩
theorem gb_retK {Kx : D → Cells → Prop} (he : EVK X F ds M e Kx) (hk : ∀ d M1, Kx d M1 → ∃ Mo N, K d Mo ∧ M1.Perm (Mo ++ N)) (hD : Dn.rt = RetP F K := by rfl) : GB X Dn F ts ds M (.Return (some e) pos :: rest) := fun σ H A => sB_cons (ps_ret pe_s) (he ts σ H A _ fun d M1 v H1 h1 A1 => by
  obtain ⟨Mo, N, h2, h3⟩ := hk d M1 h1
  show Dn.rt v H1
  rw [hD]
  exact ret_of A1 List.mem_cons_self h2 h3)
theorem gb_ret (he : EV X F ds M e d M1) (hk : K d Mo) (hp : M1.Perm (Mo ++ N)) (hD : Dn.rt = RetP F K := by rfl) : GB X Dn F ts ds M (.Return (some e) pos :: rest) :=
  gb_retK he.k (fun d' M2 h => by rw [h.1, h.2]; exact ⟨Mo, N, hk, hp⟩) hD
theorem gb_retN (hk : K .non Mo) (hp : M.Perm (Mo ++ N)) (hD : Dn.rt = RetP F K := by rfl) : GB X Dn F ts ds M (.Return none pos :: rest) := fun σ H A => sB_cons ps_retN (by
  show Dn.rt .non H
  rw [hD]
  exact ret_of (A.lit .non) List.mem_cons_self hk hp)
theorem gb_off (hk : K .non Mo) (hp : M.Perm (Mo ++ N)) (hD : Dn.nx = (fun _ H' => RetP F K .non H') := by rfl) : GB X Dn F ts ds M [] := gb_nx fun σ H A => by
  rw [hD]
  exact ret_of (A.lit .non) List.mem_cons_self hk hp
/-! plain statements -/
theorem gb_setK (g : Good X) (i : Nat) (he : EVK X F ds M e K) (k : ∀ d M1, K d M1 → GB X Dn F ts (ds.set i (some d)) M1 rest) (hi : X.N[i]? = some x := by rfl) (hx : Loc X.env.scope x := by first | exact Or.inl rfl | exact Or.inr rfl) (hs : swapsWith e (some (.Name x pos')) pos.line X.env = pure false := by rfl)
    (hf : X.fn x = true ∨ X.env.scope.names.lookup x = some .local := by first | exact .inl rfl | exact .inr rfl) : GB X Dn F ts ds M (.Assign [.Name x pos'] e pos :: rest) := fun σ H A => sB_cons (ps_set g.nd hi hx pe_s hs hf) (he ts σ H A _ fun d M1 v H1 h1 A1 => k d M1 h1 _ H1 ((A1.set List.mem_cons_self).sub fun t ht => List.mem_cons_of_mem _ ht))
theorem gb_set (g : Good X) (i : Nat) (he : EV X F ds M e d M1) (k : GB X Dn F ts (ds.set i (some d)) M1 rest) (hi : X.N[i]? = some x := by rfl) (hx : Loc X.env.scope x := by first | exact Or.inl rfl | exact Or.inr rfl) (hs : swapsWith e (some (.Name x pos')) pos.line X.env = pure false := by rfl)
    (hf : X.fn x = true ∨ X.env.scope.names.lookup x = some .local := by first | exact .inl rfl | exact .inr rfl) : GB X Dn F ts ds M (.Assign [.Name x pos'] e pos :: rest) := gb_setK g i he.k (fun d' M2 h => by rw [h.1, h.2]; exact k) hi hx hs hf
theorem gb_exprK (he : EVK X F ds M e K) (k : ∀ d M1, K d M1 → GB X Dn F ts ds M1 rest) (hs : swapsWith e none pos.line X.env = pure false := by rfl) : GB X Dn F ts ds M (.Expr e pos :: rest) := fun σ H A => sB_cons (ps_expr pe_s hs) (he ts σ H A _ fun d M1 v H1 h1 A1 => k d M1 h1 _ H1 (A1.sub fun t ht => List.mem_cons_of_mem _ ht))
theorem gb_expr (he : EV X F ds M e d M1) (k : GB X Dn F ts ds M1 rest) (hs : swapsWith e none pos.line X.env = pure false := by rfl) : GB X Dn F ts ds M (.Expr e pos :: rest) := gb_exprK he.k (fun d' M2 h => by rw [h.2]; exact k) hs
theorem gb_aug (g : Good X) (i : Nat) {n m : Int} (he : EV X F ds M e (.int m) M1) (k : GB X Dn F ts (ds.set i (some (.int (n + m)))) M1 rest) (hd : ds[i]? = some (some (.int n)) := by rfl) (hi : X.N[i]? = some x := by rfl) (hx : Loc X.env.scope x := by first | exact Or.inl rfl | exact Or.inr rfl)
    (hf : X.fn x = true ∨ X.env.scope.names.lookup x = some .local := by first | exact .inl rfl | exact .inr rfl) : GB X Dn F ts ds M (.AugAssign (.Name x pos') .Add e pos :: rest) := fun σ H A => sB_cons (ps_aug g.nd hi hx pe_s ip_add hf) (by
  obtain ⟨v, h1, A0⟩ := A.slot hd
  have e1 := A0.val List.mem_cons_self
  subst e1
  exact ⟨_, h1, he ts σ H A _ fun u H1 A1 => ⟨n, m, rfl, A1.val List.mem_cons_self, k _ H1 ((A1.lit (.int (n + m))).set List.mem_cons_self |>.sub fun t ht => List.mem_cons_of_mem _ (List.mem_cons_of_mem _ ht))⟩⟩)
theorem gb_if {t : Bool} (h : ET X F ds M c t M1) (h1 : t = true → GB X { Dn with nx := sB X rest Dn } F ts ds M1 body) (h2 : t = false → GB X { Dn with nx := sB X rest Dn } F ts ds M1 els) : GB X Dn F ts ds M (.If c body els pos :: rest) := fun σ H A => sB_cons (ps_if pt_s pss_b pss_b) (h ts σ H A _ fun H1 A1 => by
  cases t with
  | true => exact h1 rfl σ H1 A1
  | false => exact h2 rfl σ H1 A1)
/-- an if without else -/
theorem gb_when {t : Bool} (h : ET X F ds M c t M1) (h1 : t = true → GB X { Dn with nx := sB X rest Dn } F ts ds M1 body) (h2 : t = false → GB X Dn F ts ds M1 rest) : GB X Dn F ts ds M (.If c body [] pos :: rest) := gb_if h h1 fun ht => gb_end (h2 ht) (Le.refl _)
/-! attributes and items stored -/
theorem gb_fldNewK {C q : Addr} {ns : List Str} {xs : List D} {j : Nat} (cl : Cls X.K C) (n : NoAttr X.K C f) (hv : EVK X F ds M value K) (ho : ∀ d M1, K d M1 → EV X F ds M1 o (.ref q) M1 ∧ M1[j]? = some (q, .ins C ns xs)) (k : ∀ d M1, K d M1 → GB X Dn F ts ds (M1.set j (q, .ins C (ns ++ [f]) (xs ++ [d]))) rest)
    (hf : fix f ns = none := by decide +kernel) (hl : ns.length < 1000 := by decide) (hs : swapsWith value (some (.Attribute o f pos')) pos.line X.env = pure false := by rfl) : GB X Dn F ts ds M (.Assign [.Attribute o f pos'] value pos :: rest) := fun σ H A => sB_cons (ps_fld pe_s pe_s hs) (hv ts σ H A _ fun d M1 u H1 h1 A1 => by
  obtain ⟨ho1, hj⟩ := ho d M1 h1
  refine ho1 _ σ H1 A1 _ fun w H2 A2 => ?_
  obtain ⟨dx, vs, e2, l1, l2, A3⟩ := A2.cellI hj
  refine ⟨q, C, dx, _, A2.val List.mem_cons_self, e2, cl, n, by rw [List.length_zip]; omega, k d M1 h1 σ _ ?_⟩
  rw [put_new (l1.trans l2.symm) hf]
  exact (A3.write (d := .ins C (ns ++ [f]) (xs ++ [d])) hj fun G' H' t e => ⟨dx, _, e, by rw [List.length_append, List.length_append, l1]; rfl, RpA.app (RpA.of l2 fun x hx => t x (List.mem_append_left _ hx)) (.cons (t (u, d) (List.mem_append_right _ (List.mem_cons_of_mem _ List.mem_cons_self))) .nil)⟩).sub fun t ht => List.mem_append_right _ (List.mem_cons_of_mem _ (List.mem_cons_of_mem _ ht)))
theorem gb_fldNew {C q : Addr} {ns : List Str} {xs : List D} {j : Nat} (cl : Cls X.K C) (n : NoAttr X.K C f) (hv : EV X F ds M value d M1) (ho : EV X F ds M1 o (.ref q) M1) (k : GB X Dn F ts ds (M1.set j (q, .ins C (ns ++ [f]) (xs ++ [d]))) rest) (hj : M1[j]? = some (q, .ins C ns xs) := by rfl)
    (hf : fix f ns = none := by decide +kernel) (hl : ns.length < 1000 := by decide) (hs : swapsWith value (some (.Attribute o f pos')) pos.line X.env = pure false := by rfl) : GB X Dn F ts ds M (.Assign [.Attribute o f pos'] value pos :: rest) :=
  gb_fldNewK (j := j) cl n hv.k (fun d' M2 h => by rw [h.2]; exact ⟨ho, hj⟩) (fun d' M2 h => by rw [h.1, h.2]; exact k) hf hl hs
theorem gb_fldOld {C q : Addr} {ns : List Str} {xs : List D} {j i : Nat} (cl : Cls X.K C) (n : NoAttr X.K C f) (hv : EV X F ds M value d M1) (ho : EV X F ds M1 o (.ref q) M1) (k : GB X Dn F ts ds (M1.set j (q, .ins C ns (xs.set i d))) rest) (hj : M1[j]? = some (q, .ins C ns xs) := by rfl)
    (hf : fix f ns = some i := by decide +kernel) (hl : ns.length < 1000 := by decide) (hs : swapsWith value (some (.Attribute o f pos')) pos.line X.env = pure false := by rfl) : GB X Dn F ts ds M (.Assign [.Attribute o f pos'] value pos :: rest) := fun σ H A => sB_cons (ps_fld pe_s pe_s hs) (hv ts σ H A _ fun u H1 A1 => ho _ σ H1 A1 _ fun w H2 A2 => by
  obtain ⟨dx, vs, e2, l1, l2, A3⟩ := A2.cellI hj
  refine ⟨q, C, dx, _, A2.val List.mem_cons_self, e2, cl, n, by rw [List.length_zip]; omega, k σ _ ?_⟩
  rw [put_old (l1.trans l2.symm) hf]
  exact (A3.write (d := .ins C ns (xs.set i d)) hj fun G' H' t e => ⟨dx, _, e, by rw [List.length_set]; exact l1, RpA.set (t (u, d) (List.mem_append_right _ (List.mem_cons_of_mem _ List.mem_cons_self))) _ (RpA.of l2 fun x hx => t x (List.mem_append_left _ hx))⟩).sub fun t ht => List.mem_append_right _ (List.mem_cons_of_mem _ (List.mem_cons_of_mem _ ht)))
theorem gb_fldAdd {C q : Addr} {ns : List Str} {xs : List D} {j i : Nat} {n1 m1 : Int} (cl : Cls X.K C) (n : NoAttr X.K C f) (ho : EV X F ds M o (.ref q) M) (hv : EV X F ds M value (.int m1) M) (k : GB X Dn F ts ds (M.set j (q, .ins C ns (xs.set i (.int (n1 + m1))))) rest) (hj : M[j]? = some (q, .ins C ns xs) := by rfl)
    (hf : fix f ns = some i := by decide +kernel) (hx : xs[i]? = some (.int n1) := by rfl) (hl : ns.length < 1000 := by decide) : GB X Dn F ts ds M (.AugAssign (.Attribute o f apos) .Add value pos :: rest) := fun σ H A => sB_cons (ps_fldaug pe_s pe_s in_add) (ho ts σ H A _ fun w H1 A1 => by
  obtain ⟨dx, vs, e2, l1, l2, A3⟩ := A1.cellI hj
  have hi : i < vs.length := by rw [l2]; exact (List.getElem?_eq_some_iff.mp hx).1
  have hv1 : vs[i] = .int n1 := A3.val (List.mem_append_left _ (zip_mem (List.getElem?_eq_getElem hi) hx))
  refine ⟨q, C, dx, _, .int n1, A1.val List.mem_cons_self, e2, cl, n, ?_, ?_⟩
  · rw [look_zip f (l1.trans l2.symm), hf]
    show vs[i]? = _
    rw [List.getElem?_eq_getElem hi, hv1]
  refine hv _ σ H1 A1 _ fun u H2 A2 => ⟨n1, m1, rfl, A2.val List.mem_cons_self, ?_⟩
  obtain ⟨dx', vs', e3, k1, k2, A4⟩ := A2.cellI hj
  refine ⟨dx', _, e3, by rw [List.length_zip]; omega, k σ _ ?_⟩
  rw [put_old (k1.trans k2.symm) hf]
  exact (A4.write (d := .ins C ns (xs.set i (.int (n1 + m1)))) hj fun G' H' t e => ⟨dx', _, e, by rw [List.length_set]; exact k1, RpA.set (.v _) _ (RpA.of k2 fun x hx => t x (List.mem_append_left _ hx))⟩).sub fun t ht => List.mem_append_right _ (List.mem_cons_of_mem _ (List.mem_cons_of_mem _ ht)))
theorem gb_item {q : Addr} {xs : List D} {j i : Nat} {n : Int} {ix : Expr} (he : EV X F ds M e d M1) (ho : EV X F ds M1 o (.ref q) M2) (hi : EV X F ds M2 ix (.int n) M3) (hj : M3[j]? = some (q, .lst xs)) (hn : ixN xs.length n = some i) (k : GB X Dn F ts ds (M3.set j (q, .lst (xs.set i d))) rest)
    (ha : ∀ v, assign (.Subscript o ix pos') X.env v = (do
      let ov ← holding [v] (eval o X.env)
      let iv ← holding [v, ov] (eval ix X.env)
      standAt pos'
      holding [v, ov, iv] (setItem ov iv v)
      release [v, ov, iv] []) := by intro _; rfl) (hs : swapsWithSole [.Subscript o ix pos'] e pos.line X.env = pure false := by rfl) (hw : swappedStores [.Subscript o ix pos'] e X.env = pure none := by rfl)
    (h1 : (assignEach [.Subscript o ix pos'] X.env).map (·.2) = [assign (.Subscript o ix pos') X.env] := by rfl) : GB X Dn F ts ds M (.Assign [.Subscript o ix pos'] e pos :: rest) := fun σ H A => sB_cons (ps_asg pe_s (pg_sub pe_s pe_s set_list ha) hs hw h1) (he ts σ H A _ fun v H1 A1 => ho _ σ H1 A1 _ fun u H2 A2 => hi _ σ H2 A2 _ fun z H3 A3 => by
  obtain ⟨vs, e1, l1, A4⟩ := A3.cellL hj
  refine ⟨q, vs, n, i, A3.val (List.mem_cons_of_mem _ List.mem_cons_self), A3.val List.mem_cons_self, e1, by rw [l1]; exact hn, k σ _ ?_⟩
  exact (A4.write (d := .lst (xs.set i d)) hj fun G' H' t e => ⟨_, e, RpA.set (t (v, d) (List.mem_append_right _ (List.mem_cons_of_mem _ (List.mem_cons_of_mem _ List.mem_cons_self)))) _ (RpA.of l1 fun x hx => t x (List.mem_append_left _ hx))⟩).sub fun t ht => List.mem_append_right _ (List.mem_cons_of_mem _ (List.mem_cons_of_mem _ (List.mem_cons_of_mem _ ht))))
/-- d[t] = value: the key a nested tuple that is not there yet -/
def rSetN (w : World) : TSet := fun o i v H Q => ∃ (G : Hp) (a b : Addr) (xs : List D) (x : V) (d : D), o = .ref a ∧ i = .ref b ∧ v = x ∧ Same G H ∧ NdAt w G H a xs x ∧ xs.length < 100000 ∧ Rp G (.ref b) d ∧ okN d = true ∧ (toN d).depth ≤ 8 ∧ toN d ∉ xs.map toN ∧
  ∀ o', (∀ G' H', Same G G' → H' a = some o' → NdAt w G' H' a (xs ++ [d]) x) → Q (upd H a o')
theorem set_nd (hu : X.A.units + 64 < cLine) : PSet X (rSetN X.w) := by
  intro pins s σ H o i v ov iv u Q I ro ri rv h
  obtain ⟨G, a, b, xs, x, d, rfl, rfl, rfl, sg, hn, hz, hr, h1, h2, h3, q⟩ := h
  cases ro
  cases ri
  exact nd_put hu I sg hn hz hr h1 h2 h3 rv fun s' o' I' hc => ⟨_, I', q o' hc⟩
theorem gb_itemN {q : Addr} {xs ys : List D} {x : V} {j : Nat} {ix : Expr} (hu : X.A.units + 64 < cLine) (hwd : F.w = X.w) (he : EV X F ds M e (.v x) M1) (ho : EV X F ds M1 o (.ref q) M2) (hi : EV X F ds M2 ix (.tup ys) M3) (hj : M3[j]? = some (q, .nd xs x)) (hz : xs.length < 100000)
    (h3 : okN (.tup ys) = true) (h4 : (toN (.tup ys)).depth ≤ 8) (h5 : toN (.tup ys) ∉ xs.map toN) (k : GB X Dn F ts ds (M3.set j (q, .nd (xs ++ [.tup ys]) x)) rest)
    (ha : ∀ v, assign (.Subscript o ix pos') X.env v = (do
      let ov ← holding [v] (eval o X.env)
      let iv ← holding [v, ov] (eval ix X.env)
      standAt pos'
      holding [v, ov, iv] (setItem ov iv v)
      release [v, ov, iv] []) := by intro _; rfl) (hs : swapsWithSole [.Subscript o ix pos'] e pos.line X.env = pure false := by rfl) (hw : swappedStores [.Subscript o ix pos'] e X.env = pure none := by rfl)
    (h1 : (assignEach [.Subscript o ix pos'] X.env).map (·.2) = [assign (.Subscript o ix pos') X.env] := by rfl) : GB X Dn F ts ds M (.Assign [.Subscript o ix pos'] e pos :: rest) := fun σ H A => sB_cons (ps_asg pe_s (pg_sub pe_s pe_s (set_nd hu) ha) hs hw h1) (he ts σ H A _ fun v H1 A1 => ho _ σ H1 A1 _ fun u H2 A2 => hi _ σ H2 A2 _ fun z H3 A3 => by
  obtain ⟨G, W, S, T, C⟩ := A3.ex
  have hr := T _ List.mem_cons_self
  obtain ⟨b, rfl⟩ := ref_of hr
  obtain ⟨g1, g2, g3⟩ := C.ok _ (List.mem_of_getElem? hj)
  have hn0 : NdAt F.w G H3 q xs x := g2
  refine ⟨G, q, b, xs, x, .tup ys, A3.val (List.mem_cons_of_mem _ List.mem_cons_self), rfl, A3.val (List.mem_cons_of_mem _ (List.mem_cons_of_mem _ List.mem_cons_self)), W.le, by rw [← hwd]; exact hn0, hz, hr, h3, h4, h5, fun o' ho' => k σ _ ?_⟩
  exact (At.write2 (d := .nd (xs ++ [.tup ys]) x) W S T C hj fun H' e => by rw [hwd]; exact ho' G H' (Same.refl _) e).sub fun t ht => List.mem_cons_of_mem _ (List.mem_cons_of_mem _ (List.mem_cons_of_mem _ ht)))
end
end K23

set_option maxHeartbeats 4000000
/-! Targets, loops, a def's body. -/
namespace K23
open PySem PySem.Spec PyProof.Rows L2

section
variable {X : Cx} {F : Fm} {ds ds' ds1 ds2 : Slots} {M M1 M2 M3 M' Mo N : Cells} {d d1 d2 d3 : D} {e a b c o tg iter value : Expr} {es : List Expr} {pos pos' apos p p2 : Pos} {x f m : Str} {K : D → Cells → Prop} {Dn : Ends} {ts : List (V × D)} {rest body els : List Stmt} {I : Slots → Cells → Prop}
/-! ### targets -/
theorem eg_n (g : Good X) (i : Nat) (hi : X.N[i]? = some x := by rfl) (hx : Loc X.env.scope x := by first | exact Or.inl rfl | exact Or.inr rfl) (hf : X.fn x = true ∨ X.env.scope.names.lookup x = some .local := by first | exact .inl rfl | exact .inr rfl) : EG X F ds M (.Name x pos) d (ds.set i (some d)) :=
  fun ts σ H v A Q k => sG_of (pg_name g.nd hi hx hf) (k _ H ((A.set List.mem_cons_self).sub fun t ht => List.mem_cons_of_mem _ ht))
/-- a name that is not asked again -/
theorem eg_x (g : Good X) (i : Nat) (hi : X.N[i]? = some x := by rfl) (hx : Loc X.env.scope x := by first | exact Or.inl rfl | exact Or.inr rfl) (hf : X.fn x = true ∨ X.env.scope.names.lookup x = some .local := by first | exact .inl rfl | exact .inr rfl) : EG X F ds M (.Name x pos) d (ds.set i none) :=
  fun ts σ H v A Q k => sG_of (pg_name g.nd hi hx hf) (k _ H ((A.sub fun t ht => List.mem_cons_of_mem _ ht).unset))
theorem egs_nil : EGs F ds M gNil [] ds := fun ts σ H vs hl A Q k => by
  cases vs with
  | nil => exact ⟨rfl, k σ H A⟩
  | cons v vs => simp at hl
theorem egs_cons {g : TG} {gs : TGs} {xs : List D} (h1 : ∀ (ts : List (V × D)) (σ : St) (H : Hp) (v : V), At F ds M ((v, d) :: ts) σ H → ∀ Q : St → Hp → Prop, (∀ σ' H', At F ds1 M ts σ' H' → Q σ' H') → g v σ H Q) (h2 : EGs F ds1 M gs xs ds2) : EGs F ds M (gCons g gs) (d :: xs) ds2 := fun ts σ H vs hl A Q k => by
  cases vs with
  | nil => simp at hl
  | cons v vs => exact ⟨v, vs, rfl, h1 (vs.zip xs ++ ts) σ H v A _ fun σ' H' A' => h2 ts σ' H' vs (by simpa using hl) A' Q k⟩
theorem eg_t2 (g : Good X) {t1 t2 : Expr} {k : Nat} (h1 : EG X F ds M t1 d1 ds1) (h2 : EG X F ds1 M t2 d2 ds2) (hn : (assignEach [t1, t2] X.env).length = 2 := by rfl) (hst : (assignEach [t1, t2] X.env).findIdx? (·.1) = none := by rfl)
    (hs : (assignEach (t1 :: [t2]) X.env).map (·.2) = assign t1 X.env :: (assignEach [t2] X.env).map (·.2) := by rfl) (hs2 : (assignEach (t2 :: []) X.env).map (·.2) = assign t2 X.env :: (assignEach [] X.env).map (·.2) := by rfl) : EG X F ds M (.Tuple [t1, t2] k pos) (.tup [d1, d2]) ds2 :=
  fun ts σ H v A Q q => sG_of (pg_tup (n := 2) g.hc (pgs_cons pg_s (pgs_cons pg_s pgs_nil hs2) hs) hn hst) (by
    obtain ⟨a, vs, e1, e2, l, A2⟩ := A.openT List.mem_cons_self
    refine ⟨a, vs, e1, .inl (.inl e2), l, egs_cons h1 (egs_cons h2 egs_nil) ts σ H vs l (A2.sub fun t ht => ?_) Q q⟩
    rcases List.mem_append.mp ht with z | z
    · exact List.mem_append_left _ z
    · exact List.mem_append_right _ (List.mem_cons_of_mem _ z))
theorem eg_t3 (g : Good X) {t1 t2 t3 : Expr} {k : Nat} {ds3 : Slots} (h1 : EG X F ds M t1 d1 ds1) (h2 : EG X F ds1 M t2 d2 ds2) (h3 : EG X F ds2 M t3 d3 ds3) (hn : (assignEach [t1, t2, t3] X.env).length = 3 := by rfl) (hst : (assignEach [t1, t2, t3] X.env).findIdx? (·.1) = none := by rfl)
    (hs : (assignEach (t1 :: [t2, t3]) X.env).map (·.2) = assign t1 X.env :: (assignEach [t2, t3] X.env).map (·.2) := by rfl) (hs2 : (assignEach (t2 :: [t3]) X.env).map (·.2) = assign t2 X.env :: (assignEach [t3] X.env).map (·.2) := by rfl) (hs3 : (assignEach (t3 :: []) X.env).map (·.2) = assign t3 X.env :: (assignEach [] X.env).map (·.2) := by rfl) :
    EG X F ds M (.Tuple [t1, t2, t3] k pos) (.tup [d1, d2, d3]) ds3 :=
  fun ts σ H v A Q q => sG_of (pg_tup (n := 3) g.hc (pgs_cons pg_s (pgs_cons pg_s (pgs_cons pg_s pgs_nil hs3) hs2) hs) hn hst) (by
    obtain ⟨a, vs, e1, e2, l, A2⟩ := A.openT List.mem_cons_self
    refine ⟨a, vs, e1, .inl (.inl e2), l, egs_cons h1 (egs_cons h2 (egs_cons h3 egs_nil)) ts σ H vs l (A2.sub fun t ht => ?_) Q q⟩
    rcases List.mem_append.mp ht with z | z
    · exact List.mem_append_left _ z
    · exact List.mem_append_right _ (List.mem_cons_of_mem _ z))
theorem eg_t4 (g : Good X) {t1 t2 t3 t4 : Expr} {d4 : D} {k : Nat} {ds3 ds4 : Slots} (h1 : EG X F ds M t1 d1 ds1) (h2 : EG X F ds1 M t2 d2 ds2) (h3 : EG X F ds2 M t3 d3 ds3) (h4 : EG X F ds3 M t4 d4 ds4) (hn : (assignEach [t1, t2, t3, t4] X.env).length = 4 := by rfl) (hst : (assignEach [t1, t2, t3, t4] X.env).findIdx? (·.1) = none := by rfl)
    (hs : (assignEach (t1 :: [t2, t3, t4]) X.env).map (·.2) = assign t1 X.env :: (assignEach [t2, t3, t4] X.env).map (·.2) := by rfl) (hs2 : (assignEach (t2 :: [t3, t4]) X.env).map (·.2) = assign t2 X.env :: (assignEach [t3, t4] X.env).map (·.2) := by rfl)
    (hs3 : (assignEach (t3 :: [t4]) X.env).map (·.2) = assign t3 X.env :: (assignEach [t4] X.env).map (·.2) := by rfl) (hs4 : (assignEach (t4 :: []) X.env).map (·.2) = assign t4 X.env :: (assignEach [] X.env).map (·.2) := by rfl) :
    EG X F ds M (.Tuple [t1, t2, t3, t4] k pos) (.tup [d1, d2, d3, d4]) ds4 :=
  fun ts σ H v A Q q => sG_of (pg_tup (n := 4) g.hc (pgs_cons pg_s (pgs_cons pg_s (pgs_cons pg_s (pgs_cons pg_s pgs_nil hs4) hs3) hs2) hs) hn hst) (by
    obtain ⟨a, vs, e1, e2, l, A2⟩ := A.openT List.mem_cons_self
    refine ⟨a, vs, e1, .inl (.inl e2), l, egs_cons h1 (egs_cons h2 (egs_cons h3 (egs_cons h4 egs_nil))) ts σ H vs l (A2.sub fun t ht => ?_) Q q⟩
    rcases List.mem_append.mp ht with z | z
    · exact List.mem_append_left _ z
    · exact List.mem_append_right _ (List.mem_cons_of_mem _ z))
theorem eg_l2 (g : Good X) {t1 t2 : Expr} {k : Nat} (h1 : EG X F ds M t1 d1 ds1) (h2 : EG X F ds1 M t2 d2 ds2) (hn : (assignEach [t1, t2] X.env).length = 2 := by rfl) (hst : (assignEach [t1, t2] X.env).findIdx? (·.1) = none := by rfl)
    (hs : (assignEach (t1 :: [t2]) X.env).map (·.2) = assign t1 X.env :: (assignEach [t2] X.env).map (·.2) := by rfl) (hs2 : (assignEach (t2 :: []) X.env).map (·.2) = assign t2 X.env :: (assignEach [] X.env).map (·.2) := by rfl) : EG X F ds M (.Tuple [t1, t2] k pos) (.lst [d1, d2]) ds2 :=
  fun ts σ H v A Q q => sG_of (pg_unl (n := 2) g.hc (pgs_cons pg_s (pgs_cons pg_s pgs_nil hs2) hs) hn hst) (by
    obtain ⟨a, vs, e1, e2, l, A2⟩ := A.openL List.mem_cons_self
    refine ⟨a, vs, e1, SqL.of e2, l, egs_cons h1 (egs_cons h2 egs_nil) ts σ H vs l (A2.sub fun t ht => ?_) Q q⟩
    rcases List.mem_append.mp ht with z | z
    · exact List.mem_append_left _ z
    · exact List.mem_append_right _ (List.mem_cons_of_mem _ z))
theorem eg_l3 (g : Good X) {t1 t2 t3 : Expr} {k : Nat} {ds3 : Slots} (h1 : EG X F ds M t1 d1 ds1) (h2 : EG X F ds1 M t2 d2 ds2) (h3 : EG X F ds2 M t3 d3 ds3) (hn : (assignEach [t1, t2, t3] X.env).length = 3 := by rfl) (hst : (assignEach [t1, t2, t3] X.env).findIdx? (·.1) = none := by rfl)
    (hs : (assignEach (t1 :: [t2, t3]) X.env).map (·.2) = assign t1 X.env :: (assignEach [t2, t3] X.env).map (·.2) := by rfl) (hs2 : (assignEach (t2 :: [t3]) X.env).map (·.2) = assign t2 X.env :: (assignEach [t3] X.env).map (·.2) := by rfl) (hs3 : (assignEach (t3 :: []) X.env).map (·.2) = assign t3 X.env :: (assignEach [] X.env).map (·.2) := by rfl) :
    EG X F ds M (.Tuple [t1, t2, t3] k pos) (.lst [d1, d2, d3]) ds3 :=
  fun ts σ H v A Q q => sG_of (pg_unl (n := 3) g.hc (pgs_cons pg_s (pgs_cons pg_s (pgs_cons pg_s pgs_nil hs3) hs2) hs) hn hst) (by
    obtain ⟨a, vs, e1, e2, l, A2⟩ := A.openL List.mem_cons_self
    refine ⟨a, vs, e1, SqL.of e2, l, egs_cons h1 (egs_cons h2 (egs_cons h3 egs_nil)) ts σ H vs l (A2.sub fun t ht => ?_) Q q⟩
    rcases List.mem_append.mp ht with z | z
    · exact List.mem_append_left _ z
    · exact List.mem_append_right _ (List.mem_cons_of_mem _ z))
theorem gb_asg (he : EV X F ds M e d M1) (hg : EG X F ds M1 tg d ds') (k : GB X Dn F ts ds' M1 rest) (hs : swapsWithSole [tg] e pos.line X.env = pure false := by rfl) (hw : swappedStores [tg] e X.env = pure none := by rfl) (h1 : (assignEach [tg] X.env).map (·.2) = [assign tg X.env] := by rfl) : GB X Dn F ts ds M (.Assign [tg] e pos :: rest) :=
  fun σ H A => sB_cons (ps_asg pe_s pg_s hs hw h1) (he ts σ H A _ fun v H1 A1 => hg ts σ H1 v A1 _ fun σ' H' A' => k σ' H' A')

/-! ### loops -/
abbrev LoopE (F : Fm) (ts : List (V × D)) (I J : Slots → Cells → Prop) (Dn : Ends) : Ends := { nx := AtI F ts I, ct := AtI F ts I, bk := AtI F ts J, rt := Dn.rt }
theorem gb_for (g : Good X) {xs : List D} (he : EV X F ds M iter (.lst xs) M1) (I : Nat → Slots → Cells → Prop) (J : Slots → Cells → Prop) (h0 : I 0 ds M1)
    (hs : ∀ ts' i x ds' M', xs[i]? = some x → I i ds' M' → ∃ ds'', EG X F ds' M' tg x ds'' ∧ GB X (LoopE F ts' (I (i + 1)) J Dn) F ts' ds'' M' body) (hd : ∀ ds' M', I xs.length ds' M' → J ds' M') (k : ∀ ds' M', J ds' M' → GB X Dn F ts ds' M' rest)
    (hf : ∀ x, foldedSetIterable iter X.env x = pure x := by intro _; rfl) : GB X Dn F ts ds M (.For tg iter body [] pos :: rest) := fun σ H A => sB_cons (ps_for g.hp g.hc (pi_list pe_s) pg_s pss_b hf) (he ts σ H A _ fun v H1 A1 => by
  obtain ⟨a, vs, e1, e2, l, _⟩ := A1.openL List.mem_cons_self
  refine ⟨a, e1, ⟨vs, SqL.of e2⟩, fun i m σ' H' => m = xs.length - i ∧ i ≤ xs.length ∧ AtI F ((v, .lst xs) :: ts) (I i) σ' H', ⟨_, rfl, Nat.zero_le _, ds, M1, h0, A1⟩, ?_⟩
  rintro i m σ' H' ⟨rfl, hi, ds', M', hI, A'⟩
  obtain ⟨a', vs', f1, f2, l', A2⟩ := A'.openL List.mem_cons_self
  have ea : a' = a := by
    rw [e1] at f1
    cases f1
    rfl
  subst ea
  by_cases h : i < xs.length
  · obtain ⟨x, hx⟩ : ∃ x, xs[i]? = some x := ⟨_, List.getElem?_eq_getElem h⟩
    obtain ⟨ds'', h1, h2⟩ := hs ((v, .lst xs) :: ts) i x ds' M' hx hI
    refine .inr ⟨⟨vs', vs'[i]'(by omega), SqL.of f2, List.getElem?_eq_getElem (by omega)⟩, fun σ2 H2 => AtI F ((v, .lst xs) :: ts) (I (i + 1)) σ2 H2, fun σ2 H2 n => ⟨_, by omega, rfl, h, n⟩, fun u H3 ⟨e3, e4⟩ => ?_⟩
    subst e3
    have hu := e4 _ (SqL.of f2)
    refine h1 ((v, .lst xs) :: ts) σ' H3 u (A2.sub fun t ht => ?_) _ fun σ2 H2 B => sB_mono (h2 σ2 H2 B) (fun _ _ z => z) (fun _ _ z => z) (fun σ3 H4 ⟨ds3, M3, j, B3⟩ => k ds3 M3 j σ3 H4 (B3.sub fun t ht => List.mem_cons_of_mem _ ht)) (fun _ _ z => z)
    rcases List.mem_cons.mp ht with z | z
    · rw [z]; exact List.mem_append_left _ (zip_mem hu hx)
    · exact List.mem_append_right _ z
  · have hlen : i = xs.length := by omega
    subst hlen
    exact .inl ⟨⟨vs', SqL.of f2, by omega⟩, k ds' M' (hd ds' M' hI) σ' H' (A'.sub fun t ht => List.mem_cons_of_mem _ ht)⟩)
/-- over a tuple -/
theorem gb_forT (g : Good X) {xs : List D} (he : EV X F ds M iter (.tup xs) M1) (I : Nat → Slots → Cells → Prop) (J : Slots → Cells → Prop) (h0 : I 0 ds M1)
    (hs : ∀ ts' i x ds' M', xs[i]? = some x → I i ds' M' → ∃ ds'', EG X F ds' M' tg x ds'' ∧ GB X (LoopE F ts' (I (i + 1)) J Dn) F ts' ds'' M' body) (hd : ∀ ds' M', I xs.length ds' M' → J ds' M') (k : ∀ ds' M', J ds' M' → GB X Dn F ts ds' M' rest)
    (hf : ∀ x, foldedSetIterable iter X.env x = pure x := by intro _; rfl) : GB X Dn F ts ds M (.For tg iter body [] pos :: rest) := fun σ H A => sB_cons (ps_for g.hp g.hc (pi_tup pe_s) pg_s pss_b hf) (he ts σ H A _ fun v H1 A1 => by
  obtain ⟨a, vs, e1, e2, l, _⟩ := A1.openT List.mem_cons_self
  refine ⟨a, e1, ⟨vs, .inl (.inl e2)⟩, fun i m σ' H' => m = xs.length - i ∧ i ≤ xs.length ∧ AtI F ((v, .tup xs) :: ts) (I i) σ' H', ⟨_, rfl, Nat.zero_le _, ds, M1, h0, A1⟩, ?_⟩
  rintro i m σ' H' ⟨rfl, hi, ds', M', hI, A'⟩
  obtain ⟨a', vs', f1, f2, l', A2⟩ := A'.openT List.mem_cons_self
  have ea : a' = a := by
    rw [e1] at f1
    cases f1
    rfl
  subst ea
  by_cases h : i < xs.length
  · obtain ⟨x, hx⟩ : ∃ x, xs[i]? = some x := ⟨_, List.getElem?_eq_getElem h⟩
    obtain ⟨ds'', h1, h2⟩ := hs ((v, .tup xs) :: ts) i x ds' M' hx hI
    refine .inr ⟨⟨vs', vs'[i]'(by omega), .inl (.inl f2), List.getElem?_eq_getElem (by omega)⟩, fun σ2 H2 => AtI F ((v, .tup xs) :: ts) (I (i + 1)) σ2 H2, fun σ2 H2 n => ⟨_, by omega, rfl, h, n⟩, fun u H3 ⟨e3, e4⟩ => ?_⟩
    subst e3
    have hu := e4 _ (.inl (.inl f2))
    refine h1 ((v, .tup xs) :: ts) σ' H3 u (A2.sub fun t ht => ?_) _ fun σ2 H2 B => sB_mono (h2 σ2 H2 B) (fun _ _ z => z) (fun _ _ z => z) (fun σ3 H4 ⟨ds3, M3, j, B3⟩ => k ds3 M3 j σ3 H4 (B3.sub fun t ht => List.mem_cons_of_mem _ ht)) (fun _ _ z => z)
    rcases List.mem_cons.mp ht with z | z
    · rw [z]; exact List.mem_append_left _ (zip_mem hu hx)
    · exact List.mem_append_right _ z
  · have hlen : i = xs.length := by omega
    subst hlen
    exact .inl ⟨⟨vs', .inl (.inl f2), by omega⟩, k ds' M' (hd ds' M' hI) σ' H' (A'.sub fun t ht => List.mem_cons_of_mem _ ht)⟩)
/-- the turns of a range -/
theorem for_rng {wi : TI} {lo : Int} {n : Nat} (g : Good X) (hi : PI X tg iter wi) (hw : ∀ σ H, At F ds M ts σ H → ∀ R : It → Hp → Prop, (∀ H', At F ds M1 ts σ H' → R (Itr lo n) H') → wi σ H R) (I : Nat → Slots → Cells → Prop) (J : Slots → Cells → Prop) (h0 : I 0 ds M1)
    (hs : ∀ ts' i ds' M', i < n → I i ds' M' → ∃ ds'', EG X F ds' M' tg (.int (lo + (i : Nat))) ds'' ∧ GB X (LoopE F ts' (I (i + 1)) J Dn) F ts' ds'' M' body) (hd : ∀ ds' M', I n ds' M' → J ds' M') (k : ∀ ds' M', J ds' M' → GB X Dn F ts ds' M' rest)
    (hf : ∀ x, foldedSetIterable iter X.env x = pure x := by intro _; rfl) : GB X Dn F ts ds M (.For tg iter body [] pos :: rest) := fun σ H A => sB_cons (ps_for g.hp g.hc hi pg_s pss_b hf) (hw σ H A _ fun H1 A1 => by
  refine ⟨fun i m σ' H' => m = n - i ∧ i ≤ n ∧ AtI F ts (I i) σ' H', ⟨_, rfl, Nat.zero_le _, ds, M1, h0, A1⟩, ?_⟩
  rintro i m σ' H' ⟨rfl, hi, ds', M', hI, A'⟩
  by_cases h : i < n
  · obtain ⟨ds'', h1, h2⟩ := hs ts i ds' M' h hI
    refine .inr ⟨h, fun σ2 H2 => AtI F ts (I (i + 1)) σ2 H2, fun σ2 H2 q => ⟨_, by omega, rfl, h, q⟩, fun u H3 ⟨e3, e4⟩ => ?_⟩
    subst e3 e4
    exact h1 ts σ' H3 _ (A'.lit _) _ fun σ2 H2 B => sB_mono (h2 σ2 H2 B) (fun _ _ z => z) (fun _ _ z => z) (fun σ3 H4 ⟨ds3, M3, j, B3⟩ => k ds3 M3 j σ3 H4 B3) (fun _ _ z => z)
  · have hlen : i = n := by omega
    subst hlen
    exact .inl ⟨Nat.le_refl _, k ds' M' (hd ds' M' hI) σ' H' A'⟩)
theorem gb_forR1 (g : Good X) {n : Nat} (hm : X.mg "range" = none) (he : EV X F ds M a (.int n) M1) (hn : n ≤ 100000) (I : Nat → Slots → Cells → Prop) (J : Slots → Cells → Prop) (h0 : I 0 ds M1)
    (hs : ∀ ts' i ds' M', i < n → I i ds' M' → ∃ ds'', EG X F ds' M' tg (.int ((0 : Int) + (i : Nat))) ds'' ∧ GB X (LoopE F ts' (I (i + 1)) J Dn) F ts' ds'' M' body) (hd : ∀ ds' M', I n ds' M' → J ds' M') (k : ∀ ds' M', J ds' M' → GB X Dn F ts ds' M' rest)
    (hg : Gl X "range" := by rfl) (h1 : starEach [a] X.env = (false, eval a X.env) :: starEach [] X.env := by rfl) (h2 : starEach [a] X.env = [(false, eval a X.env)] := by rfl) (hf : ∀ x, foldedSetIterable (.Call (.Name "range" p) [a] [] p2) X.env x = pure x := by intro _; rfl) : GB X Dn F ts ds M (.For tg (.Call (.Name "range" p) [a] [] p2) body [] pos :: rest) :=
  for_rng (lo := 0) (n := n) g (pi_range1 hg hm (pa_cons pe_s pa_nil h1) h2) (fun σ H A R q => he ts σ H A _ fun v H1 A1 => ⟨n, by rw [A1.val List.mem_cons_self], by omega, by omega, q H1 (A1.sub fun t ht => List.mem_cons_of_mem _ ht)⟩) I J h0 hs hd k hf
theorem gb_forR2 (g : Good X) {lo hi : Nat} (hm : X.mg "range" = none) (he : EV X F ds M a (.int lo) M1) (he2 : EV X F ds M1 b (.int hi) M2) (hn : lo ≤ 100000) (hn2 : hi ≤ 100000) (I : Nat → Slots → Cells → Prop) (J : Slots → Cells → Prop) (h0 : I 0 ds M2)
    (hs : ∀ ts' i ds' M', i < hi - lo → I i ds' M' → ∃ ds'', EG X F ds' M' tg (.int ((lo : Int) + (i : Nat))) ds'' ∧ GB X (LoopE F ts' (I (i + 1)) J Dn) F ts' ds'' M' body) (hd : ∀ ds' M', I (hi - lo) ds' M' → J ds' M') (k : ∀ ds' M', J ds' M' → GB X Dn F ts ds' M' rest)
    (hg : Gl X "range" := by rfl) (h1 : starEach [a, b] X.env = (false, eval a X.env) :: starEach [b] X.env := by rfl) (h3 : starEach [b] X.env = (false, eval b X.env) :: starEach [] X.env := by rfl) (h2 : starEach [a, b] X.env = [(false, eval a X.env), (false, eval b X.env)] := by rfl) (h4 : starEach [b] X.env = [(false, eval b X.env)] := by rfl)
    (hf : ∀ x, foldedSetIterable (.Call (.Name "range" p) [a, b] [] p2) X.env x = pure x := by intro _; rfl) : GB X Dn F ts ds M (.For tg (.Call (.Name "range" p) [a, b] [] p2) body [] pos :: rest) :=
  for_rng (lo := lo) (n := hi - lo) g (pi_range2 hg hm (pa_cons pe_s (pa_cons pe_s pa_nil h3) h1) h2 h4) (fun σ H A R q => he ts σ H A _ fun v H1 A1 => he2 _ σ H1 A1 _ fun u H2 A2 => ⟨lo, hi, by rw [A2.val List.mem_cons_self, A2.val (List.mem_cons_of_mem _ List.mem_cons_self)], by omega, by
    have e : ((hi : Int) - (lo : Int)).toNat = hi - lo := by omega
    rw [e]
    exact q H2 (A2.sub fun t ht => List.mem_cons_of_mem _ (List.mem_cons_of_mem _ ht))⟩) I J h0 hs hd k hf
/-- while, by a measure -/
theorem gb_while (g : Good X) (W : Nat → Slots → Cells → Prop) (J : Slots → Cells → Prop) (m0 : Nat) (h0 : W m0 ds M)
    (hs : ∀ m ds' M', W m ds' M' → ∃ t M1, ET X F ds' M' c t M1 ∧ (t = true → ∀ ts', GB X (LoopE F ts' (fun ds2 M2 => ∃ m', m' < m ∧ W m' ds2 M2) J Dn) F ts' ds' M1 body) ∧ (t = false → J ds' M1)) (k : ∀ ds' M', J ds' M' → GB X Dn F ts ds' M' rest) : GB X Dn F ts ds M (.While c body [] pos :: rest) :=
  fun σ H A => sB_cons (ps_while g.hp pt_s pss_b) (by
    refine ⟨fun m σ' H' => AtI F ts (W m) σ' H', ⟨m0, ds, M, h0, A⟩, ?_⟩
    rintro m σ' H' ⟨ds', M', hW, A'⟩
    obtain ⟨t, M1, h1, h2, h3⟩ := hs m ds' M' hW
    refine h1 ts σ' H' A' _ fun H1 A1 => ?_
    cases t with
    | true =>
      refine ⟨AtI F ts (fun ds2 M2 => ∃ m', m' < m ∧ W m' ds2 M2), fun σ2 H2 ⟨ds2, M2, ⟨m', hm, hw⟩, B⟩ => ⟨m', hm, ds2, M2, hw, B⟩, ?_⟩
      exact sB_mono (h2 rfl ts σ' H1 A1) (fun _ _ z => z) (fun _ _ z => z) (fun σ3 H4 ⟨ds3, M3, j, B3⟩ => k ds3 M3 j σ3 H4 B3) (fun _ _ z => z)
    | false => exact k ds' M1 (h3 rfl) σ' H1 A1)
theorem ev_true {j : Nat} : ET X F ds M (.Constant (.bool true) j pos) true M := et_val ev_b
/-- truth of a list, of a tuple -/
theorem et_truL {xs : List D} (h : EV X F ds M e (.lst xs) M1) (he : ∀ whole, isTrue e X.env whole = (do let v ← whole; standAt e.pos; holding [v] (truthy v)) := by intro _; rfl) : ET X F ds M e (!xs.isEmpty) M1 := et_of (pt_truth pe_s he) fun ts σ H A Q q => h ts σ H A _ fun v H1 A1 => by
  obtain ⟨a, vs, e1, e2, l, A2⟩ := A1.openL List.mem_cons_self
  subst e1
  refine ⟨!xs.isEmpty, .inl ⟨vs, SqL.of e2, ?_⟩, q H1 (A1.sub fun t ht => List.mem_cons_of_mem _ ht)⟩
  cases vs <;> cases xs <;> simp_all
theorem et_truT {xs : List D} (h : EV X F ds M e (.tup xs) M1) (he : ∀ whole, isTrue e X.env whole = (do let v ← whole; standAt e.pos; holding [v] (truthy v)) := by intro _; rfl) : ET X F ds M e (!xs.isEmpty) M1 := et_of (pt_truth pe_s he) fun ts σ H A Q q => h ts σ H A _ fun v H1 A1 => by
  obtain ⟨a, vs, e1, e2, l, A2⟩ := A1.openT List.mem_cons_self
  subst e1
  refine ⟨!xs.isEmpty, .inr (.inl ⟨vs, .inl (.inl e2), ?_⟩), q H1 (A1.sub fun t ht => List.mem_cons_of_mem _ ht)⟩
  cases vs <;> cases xs <;> simp_all
theorem et_truC {xs : List D} {q : Addr} {j : Nat} (h : EV X F ds M e (.ref q) M1) (hj : M1[j]? = some (q, .lst xs) := by rfl) (he : ∀ whole, isTrue e X.env whole = (do let v ← whole; standAt e.pos; holding [v] (truthy v)) := by intro _; rfl) : ET X F ds M e (!xs.isEmpty) M1 := et_of (pt_truth pe_s he) fun ts σ H A Q k => h ts σ H A _ fun v H1 A1 => by
  obtain ⟨vs, e2, l, A2⟩ := A1.cellL hj
  rw [A1.val List.mem_cons_self]
  refine ⟨!xs.isEmpty, .inl ⟨vs, SqL.of e2, ?_⟩, k H1 (A1.sub fun t ht => List.mem_cons_of_mem _ ht)⟩
  cases vs <;> cases xs <;> simp_all
end

section
variable {X : Cx} {F : Fm} {ds : Slots} {M M1 Mo N : Cells} {d d0 : D} {e : Expr} {pos : Pos} {Dn : Ends} {ts : List (V × D)} {rest : List Stmt}
/-- return, where one answer is promised -/
theorem gb_retD (he : EV X F ds M e d M1) (hD : Dn.rt = RetP F (KD d0 Mo) := by rfl) (hd : d = d0 := by rfl) (hp : M1.Perm (Mo ++ N) := by exact List.Perm.refl _) : GB X Dn F ts ds M (.Return (some e) pos :: rest) := gb_ret he ⟨hd, rfl⟩ hp hD
theorem gb_retND (hD : Dn.rt = RetP F (KD .non Mo) := by rfl) (hp : M.Perm (Mo ++ N) := by exact List.Perm.refl _) : GB X Dn F ts ds M (.Return none pos :: rest) := gb_retN (K := KD .non Mo) ⟨rfl, rfl⟩ hp hD
theorem gb_offD (hD : Dn.nx = (fun _ H' => RetP F (KD .non Mo) .non H') := by rfl) (hp : M.Perm (Mo ++ N) := by exact List.Perm.refl _) : GB X Dn F ts ds M [] := gb_off (K := KD .non Mo) ⟨rfl, rfl⟩ hp hD
end

/-! ### a def's body -/
structure Bd where
  f : Addr
  cdv : Value
  A : Around
  outer : List Env
  s : Shared
  H : Hp
  E : XK
abbrev bx (P : Program) (w : World) (K : PySem.W.Frag) (mg : Str → Option Value) (base : Heap) (N : List Str) (qual : Str) (sc : Scope) (b : Bd) : Cx := (cxOf CX0 P w K mg base N qual sc b.f b.cdv b.A b.outer b.s b.H b.E).nox
theorem bx_good {P : Program} {w : World} {K : PySem.W.Frag} {mg : Str → Option Value} {base : Heap} {N ps : List Str} {qual : Str} {sc : Scope} {b : Bd} (S : FnScope N ps sc) : Good (bx P w K mg base N qual sc b) := ⟨PassesOwn.never, rfl, S.nd⟩
abbrev RetE (F : Fm) (K : D → Cells → Prop) : Ends := { nx := fun _ H' => RetP F K .non H', rt := RetP F K }
def slots (N : List Str) (args : List D) : Slots := args.map some ++ List.replicate (N.length - args.length) none
theorem sd_start {G : Hp} {N : List Str} : ∀ {vs : List V} {args : List D} (n : Nat), RpA G vs args → Sd G (vs.map some ++ List.replicate n none) (args.map some ++ List.replicate n none)
  | _, _, 0, .nil => .nil
  | _, _, n + 1, .nil => .no (sd_start (N := N) (vs := []) (args := []) n .nil)
  | _, _, n, .cons h r => .yes h (sd_start (N := N) n r)
theorem fn_ok {P : Program} {w : World} {K : PySem.W.Frag} {mg : Str → Option Value} {base : Heap} {x qual : Str} {st : Stmt} {f : Addr} {fd : FuncData} {N ps : List Str} {k : Nat} {C : Ctr} (Fn : Fun K x qual st f fd) (S : FnScope N ps (defScope st)) (len : ∀ args M Kx, C args M Kx → args.length = ps.length)
    (body : ∀ (b : Bd) (F : Fm) (args : List D) (M : Cells) (Kx : D → Cells → Prop), F.w = w → F.P = M.map (·.1) → C args M Kx → Room k (bx P w K mg base N qual (defScope st) b).A → GB (bx P w K mg base N qual (defScope st) b) (RetE F Kx) F [] (slots N args) M (defBody st)) : FnOk P w K mg base CX0 (k + 1) f fd ps (toSp w C) := by
  refine Fn.ok S (fun vs H Q E h => ?_) fun cdv A outer s H vs Q E hr h => ?_
  · obtain ⟨G, args, M, Kx, _, r, _, hc, _⟩ := h
    rw [r.len]
    exact len _ _ _ hc
  · obtain ⟨G, args, M, Kx, sg, r, cc, hc, q⟩ := h
    have hb := body ⟨f, cdv, A, outer, s, H, E⟩ (fmOf w G H M) args M Kx rfl rfl hc hr
    refine ⟨_, pss_b, sB_mono (hb (L2.start N vs) H ⟨G, ⟨Same.refl _, sg, fun a _ _ h => h, fun b o e _ => e, fun a h => h⟩, ?_, fun t ht => absurd ht List.not_mem_nil, cc⟩) (fun σ' H' z => q _ _ z) (fun v H' z => q _ _ z) (fun _ _ z => z.elim) (fun _ _ z => z.elim)⟩
    unfold L2.start slots
    rw [r.len]
    exact sd_start (N := N) _ r
end K23

/-! The text by places. -/
namespace K23
open PySem L2
def topS (i : Nat) : Stmt := PySem.Challenge.pw_yardsort_k23_whole_a_way_or_a_closed_lis.main.body.getD i (.Pass ⟨0, 0, 0, 0⟩)
abbrev s_is_row : Stmt := topS 8
abbrev n_is_row : List Str := ["numbers"]
theorem sc_is_row : FnScope n_is_row ["numbers"] (defScope s_is_row) := ⟨rfl, rfl, rfl, by decide +kernel, rfl, by decide +kernel, by decide +kernel⟩
abbrev s_Group_init : Stmt := inClass (topS 19) 0
abbrev n_Group_init : List Str := ["self", "sign"]
theorem sc_Group_init : FnScope n_Group_init ["self", "sign"] (defScope s_Group_init) := ⟨rfl, rfl, rfl, by decide +kernel, rfl, by decide +kernel, by decide +kernel⟩
abbrev s_Reading_init : Stmt := inClass (topS 20) 0
abbrev n_Reading_init : List Str := ["self", "text"]
theorem sc_Reading_init : FnScope n_Reading_init ["self", "text"] (defScope s_Reading_init) := ⟨rfl, rfl, rfl, by decide +kernel, rfl, by decide +kernel, by decide +kernel⟩
abbrev s_Reading_sign : Stmt := inClass (topS 20) 1
abbrev n_Reading_sign : List Str := ["self"]
theorem sc_Reading_sign : FnScope n_Reading_sign ["self"] (defScope s_Reading_sign) := ⟨rfl, rfl, rfl, by decide +kernel, rfl, by decide +kernel, by decide +kernel⟩
abbrev s_Reading_refuse : Stmt := inClass (topS 20) 2
abbrev n_Reading_refuse : List Str := ["self"]
theorem sc_Reading_refuse : FnScope n_Reading_refuse ["self"] (defScope s_Reading_refuse) := ⟨rfl, rfl, rfl, by decide +kernel, rfl, by decide +kernel, by decide +kernel⟩
abbrev s_Reading_device : Stmt := inClass (topS 20) 3
abbrev n_Reading_device : List Str := ["self", "number", "bound"]
theorem sc_Reading_device : FnScope n_Reading_device ["self"] (defScope s_Reading_device) := ⟨rfl, rfl, rfl, by decide +kernel, rfl, by decide +kernel, by decide +kernel⟩
abbrev s_Reading_first_device : Stmt := inClass (topS 20) 4
abbrev n_Reading_first_device : List Str := ["self"]
theorem sc_Reading_first_device : FnScope n_Reading_first_device ["self"] (defScope s_Reading_first_device) := ⟨rfl, rfl, rfl, by decide +kernel, rfl, by decide +kernel, by decide +kernel⟩
abbrev s_Reading_joined : Stmt := inClass (topS 20) 5
abbrev n_Reading_joined : List Str := ["self", "group", "entries", "at", "out", "entry", "yard"]
theorem sc_Reading_joined : FnScope n_Reading_joined ["self", "group"] (defScope s_Reading_joined) := ⟨rfl, rfl, rfl, by decide +kernel, rfl, by decide +kernel, by decide +kernel⟩
abbrev s_Reading_closed : Stmt := inClass (topS 20) 6
abbrev n_Reading_closed : List Str := ["self", "yard", "group"]
theorem sc_Reading_closed : FnScope n_Reading_closed ["self", "yard"] (defScope s_Reading_closed) := ⟨rfl, rfl, rfl, by decide +kernel, rfl, by decide +kernel, by decide +kernel⟩
abbrev s_Reading_whole : Stmt := inClass (topS 20) 7
abbrev n_Reading_whole : List Str := ["self", "yard"]
theorem sc_Reading_whole : FnScope n_Reading_whole ["self"] (defScope s_Reading_whole) := ⟨rfl, rfl, rfl, by decide +kernel, rfl, by decide +kernel, by decide +kernel⟩
abbrev s_Yard_init : Stmt := inClass (topS 21) 0
abbrev n_Yard_init : List Str := ["self", "text", "reading", "entries", "exits", "outer", "entry", "out"]
theorem sc_Yard_init : FnScope n_Yard_init ["self", "text"] (defScope s_Yard_init) := ⟨rfl, rfl, rfl, by decide +kernel, rfl, by decide +kernel, by decide +kernel⟩
abbrev s_Yard_len : Stmt := inClass (topS 21) 1
abbrev n_Yard_len : List Str := ["self"]
theorem sc_Yard_len : FnScope n_Yard_len ["self"] (defScope s_Yard_len) := ⟨rfl, rfl, rfl, by decide +kernel, rfl, by decide +kernel, by decide +kernel⟩
abbrev s_Yard_ins : Stmt := inClass (topS 21) 2
abbrev n_Yard_ins : List Str := ["self", "device"]
theorem sc_Yard_ins : FnScope n_Yard_ins ["self", "device"] (defScope s_Yard_ins) := ⟨rfl, rfl, rfl, by decide +kernel, rfl, by decide +kernel, by decide +kernel⟩
abbrev s_Yard_outs : Stmt := inClass (topS 21) 3
abbrev n_Yard_outs : List Str := ["self", "device"]
theorem sc_Yard_outs : FnScope n_Yard_outs ["self", "device"] (defScope s_Yard_outs) := ⟨rfl, rfl, rfl, by decide +kernel, rfl, by decide +kernel, by decide +kernel⟩
abbrev s_Yard_is_bounded : Stmt := inClass (topS 21) 4
abbrev n_Yard_is_bounded : List Str := ["self"]
theorem sc_Yard_is_bounded : FnScope n_Yard_is_bounded ["self"] (defScope s_Yard_is_bounded) := ⟨rfl, rfl, rfl, by decide +kernel, rfl, by decide +kernel, by decide +kernel⟩
abbrev s_Yard_room : Stmt := inClass (topS 21) 5
abbrev n_Yard_room : List Str := ["self", "device", "count"]
theorem sc_Yard_room : FnScope n_Yard_room ["self", "device", "count"] (defScope s_Yard_room) := ⟨rfl, rfl, rfl, by decide +kernel, rfl, by decide +kernel, by decide +kernel⟩
abbrev s_check_row : Stmt := topS 23
abbrev n_check_row : List Str := ["row"]
theorem sc_check_row : FnScope n_check_row ["row"] (defScope s_check_row) := ⟨rfl, rfl, rfl, by decide +kernel, rfl, by decide +kernel, by decide +kernel⟩
abbrev s_first_situation : Stmt := topS 24
abbrev n_first_situation : List Str := ["yard", "row", "_"]
theorem sc_first_situation : FnScope n_first_situation ["yard", "row"] (defScope s_first_situation) := ⟨rfl, rfl, rfl, by decide +kernel, rfl, by decide +kernel, by decide +kernel⟩
abbrev s_is_situation : Stmt := topS 25
abbrev n_is_situation : List Str := ["yard", "row", "situation", "came", "held", "gone", "wagons", "device", "inside", "bound"]
theorem sc_is_situation : FnScope n_is_situation ["yard", "row", "situation"] (defScope s_is_situation) := ⟨rfl, rfl, rfl, by decide +kernel, rfl, by decide +kernel, by decide +kernel⟩
abbrev s_source_ends : Stmt := topS 26
abbrev n_source_ends : List Str := ["yard", "row", "situation", "source", "came", "held", "_"]
theorem sc_source_ends : FnScope n_source_ends ["yard", "row", "situation", "source"] (defScope s_source_ends) := ⟨rfl, rfl, rfl, by decide +kernel, rfl, by decide +kernel, by decide +kernel⟩
abbrev s_target_ends : Stmt := topS 27
abbrev n_target_ends : List Str := ["yard", "situation", "target"]
theorem sc_target_ends : FnScope n_target_ends ["yard", "situation", "target"] (defScope s_target_ends) := ⟨rfl, rfl, rfl, by decide +kernel, rfl, by decide +kernel, by decide +kernel⟩
abbrev s_possible : Stmt := topS 28
abbrev n_possible : List Str := ["yard", "row", "situation", "moves", "source", "target", "out", "end"]
theorem sc_possible : FnScope n_possible ["yard", "row", "situation"] (defScope s_possible) := ⟨rfl, rfl, rfl, by decide +kernel, rfl, by decide +kernel, by decide +kernel⟩
abbrev s_wagon_of : Stmt := topS 29
abbrev n_wagon_of : List Str := ["row", "situation", "move", "came", "held", "_"]
theorem sc_wagon_of : FnScope n_wagon_of ["row", "situation", "move"] (defScope s_wagon_of) := ⟨rfl, rfl, rfl, by decide +kernel, rfl, by decide +kernel, by decide +kernel⟩
abbrev s_after : Stmt := topS 30
abbrev n_after : List Str := ["row", "situation", "move", "came", "held", "gone", "wagon", "devices", "source", "out", "target", "end"]
theorem sc_after : FnScope n_after ["row", "situation", "move"] (defScope s_after) := ⟨rfl, rfl, rfl, by decide +kernel, rfl, by decide +kernel, by decide +kernel⟩
abbrev s_is_live : Stmt := topS 33
abbrev n_is_live : List Str := ["situation", "gone"]
theorem sc_is_live : FnScope n_is_live ["situation"] (defScope s_is_live) := ⟨rfl, rfl, rfl, by decide +kernel, rfl, by decide +kernel, by decide +kernel⟩
abbrev s_Search_init : Stmt := inClass (topS 34) 0
abbrev n_Search_init : List Str := ["self", "yard", "row", "situation"]
theorem sc_Search_init : FnScope n_Search_init ["self", "yard", "row", "situation"] (defScope s_Search_init) := ⟨rfl, rfl, rfl, by decide +kernel, rfl, by decide +kernel, by decide +kernel⟩
abbrev s_Search_is_goal : Stmt := inClass (topS 34) 1
abbrev n_Search_is_goal : List Str := ["self", "situation"]
theorem sc_Search_is_goal : FnScope n_Search_is_goal ["self", "situation"] (defScope s_Search_is_goal) := ⟨rfl, rfl, rfl, by decide +kernel, rfl, by decide +kernel, by decide +kernel⟩
abbrev s_Search_look : Stmt := inClass (topS 34) 2
abbrev n_Search_look : List Str := ["self", "index", "situation", "move", "following"]
theorem sc_Search_look : FnScope n_Search_look ["self", "index"] (defScope s_Search_look) := ⟨rfl, rfl, rfl, by decide +kernel, rfl, by decide +kernel, by decide +kernel⟩
abbrev s_Search_finish : Stmt := inClass (topS 34) 3
abbrev n_Search_finish : List Str := ["self", "index"]
theorem sc_Search_finish : FnScope n_Search_finish ["self"] (defScope s_Search_finish) := ⟨rfl, rfl, rfl, by decide +kernel, rfl, by decide +kernel, by decide +kernel⟩
abbrev s_Search_way : Stmt := inClass (topS 34) 4
abbrev n_Search_way : List Str := ["self", "moves", "index", "move"]
theorem sc_Search_way : FnScope n_Search_way ["self"] (defScope s_Search_way) := ⟨rfl, rfl, rfl, by decide +kernel, rfl, by decide +kernel, by decide +kernel⟩
abbrev s_search_from : Stmt := topS 35
abbrev n_search_from : List Str := ["yard", "row", "situation", "search"]
theorem sc_search_from : FnScope n_search_from ["yard", "row", "situation"] (defScope s_search_from) := ⟨rfl, rfl, rfl, by decide +kernel, rfl, by decide +kernel, by decide +kernel⟩
abbrev s_solve : Stmt := topS 36
abbrev n_solve : List Str := ["yard", "row", "search"]
theorem sc_solve : FnScope n_solve ["yard", "row"] (defScope s_solve) := ⟨rfl, rfl, rfl, by decide +kernel, rfl, by decide +kernel, by decide +kernel⟩
abbrev s_closed_list : Stmt := topS 38
abbrev n_closed_list : List Str := ["yard", "row", "search"]
theorem sc_closed_list : FnScope n_closed_list ["yard", "row"] (defScope s_closed_list) := ⟨rfl, rfl, rfl, by decide +kernel, rfl, by decide +kernel, by decide +kernel⟩
abbrev s_live_behind : Stmt := topS 39
abbrev n_live_behind : List Str := ["yard", "row", "situation", "behind", "move", "following"]
theorem sc_live_behind : FnScope n_live_behind ["yard", "row", "situation"] (defScope s_live_behind) := ⟨rfl, rfl, rfl, by decide +kernel, rfl, by decide +kernel, by decide +kernel⟩
abbrev s_is_gap : Stmt := topS 40
abbrev n_is_gap : List Str := ["yard", "row", "situation", "known", "following"]
theorem sc_is_gap : FnScope n_is_gap ["yard", "row", "situation", "known"] (defScope s_is_gap) := ⟨rfl, rfl, rfl, by decide +kernel, rfl, by decide +kernel, by decide +kernel⟩
abbrev s_gap_from : Stmt := topS 41
abbrev n_gap_from : List Str := ["yard", "row", "start", "situations", "known", "index", "situation"]
theorem sc_gap_from : FnScope n_gap_from ["yard", "row", "start", "situations"] (defScope s_gap_from) := ⟨rfl, rfl, rfl, by decide +kernel, rfl, by decide +kernel, by decide +kernel⟩
abbrev s_first_gap : Stmt := topS 42
abbrev n_first_gap : List Str := ["yard", "row", "situations"]
theorem sc_first_gap : FnScope n_first_gap ["yard", "row", "situations"] (defScope s_first_gap) := ⟨rfl, rfl, rfl, by decide +kernel, rfl, by decide +kernel, by decide +kernel⟩
abbrev s_is_closed : Stmt := topS 43
abbrev n_is_closed : List Str := ["yard", "row", "situations"]
theorem sc_is_closed : FnScope n_is_closed ["yard", "row", "situations"] (defScope s_is_closed) := ⟨rfl, rfl, rfl, by decide +kernel, rfl, by decide +kernel, by decide +kernel⟩
abbrev s_law_number : Stmt := topS 45
abbrev n_law_number : List Str := ["_law_cell"]
theorem sc_law_number : FnScope n_law_number ["_law_cell"] (defScope s_law_number) := ⟨rfl, rfl, rfl, by decide +kernel, rfl, by decide +kernel, by decide +kernel⟩
abbrev s_law_draws : Stmt := topS 46
abbrev n_law_draws : List Str := ["_law_script", "_law_draws_here", "_law_cell", "_law_rest", "_law_k", "_law_once", "_law_twice"]
theorem sc_law_draws : FnScope n_law_draws ["_law_script"] (defScope s_law_draws) := ⟨rfl, rfl, rfl, by decide +kernel, rfl, by decide +kernel, by decide +kernel⟩
abbrev s_law_next : Stmt := topS 47
abbrev n_law_next : List Str := ["_law_draws_here"]
theorem sc_law_next : FnScope n_law_next ["_law_draws_here"] (defScope s_law_next) := ⟨rfl, rfl, rfl, by decide +kernel, rfl, by decide +kernel, by decide +kernel⟩
abbrev s_law_tree : Stmt := topS 48
abbrev n_law_tree : List Str := ["_law_draws_here", "_law_room", "_law_kind", "_law_letter", "_law_first", "_law_left"]
theorem sc_law_tree : FnScope n_law_tree ["_law_draws_here", "_law_room"] (defScope s_law_tree) := ⟨rfl, rfl, rfl, by decide +kernel, rfl, by decide +kernel, by decide +kernel⟩
abbrev s_law_told : Stmt := topS 49
abbrev n_law_told : List Str := ["_law_tree_here"]
theorem sc_law_told : FnScope n_law_told ["_law_tree_here"] (defScope s_law_told) := ⟨rfl, rfl, rfl, by decide +kernel, rfl, by decide +kernel, by decide +kernel⟩
abbrev s_law_net : Stmt := topS 50
abbrev n_law_net : List Str := ["_law_tree_here", "_law_first", "_law_one", "_law_two", "_law_links", "_law_out", "_law_entry"]
theorem sc_law_net : FnScope n_law_net ["_law_tree_here", "_law_first"] (defScope s_law_net) := ⟨rfl, rfl, rfl, by decide +kernel, rfl, by decide +kernel, by decide +kernel⟩
abbrev s_law_plan : Stmt := topS 51
abbrev n_law_plan : List Str := ["_law_tree_here", "_law_net_here", "_law_links", "_law_entry", "_law_out"]
theorem sc_law_plan : FnScope n_law_plan ["_law_tree_here"] (defScope s_law_plan) := ⟨rfl, rfl, rfl, by decide +kernel, rfl, by decide +kernel, by decide +kernel⟩
abbrev s_law_outs : Stmt := topS 52
abbrev n_law_outs : List Str := ["_law_net_here", "_law_row_here", "_law_situation", "_law_source"]
theorem sc_law_outs : FnScope n_law_outs ["_law_net_here", "_law_row_here", "_law_situation", "_law_source"] (defScope s_law_outs) := ⟨rfl, rfl, rfl, by decide +kernel, rfl, by decide +kernel, by decide +kernel⟩
abbrev s_law_ins : Stmt := topS 53
abbrev n_law_ins : List Str := ["_law_net_here", "_law_situation", "_law_target", "_law_letter", "_law_bound"]
theorem sc_law_ins : FnScope n_law_ins ["_law_net_here", "_law_situation", "_law_target"] (defScope s_law_ins) := ⟨rfl, rfl, rfl, by decide +kernel, rfl, by decide +kernel, by decide +kernel⟩
abbrev s_law_moves : Stmt := topS 54
abbrev n_law_moves : List Str := ["_law_net_here", "_law_row_here", "_law_situation", "_law_moves_here", "_law_source", "_law_target", "_law_out", "_law_end"]
theorem sc_law_moves : FnScope n_law_moves ["_law_net_here", "_law_row_here", "_law_situation"] (defScope s_law_moves) := ⟨rfl, rfl, rfl, by decide +kernel, rfl, by decide +kernel, by decide +kernel⟩
abbrev s_law_behind : Stmt := topS 55
abbrev n_law_behind : List Str := ["_law_row_here", "_law_situation", "_law_move", "_law_came", "_law_held", "_law_gone", "_law_devices", "_law_source", "_law_out", "_law_target", "_law_end", "_law_wagon"]
theorem sc_law_behind : FnScope n_law_behind ["_law_row_here", "_law_situation", "_law_move"] (defScope s_law_behind) := ⟨rfl, rfl, rfl, by decide +kernel, rfl, by decide +kernel, by decide +kernel⟩
abbrev s_law_live : Stmt := topS 56
abbrev n_law_live : List Str := ["_law_situation"]
theorem sc_law_live : FnScope n_law_live ["_law_situation"] (defScope s_law_live) := ⟨rfl, rfl, rfl, by decide +kernel, rfl, by decide +kernel, by decide +kernel⟩
abbrev s_law_start : Stmt := topS 57
abbrev n_law_start : List Str := ["_law_net_here", "_law_device"]
theorem sc_law_start : FnScope n_law_start ["_law_net_here"] (defScope s_law_start) := ⟨rfl, rfl, rfl, by decide +kernel, rfl, by decide +kernel, by decide +kernel⟩
abbrev s_law_row : Stmt := topS 58
abbrev n_law_row : List Str := ["_law_draws_here", "_law_size", "_law_row_here", "_law_wagon"]
theorem sc_law_row : FnScope n_law_row ["_law_draws_here", "_law_size"] (defScope s_law_row) := ⟨rfl, rfl, rfl, by decide +kernel, rfl, by decide +kernel, by decide +kernel⟩
abbrev s_law_drawn : Stmt := topS 59
abbrev n_law_drawn : List Str := ["_law_draws_here", "_law_most", "_law_tree_here", "_law_net_here", "_law_size"]
theorem sc_law_drawn : FnScope n_law_drawn ["_law_draws_here", "_law_most"] (defScope s_law_drawn) := ⟨rfl, rfl, rfl, by decide +kernel, rfl, by decide +kernel, by decide +kernel⟩
abbrev s_law_walks : Stmt := topS 60
abbrev n_law_walks : List Str := ["_law_net_here", "_law_row_here", "_law_way", "_law_situation", "_law_move"]
theorem sc_law_walks : FnScope n_law_walks ["_law_net_here", "_law_row_here", "_law_way"] (defScope s_law_walks) := ⟨rfl, rfl, rfl, by decide +kernel, rfl, by decide +kernel, by decide +kernel⟩
abbrev s_law_closed : Stmt := topS 61
abbrev n_law_closed : List Str := ["_law_net_here", "_law_row_here", "_law_situations", "_law_entries", "_law_situation", "_law_move", "_law_following"]
theorem sc_law_closed : FnScope n_law_closed ["_law_net_here", "_law_row_here", "_law_situations"] (defScope s_law_closed) := ⟨rfl, rfl, rfl, by decide +kernel, rfl, by decide +kernel, by decide +kernel⟩
abbrev s_law : Stmt := topS 62
abbrev n_law : List Str := ["_law_script", "_law_draws_here", "_law_tree_here", "_law_net_here", "_law_row_here", "_law_yard", "_law_passed", "_law_way", "_law_situations"]
theorem sc_law : FnScope n_law ["_law_script"] (defScope s_law) := ⟨rfl, rfl, rfl, by decide +kernel, rfl, by decide +kernel, by decide +kernel⟩
end K23

set_option maxHeartbeats 4000000
/-! The yard in plain words. -/
namespace K23

inductive Kd where
  | s | q | d | i | o
  deriving DecidableEq, Inhabited
def outsK : Kd → List Int
  | .s => [1] | .q => [0] | .d => [0, 1] | .i => [0, 1] | .o => [1]
def insK : Kd → List Int
  | .s => [1] | .q => [1] | .d => [0, 1] | .i => [1] | .o => [0, 1]
structure Sit where
  came : Nat
  held : List (List Int)
  gone : List Int
  deriving DecidableEq
structure Mv where
  src : Int
  so : Int
  tgt : Int
  te : Int
  deriving DecidableEq
abbrev Devs := List (Kd × Nat)
def iota (n : Nat) : List Int := (List.range n).map fun (i : Nat) => (1 : Int) + i
theorem iota_len (n : Nat) : (iota n).length = n := by unfold iota; rw [List.length_map, List.length_range]
theorem iota_succ (n : Nat) : iota (n + 1) = iota n ++ [(1 : Int) + n] := by unfold iota; rw [List.range_succ, List.map_append]; rfl
def hd (s : Sit) (a : Int) : List Int := s.held.getD a.toNat []
def dv (devs : Devs) (a : Int) : Kd × Nat := devs.getD a.toNat (.s, 0)
def srcEnds (devs : Devs) (n : Nat) (s : Sit) (a : Int) : List Int := if a < 0 then (if s.came < n then [0] else []) else if (hd s a).isEmpty then [] else outsK (dv devs a).1
def roomy (devs : Devs) (s : Sit) (b : Int) : Bool := decide ((dv devs b).2 = 0) || decide ((hd s b).length < (dv devs b).2)
def tgtEnds (devs : Devs) (s : Sit) (b : Int) : List Int := if b < 0 then [0] else if roomy devs s b then insK (dv devs b).1 else []
def rawMoves (devs : Devs) (links : List (Int × Int)) (n : Nat) (s : Sit) : List Mv :=
  links.flatMap fun l => (srcEnds devs n s l.1).flatMap fun o => (tgtEnds devs s l.2).map fun e => ⟨l.1, o, l.2, e⟩
def wagonM (row : List Int) (s : Sit) (m : Mv) : Int := if m.src < 0 then row.getD s.came 0 else if m.so = 0 then (hd s m.src).getD 0 0 else (hd s m.src).getD ((hd s m.src).length - 1) 0
def takenM (s : Sit) (m : Mv) : List (List Int) := if m.src < 0 then s.held else s.held.set m.src.toNat (if m.so = 0 then (hd s m.src).drop 1 else (hd s m.src).dropLast)
def afterM (row : List Int) (s : Sit) (m : Mv) : Sit :=
  { came := if m.src < 0 then s.came + 1 else s.came
    held := if m.tgt < 0 then takenM s m else (takenM s m).set m.tgt.toNat (if m.te = 0 then wagonM row s m :: (takenM s m).getD m.tgt.toNat [] else (takenM s m).getD m.tgt.toNat [] ++ [wagonM row s m])
    gone := if m.tgt < 0 then s.gone ++ [wagonM row s m] else s.gone }
def Live (s : Sit) : Prop := s.gone = iota s.gone.length
instance (s : Sit) : Decidable (Live s) := by unfold Live; infer_instance
def startM (k : Nat) : Sit := ⟨0, List.replicate k [], []⟩
/-- links lead from the input or a device to a device or the output -/
def LinksOk (k : Nat) (links : List (Int × Int)) : Prop := ∀ l ∈ links, (-1 ≤ l.1 ∧ l.1 < k) ∧ (-1 ≤ l.2 ∧ l.2 < k)
structure Valid (devs : Devs) (row : List Int) (s : Sit) : Prop where
  came : s.came ≤ row.length
  len : s.held.length = devs.length
  bnd : ∀ (i : Nat) h x, s.held[i]? = some h → devs[i]? = some x → x.2 ≠ 0 → h.length ≤ x.2
  perm : (s.gone ++ s.held.flatten).Perm (row.take s.came)
theorem Valid.start (devs : Devs) (row : List Int) : Valid devs row (startM devs.length) := by
  refine ⟨Nat.zero_le _, List.length_replicate, fun i h x e _ _ => ?_, ?_⟩
  · have e' : (List.replicate devs.length ([] : List Int))[i]? = some h := e
    rw [List.getElem?_replicate] at e'
    split at e'
    · cases e'
      exact Nat.zero_le _
    · cases e'
  · show ([] ++ (List.replicate devs.length ([] : List Int)).flatten).Perm (row.take 0)
    rw [List.flatten_replicate_nil]
    exact List.Perm.refl _
theorem Live.start (k : Nat) : Live (startM k) := rfl

/-! ### what a move does to the held wagons -/
theorem flat_set : ∀ {l : List (List Int)} {i : Nat} {h : List Int} (g : List Int), l[i]? = some h → (l.set i g).flatten.Perm (g ++ (l.set i []).flatten)
  | [], _, _, _, e => by simp at e
  | x :: l, 0, h, g, _ => by
    simp only [List.set_cons_zero, List.flatten_cons, List.nil_append]
    exact List.Perm.refl _
  | x :: l, i + 1, h, g, e => by
    have ih := flat_set (l := l) (i := i) (h := h) g (by simpa using e)
    simp only [List.set_cons_succ, List.flatten_cons]
    have h1 : (x ++ (l.set i g).flatten).Perm (x ++ (g ++ (l.set i []).flatten)) := ih.append_left x
    refine h1.trans ?_
    rw [← List.append_assoc, ← List.append_assoc]
    exact (List.perm_append_comm).append_right _
theorem flat_get {l : List (List Int)} {i : Nat} {h : List Int} (e : l[i]? = some h) : l.flatten.Perm (h ++ (l.set i []).flatten) := by
  have := flat_set h e
  rw [show l.set i h = l from List.ext_getElem? fun j => by
    rw [List.getElem?_set]
    split
    · rename_i hj
      subst hj
      have hlt := (List.getElem?_eq_some_iff.mp e).1
      rw [if_pos hlt, e]
    · rfl] at this
  exact this
theorem getD_some {α : Type} {l : List α} {i : Nat} {x d : α} (h : l[i]? = some x) : l.getD i d = x := by
  rw [List.getD_eq_getElem?_getD, h]
  rfl
theorem get_lt {α : Type} {l : List α} {i : Nat} (h : i < l.length) (d : α) : l[i]? = some (l.getD i d) := by
  rw [List.getD_eq_getElem?_getD, List.getElem?_eq_getElem h]
  rfl
theorem cut_first {h : List Int} (ne : h ≠ []) : h = h.getD 0 0 :: h.drop 1 := by
  cases h with
  | nil => exact absurd rfl ne
  | cons x r => rfl
theorem cut_last {h : List Int} (ne : h ≠ []) : h = h.dropLast ++ [h.getD (h.length - 1) 0] := by
  have hl : h.length ≠ 0 := fun z => ne (List.length_eq_zero_iff.mp z)
  have e : h.getLast ne = h.getD (h.length - 1) 0 := by
    rw [List.getLast_eq_getElem]
    exact (getD_some (List.getElem?_eq_getElem (by omega))).symm
  rw [← e]
  exact (List.dropLast_concat_getLast ne).symm
/-- the wagon taken and the rest are what was there -/
theorem taken_perm {devs : Devs} {row : List Int} {n : Nat} {s : Sit} {m : Mv} (V : Valid devs row s) (hn : n = row.length) (hs : -1 ≤ m.src ∧ m.src < devs.length) (ho : m.so ∈ srcEnds devs n s m.src) :
    (takenM s m).length = devs.length ∧ (wagonM row s m :: (s.gone ++ (takenM s m).flatten)).Perm (row.take (if m.src < 0 then s.came + 1 else s.came)) ∧ (if m.src < 0 then s.came + 1 else s.came) ≤ row.length ∧
      ∀ (i : Nat) h x, (takenM s m)[i]? = some h → devs[i]? = some x → x.2 ≠ 0 → h.length ≤ x.2 := by
  unfold srcEnds at ho
  unfold takenM wagonM
  by_cases h0 : m.src < 0
  · simp only [if_pos h0] at ho ⊢
    have hc : s.came < n := by
      by_cases h : s.came < n
      · exact h
      · rw [if_neg h] at ho
        cases ho
    have hc' : s.came < row.length := by omega
    refine ⟨V.len, ?_, by omega, V.bnd⟩
    rw [List.take_succ_eq_append_getElem hc']
    have e : row.getD s.came 0 = row[s.came] := getD_some (List.getElem?_eq_getElem hc')
    rw [e]
    exact (List.perm_append_comm (l₁ := [row[s.came]])).trans (V.perm.append_right _)
  · simp only [if_neg h0] at ho ⊢
    have hlt : m.src.toNat < s.held.length := by rw [V.len]; omega
    have hget := get_lt hlt ([] : List Int)
    have hne : hd s m.src ≠ [] := fun z => by
      rw [z] at ho
      cases ho
    refine ⟨by rw [List.length_set]; exact V.len, ?_, V.came, fun i h x e1 e2 e3 => ?_⟩
    · refine List.Perm.trans ?_ V.perm
      have p1 := flat_get hget
      have key : ∀ (w : Int) (r : List Int), (hd s m.src).Perm (w :: r) → (w :: (s.gone ++ (s.held.set m.src.toNat r).flatten)).Perm (s.gone ++ s.held.flatten) := fun w r hp => by
        have p2 := flat_set r hget
        have a1 : (s.gone ++ (s.held.set m.src.toNat r).flatten).Perm (s.gone ++ (r ++ (s.held.set m.src.toNat []).flatten)) := p2.append_left _
        have a2 : (s.gone ++ s.held.flatten).Perm (s.gone ++ ((w :: r) ++ (s.held.set m.src.toNat []).flatten)) := (p1.trans (hp.append_right _)).append_left _
        refine (a1.cons w).trans (List.Perm.trans ?_ a2.symm)
        exact List.perm_middle.symm
      by_cases hz : m.so = 0
      · simp only [if_pos hz]
        refine key _ _ ?_
        have e := cut_first hne
        exact List.Perm.of_eq e
      · simp only [if_neg hz]
        refine key _ _ ?_
        have e := cut_last hne
        have e2 : (hd s m.src).Perm ((hd s m.src).dropLast ++ [(hd s m.src).getD ((hd s m.src).length - 1) 0]) := List.Perm.of_eq e
        exact e2.trans (List.perm_append_comm)
    · rw [List.getElem?_set] at e1
      split at e1
      · rename_i hi
        subst hi
        have hle : h.length ≤ (hd s m.src).length := by
          cases e1
          split
          · rw [List.length_drop]; omega
          · rw [List.length_dropLast]; omega
        exact Nat.le_trans hle (V.bnd _ _ x hget e2 e3)
      · exact V.bnd i h x e1 e2 e3
theorem after_valid {devs : Devs} {row : List Int} {links : List (Int × Int)} {s : Sit} {m : Mv} (V : Valid devs row s) (L : LinksOk devs.length links) (hm : m ∈ rawMoves devs links row.length s) : Valid devs row (afterM row s m) := by
  unfold rawMoves at hm
  obtain ⟨l, hl, hm⟩ := List.mem_flatMap.mp hm
  obtain ⟨o, ho, hm⟩ := List.mem_flatMap.mp hm
  obtain ⟨e, he, hm⟩ := List.mem_map.mp hm
  subst hm
  obtain ⟨L1, L2⟩ := L l hl
  obtain ⟨t1, t2, t3, t4⟩ := taken_perm (m := ⟨l.1, o, l.2, e⟩) V rfl L1 ho
  generalize hT : takenM s ⟨l.1, o, l.2, e⟩ = T at t1 t2 t4
  generalize hW : wagonM row s ⟨l.1, o, l.2, e⟩ = W at t2
  unfold tgtEnds at he
  have hA : afterM row s ⟨l.1, o, l.2, e⟩ = { came := if l.1 < 0 then s.came + 1 else s.came, held := if l.2 < 0 then T else T.set l.2.toNat (if e = 0 then W :: T.getD l.2.toNat [] else T.getD l.2.toNat [] ++ [W]), gone := if l.2 < 0 then s.gone ++ [W] else s.gone } := by
    unfold afterM
    rw [hT, hW]
  rw [hA]
  by_cases h0 : l.2 < 0
  · simp only [if_pos h0]
    refine ⟨t3, t1, t4, ?_⟩
    show ((s.gone ++ [W]) ++ T.flatten).Perm _
    rw [List.append_assoc]
    exact List.perm_middle.trans t2
  · simp only [if_neg h0] at he ⊢
    have hlt : l.2.toNat < T.length := by rw [t1]; omega
    have hget := get_lt hlt ([] : List Int)
    have hroom : roomy devs s l.2 = true := by
      by_cases h : roomy devs s l.2 = true
      · exact h
      · rw [if_neg h] at he
        cases he
    generalize hg : T.getD l.2.toNat [] = g at hget
    have hnew : ∀ r : List Int, r.Perm (W :: g) → (s.gone ++ (T.set l.2.toNat r).flatten).Perm (W :: (s.gone ++ T.flatten)) := fun r hr => by
      have p1 := flat_get hget
      have p2 := flat_set r hget
      refine (p2.append_left s.gone).trans ?_
      have a1 : (s.gone ++ (r ++ (T.set l.2.toNat []).flatten)).Perm (s.gone ++ ((W :: g) ++ (T.set l.2.toNat []).flatten)) := (hr.append_right _).append_left _
      refine a1.trans ?_
      have a2 : (s.gone ++ ((W :: g) ++ (T.set l.2.toNat []).flatten)).Perm (W :: (s.gone ++ (g ++ (T.set l.2.toNat []).flatten))) := List.perm_middle
      exact a2.trans ((p1.symm.append_left s.gone).cons W)
    have hlen : ∀ (i : Nat) h x, (T.set l.2.toNat (if e = 0 then W :: g else g ++ [W]))[i]? = some h → devs[i]? = some x → x.2 ≠ 0 → h.length ≤ x.2 := fun i h x e1 e2 e3 => by
      rw [List.getElem?_set] at e1
      split at e1
      · rename_i hi
        subst hi
        have el : h.length = g.length + 1 := by
          cases e1
          split
          · rfl
          · rw [List.length_append]; rfl
        have hd1 : dv devs l.2 = x := getD_some e2
        have hr2 : (hd s l.2).length < x.2 := by
          unfold roomy at hroom
          rw [hd1, Bool.or_eq_true] at hroom
          rcases hroom with z | z
          · exact absurd (of_decide_eq_true z) e3
          · exact of_decide_eq_true z
        have hle : g.length ≤ (hd s l.2).length := by
          rw [← hg, ← hT]
          unfold takenM
          split
          · exact Nat.le_refl _
          · rename_i hs0
            have hs1 : ¬ l.1 < 0 := hs0
            by_cases hij : l.1.toNat = l.2.toNat
            · have hlt2 : l.2.toNat < s.held.length := by rw [V.len]; omega
              have hij' : hd s l.1 = hd s l.2 := by unfold hd; rw [hij]
              have e0 : (s.held.set l.1.toNat (if o = 0 then (hd s l.1).drop 1 else (hd s l.1).dropLast)).getD l.2.toNat [] = (if o = 0 then (hd s l.1).drop 1 else (hd s l.1).dropLast) := getD_some (by rw [← hij, List.getElem?_set_self (by rw [hij]; exact hlt2)])
              rw [e0, hij']
              split
              · rw [List.length_drop]; omega
              · rw [List.length_dropLast]; omega
            · have e0 : (s.held.set l.1.toNat (if o = 0 then (hd s l.1).drop 1 else (hd s l.1).dropLast)).getD l.2.toNat [] = hd s l.2 := by
                rw [List.getD_eq_getElem?_getD, List.getElem?_set_ne hij, ← List.getD_eq_getElem?_getD]
                rfl
              rw [e0]
              exact Nat.le_refl _
        omega
      · exact t4 i h x e1 e2 e3
    refine ⟨t3, by show (T.set _ _).length = _; rw [List.length_set]; exact t1, hlen, ?_⟩
    refine List.Perm.trans (hnew _ ?_) t2
    split
    · exact List.Perm.refl _
    · exact List.perm_append_comm
/-! ### how many situations there are -/
def ins1 (x : Int) : List Int → List (List Int)
  | [] => [[x]]
  | y :: r => (x :: y :: r) :: (ins1 x r).map (y :: ·)
def perms : List Int → List (List Int)
  | [] => [[]]
  | x :: xs => (perms xs).flatMap (ins1 x)
theorem ins1_mem (x : Int) : ∀ (a b : List Int), a ++ x :: b ∈ ins1 x (a ++ b)
  | [], [] => List.mem_singleton.mpr rfl
  | [], _ :: _ => List.mem_cons_self
  | y :: a, b => by
    show y :: (a ++ x :: b) ∈ (x :: y :: (a ++ b)) :: (ins1 x (a ++ b)).map (y :: ·)
    exact List.mem_cons_of_mem _ (List.mem_map.mpr ⟨_, ins1_mem x a b, rfl⟩)
theorem ins1_len (x : Int) : ∀ l : List Int, (ins1 x l).length = l.length + 1
  | [] => rfl
  | y :: r => by
    show ((ins1 x r).map (y :: ·)).length + 1 = _
    rw [List.length_map, ins1_len x r]
    rfl
theorem ins1_each (x : Int) : ∀ (l p : List Int), p ∈ ins1 x l → p.length = l.length + 1
  | [], p, h => by
    rw [List.mem_singleton.mp h]
    rfl
  | y :: r, p, h => by
    rcases List.mem_cons.mp h with e | h
    · rw [e]
      rfl
    · obtain ⟨q, hq, e⟩ := List.mem_map.mp h
      rw [← e, List.length_cons, ins1_each x r q hq]
      rfl
theorem perms_mem : ∀ (l p : List Int), p.Perm l → p ∈ perms l
  | [], p, h => by
    rw [List.Perm.eq_nil h]
    exact List.mem_singleton.mpr rfl
  | x :: xs, p, h => by
    have hx : x ∈ p := h.mem_iff.mpr List.mem_cons_self
    obtain ⟨a, b, e⟩ := List.append_of_mem hx
    subst e
    have h2 : (a ++ b).Perm xs := (List.perm_middle.symm.trans h).cons_inv
    exact List.mem_flatMap.mpr ⟨a ++ b, perms_mem xs _ h2, ins1_mem x a b⟩
def fact : Nat → Nat
  | 0 => 1
  | n + 1 => (n + 1) * fact n
theorem sum_const {α : Type} (f : α → Nat) (c : Nat) : ∀ l : List α, (∀ x ∈ l, f x = c) → (l.map f).sum = l.length * c
  | [], _ => by simp
  | x :: l, h => by
    rw [List.map_cons, List.sum_cons, sum_const f c l fun y hy => h y (List.mem_cons_of_mem _ hy), h x List.mem_cons_self, List.length_cons, Nat.add_mul]
    omega
theorem sum_le {α : Type} (f g : α → Nat) : ∀ l : List α, (∀ x ∈ l, f x ≤ g x) → (l.map f).sum ≤ (l.map g).sum
  | [], _ => Nat.le_refl _
  | x :: l, h => by
    rw [List.map_cons, List.map_cons, List.sum_cons, List.sum_cons]
    exact Nat.add_le_add (h x List.mem_cons_self) (sum_le f g l fun y hy => h y (List.mem_cons_of_mem _ hy))
theorem perms_each : ∀ (l p : List Int), p ∈ perms l → p.length = l.length
  | [], p, h => by
    rw [List.mem_singleton.mp h]
  | x :: xs, p, h => by
    obtain ⟨q, hq, h⟩ := List.mem_flatMap.mp h
    rw [ins1_each x q p h, perms_each xs q hq]
    rfl
theorem perms_len : ∀ l : List Int, (perms l).length = fact l.length
  | [] => rfl
  | x :: xs => by
    show ((perms xs).flatMap (ins1 x)).length = _
    rw [List.length_flatMap, sum_const (fun a => (ins1 x a).length) (xs.length + 1) _ fun p hp => by rw [ins1_len, perms_each xs p hp], perms_len xs, Nat.mul_comm]
    rfl
def splits : Nat → List Int → List (List (List Int))
  | 0, p => if p.isEmpty then [[]] else []
  | k + 1, p => (List.range (p.length + 1)).flatMap fun i => (splits k (p.drop i)).map (p.take i :: ·)
def sc : Nat → Nat → Nat
  | 0, n => if n = 0 then 1 else 0
  | k + 1, n => ((List.range (n + 1)).map fun i => sc k (n - i)).sum
theorem splits_mem : ∀ (h : List (List Int)), h ∈ splits h.length h.flatten
  | [] => List.mem_singleton.mpr rfl
  | x :: r => by
    show x :: r ∈ (List.range ((x ++ r.flatten).length + 1)).flatMap fun i => (splits r.length ((x ++ r.flatten).drop i)).map ((x ++ r.flatten).take i :: ·)
    refine List.mem_flatMap.mpr ⟨x.length, List.mem_range.mpr (by rw [List.length_append]; omega), ?_⟩
    rw [List.drop_left, List.take_left]
    exact List.mem_map.mpr ⟨r, splits_mem r, rfl⟩
theorem splits_len : ∀ (k : Nat) (p : List Int), (splits k p).length = sc k p.length
  | 0, [] => rfl
  | 0, _ :: _ => rfl
  | k + 1, p => by
    show ((List.range (p.length + 1)).flatMap fun i => (splits k (p.drop i)).map (p.take i :: ·)).length = ((List.range (p.length + 1)).map fun i => sc k (p.length - i)).sum
    rw [List.length_flatMap]
    congr 1
    refine List.map_congr_left fun i _ => ?_
    rw [List.length_map, splits_len k, List.length_drop]
def sitsAt (k : Nat) (row : List Int) (c g : Nat) : List Sit :=
  if ((row.take c).filter fun x => decide ((g : Int) < x)).length = c - g then (perms ((row.take c).filter fun x => decide ((g : Int) < x))).flatMap fun p => (splits k p).map fun h => ⟨c, h, iota g⟩ else []
def allSits (k : Nat) (row : List Int) : List Sit := (List.range (row.length + 1)).flatMap fun c => (List.range (c + 1)).flatMap fun g => sitsAt k row c g
def total (k n : Nat) : Nat := ((List.range (n + 1)).map fun c => ((List.range (c + 1)).map fun g => fact (c - g) * sc k (c - g)).sum).sum
theorem sitsAt_len (k : Nat) (row : List Int) (c g : Nat) : (sitsAt k row c g).length ≤ fact (c - g) * sc k (c - g) := by
  unfold sitsAt
  split
  · rename_i e
    rw [List.length_flatMap, sum_const (fun p => ((splits k p).map fun h => (⟨c, h, iota g⟩ : Sit)).length) (sc k (c - g)) _ fun p hp => by rw [List.length_map, splits_len, perms_each _ p hp, e], perms_len, e]
    exact Nat.le_refl _
  · exact Nat.zero_le _
theorem allSits_len (k : Nat) (row : List Int) : (allSits k row).length ≤ total k row.length := by
  unfold allSits total
  rw [List.length_flatMap]
  refine sum_le _ _ _ fun c _ => ?_
  rw [List.length_flatMap]
  exact sum_le _ _ _ fun g _ => sitsAt_len k row c g
theorem iota_mem {n : Nat} {x : Int} : x ∈ iota n ↔ 1 ≤ x ∧ x ≤ n := by
  unfold iota
  rw [List.mem_map]
  constructor
  · rintro ⟨i, hi, e⟩
    have := List.mem_range.mp hi
    omega
  · intro h
    exact ⟨(x - 1).toNat, List.mem_range.mpr (by omega), by omega⟩
theorem iota_nodup (n : Nat) : (iota n).Nodup := by
  unfold iota
  rw [List.nodup_iff_pairwise_ne, List.pairwise_map]
  have h : List.Pairwise (fun a b : Nat => a ≠ b) (List.range n) := List.nodup_iff_pairwise_ne.mp List.nodup_range
  exact h.imp fun {a b} hab e => hab (by omega)
/-- a row: the wagons 1 to n in some order -/
def IsRow (row : List Int) : Prop := row.Perm (iota row.length)
theorem allSits_mem {devs : Devs} {row : List Int} {s : Sit} (R : IsRow row) (V : Valid devs row s) (L : Live s) : s ∈ allSits devs.length row := by
  obtain ⟨c, held, gone⟩ := s
  obtain ⟨v1, v2, _, v4⟩ := V
  simp only at v1 v2 v4
  have hg : gone = iota gone.length := L
  generalize hgl : gone.length = g at hg
  subst hg
  have hlt : (row.take c).length = c := by rw [List.length_take]; omega
  have hlen : g + held.flatten.length = c := by
    have := v4.length_eq
    rw [List.length_append, hgl, hlt] at this
    exact this
  have ndr : row.Nodup := R.nodup_iff.mpr (iota_nodup _)
  have ndt : (row.take c).Nodup := ndr.sublist (List.take_sublist _ _)
  have nda := v4.nodup_iff.mpr ndt
  rw [List.nodup_append] at nda
  obtain ⟨_, _, dis⟩ := nda
  have hpos : ∀ x ∈ held.flatten, (g : Int) < x := fun x hx => by
    have h1 : x ∈ row.take c := v4.mem_iff.mp (List.mem_append_right _ hx)
    have h2 : x ∈ iota row.length := R.mem_iff.mp (List.mem_of_mem_take h1)
    have h3 := iota_mem.mp h2
    have h4 : x ∉ iota g := fun z => dis x z x hx rfl
    have h5 : ¬ (1 ≤ x ∧ x ≤ g) := fun z => h4 (iota_mem.mpr z)
    omega
  have hf : ((row.take c).filter fun x => decide ((g : Int) < x)).Perm held.flatten := by
    refine (v4.symm.filter _).trans ?_
    rw [List.filter_append, List.filter_eq_nil_iff.mpr (fun x hx => by
      have := (iota_mem.mp hx).2
      simp
      omega), List.filter_eq_self.mpr fun x hx => decide_eq_true (hpos x hx), List.nil_append]
  unfold allSits
  refine List.mem_flatMap.mpr ⟨c, List.mem_range.mpr (by omega), List.mem_flatMap.mpr ⟨g, List.mem_range.mpr (by omega), ?_⟩⟩
  unfold sitsAt
  rw [if_pos (by rw [hf.length_eq]; omega)]
  refine List.mem_flatMap.mpr ⟨held.flatten, perms_mem _ _ hf.symm, List.mem_map.mpr ⟨held, ?_, rfl⟩⟩
  rw [← v2]
  exact splits_mem held
theorem pigeon {α : Type} [DecidableEq α] : ∀ {l m : List α}, l.Nodup → (∀ x ∈ l, x ∈ m) → l.length ≤ m.length
  | [], _, _, _ => Nat.zero_le _
  | x :: l, m, nd, h => by
    obtain ⟨h1, h2⟩ := List.nodup_cons.mp nd
    have hx : x ∈ m := h x List.mem_cons_self
    have hl := pigeon (l := l) (m := m.erase x) h2 fun y hy => (List.mem_erase_of_ne fun e : y = x => h1 (by rw [← e]; exact hy)).mpr (h y (List.mem_cons_of_mem _ hy))
    have he := List.length_erase_of_mem hx
    have hpos : 0 < m.length := List.length_pos_of_mem hx
    rw [List.length_cons]
    omega
/-- few devices, few wagons -/
def Small (k n : Nat) : Prop := total k n ≤ 3999
theorem small_1 {n : Nat} (h : n ≤ 5) : Small 1 n := by
  unfold Small
  have : n = 0 ∨ n = 1 ∨ n = 2 ∨ n = 3 ∨ n = 4 ∨ n = 5 := by omega
  rcases this with e | e | e | e | e | e <;> subst e <;> decide
theorem small_2 {n : Nat} (h : n ≤ 5) : Small 2 n := by
  unfold Small
  have : n = 0 ∨ n = 1 ∨ n = 2 ∨ n = 3 ∨ n = 4 ∨ n = 5 := by omega
  rcases this with e | e | e | e | e | e <;> subst e <;> decide
theorem small_3 {n : Nat} (h : n ≤ 4) : Small 3 n := by
  unfold Small
  have : n = 0 ∨ n = 1 ∨ n = 2 ∨ n = 3 ∨ n = 4 := by omega
  rcases this with e | e | e | e | e <;> subst e <;> decide

/-! ### ways and closed lists -/
inductive Path (devs : Devs) (links : List (Int × Int)) (row : List Int) : Sit → List Mv → Sit → Prop
  | nil (s : Sit) : Path devs links row s [] s
  | cons {s t : Sit} {m : Mv} {ms : List Mv} : m ∈ rawMoves devs links row.length s → Live (afterM row s m) → Path devs links row (afterM row s m) ms t → Path devs links row s (m :: ms) t
def IsWay (devs : Devs) (links : List (Int × Int)) (row : List Int) (ms : List Mv) : Prop := ∃ t, Path devs links row (startM devs.length) ms t ∧ t.gone.length = row.length
structure Closed (devs : Devs) (links : List (Int × Int)) (row : List Int) (S : List Sit) : Prop where
  start : startM devs.length ∈ S
  nogoal : ∀ s ∈ S, s.gone.length ≠ row.length
  ok : ∀ s ∈ S, Valid devs row s ∧ Live s
  next : ∀ s ∈ S, ∀ m ∈ rawMoves devs links row.length s, Live (afterM row s m) → afterM row s m ∈ S
theorem Path.stays {devs : Devs} {links : List (Int × Int)} {row : List Int} {S : List Sit} (C : Closed devs links row S) : ∀ {s t : Sit} {ms : List Mv}, Path devs links row s ms t → s ∈ S → t ∈ S
  | _, _, _, .nil _, h => h
  | _, _, _, .cons h1 h2 h3, h => Path.stays C h3 (C.next _ h _ h1 h2)
theorem way_closed {devs : Devs} {links : List (Int × Int)} {row : List Int} {S : List Sit} {ms : List Mv} (C : Closed devs links row S) (W : IsWay devs links row ms) : False := by
  obtain ⟨t, p, e⟩ := W
  exact C.nogoal t (p.stays C C.start) e
structure SrInv (devs : Devs) (links : List (Int × Int)) (row : List Int) (met : List Sit) (org : List (Option (Nat × Mv))) : Prop where
  nd : met.Nodup
  ok : ∀ s ∈ met, Valid devs row s ∧ Live s
  first : met[0]? = some (startM devs.length)
  org0 : org[0]? = some none
  olen : org.length = met.length
  par : ∀ i, 0 < i → i < met.length → ∃ j m s t, org[i]? = some (some (j, m)) ∧ j < i ∧ met[j]? = some s ∧ met[i]? = some t ∧ m ∈ rawMoves devs links row.length s ∧ t = afterM row s m
theorem SrInv.init {devs : Devs} {links : List (Int × Int)} {row : List Int} : SrInv devs links row [startM devs.length] [none] := by
  refine ⟨by simp, fun s hs => ?_, rfl, rfl, rfl, fun i h1 h2 => ?_⟩
  · rw [List.mem_singleton.mp hs]
    exact ⟨Valid.start _ _, Live.start _⟩
  · simp at h2
    omega
theorem SrInv.push {devs : Devs} {links : List (Int × Int)} {row : List Int} {met : List Sit} {org : List (Option (Nat × Mv))} {idx : Nat} {s : Sit} {m : Mv} (I : SrInv devs links row met org) (L : LinksOk devs.length links) (hs : met[idx]? = some s) (hm : m ∈ rawMoves devs links row.length s)
    (hn : afterM row s m ∉ met) (hl : Live (afterM row s m)) : SrInv devs links row (met ++ [afterM row s m]) (org ++ [some (idx, m)]) := by
  have hidx : idx < met.length := (List.getElem?_eq_some_iff.mp hs).1
  refine ⟨?_, fun t ht => ?_, ?_, ?_, by simp [I.olen], fun i h1 h2 => ?_⟩
  · rw [List.nodup_append]
    refine ⟨I.nd, by simp, fun a ha b hb e => ?_⟩
    rw [List.mem_singleton.mp hb] at e
    exact hn (e ▸ ha)
  · rcases List.mem_append.mp ht with h | h
    · exact I.ok t h
    · rw [List.mem_singleton.mp h]
      exact ⟨after_valid (I.ok s (List.mem_of_getElem? hs)).1 L hm, hl⟩
  · rw [List.getElem?_append_left (by omega)]
    exact I.first
  · rw [List.getElem?_append_left (by rw [I.olen]; omega)]
    exact I.org0
  · rw [List.length_append, List.length_singleton] at h2
    by_cases h : i < met.length
    · obtain ⟨j, m', s', t', e1, e2, e3, e4, e5, e6⟩ := I.par i h1 h
      exact ⟨j, m', s', t', by rw [List.getElem?_append_left (by rw [I.olen]; exact h)]; exact e1, e2, by rw [List.getElem?_append_left (by omega)]; exact e3, by rw [List.getElem?_append_left h]; exact e4, e5, e6⟩
    · have hi : i = met.length := by omega
      subst hi
      refine ⟨idx, m, s, _, ?_, hidx, by rw [List.getElem?_append_left hidx]; exact hs, by simp, hm, rfl⟩
      rw [← I.olen]
      simp
theorem SrInv.few {devs : Devs} {links : List (Int × Int)} {row : List Int} {met : List Sit} {org : List (Option (Nat × Mv))} (I : SrInv devs links row met org) (R : IsRow row) (S : Small devs.length row.length) : met.length ≤ 3999 :=
  Nat.le_trans (pigeon I.nd fun s hs => allSits_mem R (I.ok s hs).1 (I.ok s hs).2) (Nat.le_trans (allSits_len _ _) S)
end K23

set_option maxHeartbeats 4000000
/-! How the plain things stand as data. -/
namespace K23
open PySem PySem.Spec PyProof.Rows L2

def Kd.str : Kd → Str
  | .s => "s" | .q => "q" | .d => "d" | .i => "i" | .o => "o"
def dI (xs : List Int) : List D := xs.map D.int
def encRow (xs : List Int) : D := .lst (dI xs)
def encI (xs : List Int) : D := .tup (dI xs)
def encSit (s : Sit) : D := .tup [.int s.came, .tup (s.held.map encI), encI s.gone]
def encMv (m : Mv) : D := .tup [.int m.src, .int m.so, .int m.tgt, .int m.te]
def encL (l : Int × Int) : D := .tup [.int l.1, .int l.2]
def encB (b : Nat) : D := if b = 0 then .non else .int b
structure Yd where
  text : Str
  devs : Devs
  links : List (Int × Int)
abbrev yN : List Str := ["text", "kinds", "bounds", "links"]
def encK (x : Kd × Nat) : D := .str x.1.str
def yardF (y : Yd) : List D := [.str y.text, .lst (y.devs.map encK), .lst (y.devs.map fun x => encB x.2), .lst (y.links.map encL)]
def yardD (C : Addr) (y : Yd) : D := .ins C yN (yardF y)

/-! dI -/
theorem okDs_ints : ∀ xs : List Int, okDs (dI xs) = true
  | [] => rfl
  | _ :: xs => by
    show (true && okDs (dI xs)) = true
    rw [okDs_ints xs]
    rfl
theorem toPs_ints : ∀ xs : List Int, toPs (dI xs) = xs.map .int
  | [] => rfl
  | x :: xs => by
    show PyData.int x :: toPs (dI xs) = _
    rw [toPs_ints xs]
    rfl
theorem lay_ints : ∀ xs : List Int, PyData.canLayAll0 (xs.map .int) = true
  | [] => by simp [PyData.canLayAll0]
  | x :: xs => by simp [PyData.canLayAll0, PyData.canLay0, lay_ints xs]
theorem shaped_of {d : PyData} (h1 : d.canLay0 = true) (h2 : d.depth ≤ 64) : SeqAt.shaped d = true := by
  show (d.canLay0 && decide (d.depth ≤ 64)) = true
  rw [h1, decide_eq_true h2]
  rfl
theorem good_ints (xs : List Int) : good (encRow xs) := by
  refine ⟨okDs_ints xs, shaped_of ?_ ?_⟩
  · show (PyData.list (toPs (dI xs))).canLay0 = true
    rw [toPs_ints]
    simp [PyData.canLay0, lay_ints]
  · show (PyData.list (toPs (dI xs))).depth ≤ 64
    rw [toPs_ints]
    simp [PyData.depth, PySem.W.depth_ints]
theorem eqv_ints : ∀ xs ys : List Int, PyData.eqvAll (xs.map .int) (ys.map .int) = decide (xs = ys)
  | [], [] => rfl
  | [], _ :: _ => rfl
  | _ :: _, [] => rfl
  | x :: xs, y :: ys => by
    show (PyData.eqv (.int x) (.int y) && PyData.eqvAll (xs.map .int) (ys.map .int)) = _
    rw [eqv_ints xs ys]
    by_cases h : x = y
    · subst h
      simp [PyData.eqv]
    · simp [PyData.eqv, h]
theorem eqv_rows (xs ys : List Int) : PyData.eqv (toP (encRow xs)) (toP (encRow ys)) = decide (xs = ys) := by
  show PyData.eqv (.list (toPs (dI xs))) (.list (toPs (dI ys))) = _
  rw [toPs_ints, toPs_ints]
  simp only [PyData.eqv]
  exact eqv_ints xs ys
theorem rg_iota (n : Nat) : (rgV 1 ((n : Int) + 1)).map D.v = dI (iota n) := by
  unfold rgV dI iota
  have e : ((n : Int) + 1 - 1).toNat = n := by omega
  rw [e, List.map_map, List.map_map]
  rfl
theorem ints_len (xs : List Int) : (dI xs).length = xs.length := List.length_map _
/-- sorted dI that are a row are 1, 2, .. -/
theorem srt_ints_sorted (xs : List Int) : (srt D.int xs).Pairwise (· ≤ ·) := by
  unfold srt
  have e : (PySem.W.dataLe false fun a : Int => toP (D.int a)) = fun a b => decide (a ≤ b) := PySem.W.dataLe_int (fun a : Int => a)
  rw [e]
  have h := List.pairwise_mergeSort (le := fun a b : Int => decide (a ≤ b)) (fun a b c h1 h2 => by
    simp only [decide_eq_true_eq] at *
    omega) (fun a b => by
    simp only [Bool.or_eq_true, decide_eq_true_eq]
    omega) xs
  exact h.imp fun {a b} h => of_decide_eq_true h
theorem iota_sorted (n : Nat) : (iota n).Pairwise (· ≤ ·) := by
  unfold iota
  rw [List.pairwise_map]
  exact (List.pairwise_lt_range (n := n)).imp fun {a b} h => by omega
theorem sorted_same : ∀ {l m : List Int}, l.Perm m → l.Pairwise (· ≤ ·) → m.Pairwise (· ≤ ·) → l = m
  | [], m, p, _, _ => (List.Perm.eq_nil p.symm).symm
  | x :: l, [], p, _, _ => absurd p.length_eq (by simp)
  | x :: l, y :: m, p, hl, hm => by
    obtain ⟨h1, h2⟩ := List.pairwise_cons.mp hl
    obtain ⟨k1, k2⟩ := List.pairwise_cons.mp hm
    have hx : x ∈ y :: m := p.mem_iff.mp List.mem_cons_self
    have hy : y ∈ x :: l := p.mem_iff.mpr List.mem_cons_self
    have e : x = y := by
      rcases List.mem_cons.mp hx with e | hx
      · exact e
      · rcases List.mem_cons.mp hy with e | hy
        · exact e.symm
        · have a := k1 x hx
          have b := h1 y hy
          omega
    subst e
    rw [sorted_same p.cons_inv h2 k2]
theorem srt_row {row : List Int} (R : IsRow row) : srt D.int row = iota row.length := sorted_same ((srt_perm _ _).trans R) (srt_ints_sorted _) (iota_sorted _)
theorem srt_same {xs ys : List Int} (h : xs.Perm ys) : srt D.int xs = srt D.int ys := sorted_same ((srt_perm _ _).trans (h.trans (srt_perm _ _).symm)) (srt_ints_sorted _) (srt_ints_sorted _)

/-! keys -/
theorem toNs_ints : ∀ xs : List Int, toNs (dI xs) = xs.map .num
  | [] => rfl
  | x :: xs => by
    show NestedKey.num x :: toNs (dI xs) = _
    rw [toNs_ints xs]
    rfl
theorem okNs_ints : ∀ xs : List Int, okNs (dI xs) = true
  | [] => rfl
  | _ :: xs => by
    show (true && okNs (dI xs)) = true
    rw [okNs_ints xs]
    rfl
theorem depth_nums : ∀ xs : List Int, NestedKey.depthAll (xs.map .num) = 0
  | [] => by simp [NestedKey.depthAll]
  | _ :: xs => by simp [NestedKey.depthAll, NestedKey.depth, depth_nums xs]
def nkHeld (hs : List (List Int)) : List NestedKey := hs.map fun h => .tup (h.map .num)
theorem toNs_held : ∀ hs : List (List Int), toNs (hs.map encI) = nkHeld hs
  | [] => rfl
  | h :: hs => by
    show NestedKey.tup (toNs (dI h)) :: toNs (hs.map encI) = _
    rw [toNs_ints, toNs_held hs]
    rfl
theorem okNs_held : ∀ hs : List (List Int), okNs (hs.map encI) = true
  | [] => rfl
  | h :: hs => by
    show (okNs (dI h) && okNs (hs.map encI)) = true
    rw [okNs_ints, okNs_held hs]
    rfl
theorem depth_held : ∀ hs : List (List Int), NestedKey.depthAll (nkHeld hs) ≤ 1
  | [] => by simp [nkHeld, NestedKey.depthAll]
  | h :: hs => by
    have ih := depth_held hs
    show NestedKey.depthAll (.tup (h.map .num) :: nkHeld hs) ≤ 1
    simp only [NestedKey.depthAll, NestedKey.depth, depth_nums]
    omega
theorem toN_sit (s : Sit) : toN (encSit s) = .tup [.num s.came, .tup (nkHeld s.held), .tup (s.gone.map .num)] := by
  show NestedKey.tup [.num s.came, .tup (toNs (s.held.map encI)), .tup (toNs (dI s.gone))] = _
  rw [toNs_held, toNs_ints]
theorem okN_sit (s : Sit) : okN (encSit s) = true := by
  show (true && (okNs (s.held.map encI) && (okNs (dI s.gone) && true))) = true
  rw [okNs_held, okNs_ints]
  rfl
theorem depth_sit (s : Sit) : (toN (encSit s)).depth ≤ 8 := by
  rw [toN_sit]
  have := depth_held s.held
  simp only [NestedKey.depth, NestedKey.depthAll, depth_nums]
  omega
theorem nums_inj {xs ys : List Int} (h : xs.map NestedKey.num = ys.map NestedKey.num) : xs = ys := by
  induction xs generalizing ys with
  | nil =>
    cases ys with
    | nil => rfl
    | cons y ys => cases h
  | cons x xs ih =>
    cases ys with
    | nil => cases h
    | cons y ys =>
      rw [List.map_cons, List.map_cons] at h
      injection h with h1 h2
      injection h1 with h1
      rw [h1, ih h2]
theorem held_inj {xs ys : List (List Int)} (h : nkHeld xs = nkHeld ys) : xs = ys := by
  induction xs generalizing ys with
  | nil =>
    cases ys with
    | nil => rfl
    | cons y ys => cases h
  | cons x xs ih =>
    cases ys with
    | nil => cases h
    | cons y ys =>
      have h' : NestedKey.tup (x.map .num) :: nkHeld xs = NestedKey.tup (y.map .num) :: nkHeld ys := h
      injection h' with h1 h2
      injection h1 with h1
      rw [nums_inj h1, ih h2]
theorem sit_inj {s t : Sit} (h : toN (encSit s) = toN (encSit t)) : s = t := by
  rw [toN_sit, toN_sit] at h
  injection h with h
  injection h with h1 h
  injection h with h2 h
  injection h with h3 _
  injection h1 with h1
  injection h2 with h2
  injection h3 with h3
  obtain ⟨c, a, g⟩ := s
  obtain ⟨c', a', g'⟩ := t
  have e1 : c = c' := Int.ofNat_inj.mp h1
  have e2 := held_inj h2
  have e3 := nums_inj h3
  simp only at e2 e3
  rw [e1, e2, e3]
theorem mem_sits (s : Sit) (met : List Sit) : toN (encSit s) ∈ (met.map encSit).map toN ↔ s ∈ met := by
  rw [List.map_map, List.mem_map]
  constructor
  · rintro ⟨t, ht, e⟩
    have e' : t = s := sit_inj e
    rw [← e']
    exact ht
  · intro h
    exact ⟨s, h, rfl⟩
theorem dec_sits (s : Sit) (met : List Sit) : decide (toN (encSit s) ∈ (met.map encSit).map toN) = decide (s ∈ met) := by
  by_cases h : s ∈ met
  · rw [decide_eq_true h, decide_eq_true ((mem_sits s met).mpr h)]
  · rw [decide_eq_false h, decide_eq_false fun z => h ((mem_sits s met).mp z)]

/-! moves, links, situations sorted -/
theorem alike_L (a b : Int × Int) : PySem.W.alike (toP (encL a)) (toP (encL b)) = true := rfl
theorem alike_M (a b : Mv) : PySem.W.alike (toP (encMv a)) (toP (encMv b)) = true := rfl
theorem alike_held : ∀ a b : List (List Int), PySem.W.alikeAll (toPs (a.map encI)) (toPs (b.map encI)) = true
  | [], b => by
    show PySem.W.alikeAll [] _ = true
    rw [PySem.W.alikeAll]
  | x :: a, [] => rfl
  | x :: a, y :: b => by
    show PySem.W.alikeAll (.tuple (toPs (dI x)) :: toPs (a.map encI)) (.tuple (toPs (dI y)) :: toPs (b.map encI)) = true
    rw [PySem.W.alikeAll, PySem.W.alike, toPs_ints, toPs_ints, PySem.W.alike_ints, alike_held a b]
    rfl
theorem alike_S (a b : Sit) : PySem.W.alike (toP (encSit a)) (toP (encSit b)) = true := by
  show PySem.W.alike (.tuple [.int a.came, .tuple (toPs (a.held.map encI)), .tuple (toPs (dI a.gone))]) (.tuple [.int b.came, .tuple (toPs (b.held.map encI)), .tuple (toPs (dI b.gone))]) = true
  simp only [PySem.W.alike, PySem.W.alikeAll, alike_held, toPs_ints, PySem.W.alike_ints, Bool.and_true]
theorem okDs_held : ∀ hs : List (List Int), okDs (hs.map encI) = true
  | [] => rfl
  | h :: hs => by
    show (okDs (dI h) && okDs (hs.map encI)) = true
    rw [okDs_ints, okDs_held hs]
    rfl
theorem okD_sit (s : Sit) : okD (encSit s) = true := by
  show (true && (okDs (s.held.map encI) && (okDs (dI s.gone) && true))) = true
  rw [okDs_held, okDs_ints]
  rfl
theorem depthP_held : ∀ hs : List (List Int), PyData.depthAll (toPs (hs.map encI)) ≤ 1
  | [] => by simp [toPs, PyData.depthAll]
  | h :: hs => by
    have ih := depthP_held hs
    show PyData.depthAll (.tuple (toPs (dI h)) :: toPs (hs.map encI)) ≤ 1
    rw [toPs_ints]
    simp only [PyData.depthAll, PyData.depth, PySem.W.depth_ints]
    omega
theorem depthP_sit (s : Sit) : (toP (encSit s)).depth ≤ 32 := by
  have := depthP_held s.held
  show (PyData.tuple [.int s.came, .tuple (toPs (s.held.map encI)), .tuple (toPs (dI s.gone))]).depth ≤ 32
  rw [toPs_ints]
  simp only [PyData.depth, PyData.depthAll, PySem.W.depth_ints]
  omega

/-! ### the module's names -/
structure Tx (w : World) (K : PySem.W.Frag) (mg : Str → Option Value) : Prop where
  len : mg "len" = none
  sorted : mg "sorted" = none
  list : mg "list" = none
  range : mg "range" = none
  tuple : mg "tuple" = none
  int : mg "int" = none
  str : mg "str" = none
  min : mg "min" = none
  isinstance : mg "isinstance" = none
  enumerate : mg "enumerate" = none
  mostRows : GV mg "MOST_rows" (.int 60)
  mostYards : GV mg "MOST_yards" (.int 8)
  mostSits : GV mg "MOST_SITUATIONS" (.int 4000)
  left : GV mg "LEFT" (.int 0)
  outside : GV mg "OUTSIDE" (.int (-1))
  kinds : GV mg "KINDS" (.str "sqdio")
  bounds : GV mg "BOUNDS" (.str "123456")
theorem pv1 {X : Cx} {k : Nat} (hr : Room k X.A) : X.A.units + 64 < cLine := hr.units
theorem pv2 {X : Cx} {k : Nat} (hr : Room k X.A) : X.A.units + 65 < cLine := by
  have := hr.un
  omega
section
variable {P : Program} {w : World} {K : PySem.W.Frag} {mg : Str → Option Value} {base : Heap} {f : Addr} {fd : FuncData}
def cIsRow : Ctr := fun args M Kx => ∃ row, IsRow row ∧ row.length ≤ 60 ∧ args = [encRow row] ∧ M = [] ∧ Kx = KD (.bl true) []
theorem ok_is_row (Fn : Fun K "is_row" "is_row" s_is_row f fd) (T : Tx w K mg) : FnOk P w K mg base CX0 1 f fd ["numbers"] (toSp w cIsRow) :=
  fn_ok Fn sc_is_row (by rintro _ _ _ ⟨row, _, _, rfl, _⟩; rfl) fun b F args M Kx hw hP hc hr => by
    obtain ⟨row, R, hl, rfl, rfl, rfl⟩ := hc
    refine gb_when (et_gt (ev_lenL T.len (ev_v 0)) (ev_g T.mostRows)) (fun h => ?_) fun _ => ?_
    · have h2 := of_decide_eq_true h
      rw [ints_len] at h2
      omega
    · refine gb_retD (ev_eqD (pv1 hr) (ev_sorted (enc := D.int) (pv1 hr) T.sorted (ev_v 0) (fun _ _ => rfl) (fun _ _ _ _ => rfl) (.inr fun _ _ => ⟨(fun z => by cases z), (fun _ z => by cases z)⟩) fun _ _ => Nat.zero_le _)
        ((ev_range2 rfl T.list T.range ev_i (ev_add (ev_lenL T.len (ev_v 0)) ev_i) (by decide) (by decide) (by omega) (by rw [ints_len]; omega))) ?_ ?_) (hd := ?_)
      · exact good_ints _
      · rw [ints_len, rg_iota]
        exact good_ints _
      · rw [ints_len, rg_iota]
        show D.bl (PyData.eqv (toP (encRow (srt D.int row))) (toP (encRow (iota row.length)))) = _
        rw [eqv_rows, srt_row R, decide_eq_true rfl]
end
end K23

set_option maxHeartbeats 4000000
/-! Iterators by data, comprehensions, enumerate. -/
namespace K23
open PySem PySem.Spec PyProof.Rows L2

/-! ### iterators -/
structure ItD (F : Fm) (J : It) (xs : List D) (tsx : List (V × D)) : Prop where
  go : ∀ ds M ts σ H i, At F ds M (tsx ++ ts) σ H → i < xs.length → J.go i H
  stop : ∀ ds M ts σ H i, At F ds M (tsx ++ ts) σ H → xs.length ≤ i → J.stop i H
  yld : ∀ ds M ts σ H i v H', At F ds M (tsx ++ ts) σ H → i < xs.length → J.yld i H v H' → ∃ d, xs[i]? = some d ∧ At F ds M ((v, d) :: (tsx ++ ts)) σ H'
def HW (F : Fm) (ds : Slots) (M M1 : Cells) (wi : TI) (xs : List D) : Prop := ∀ (ts : List (V × D)) (σ : St) (H : Hp), At F ds M ts σ H → ∀ R : It → Hp → Prop, (∀ J tsx H', ItD F J xs tsx → At F ds M1 (tsx ++ ts) σ H' → R J H') → wi σ H R
theorem itd_list {F : Fm} {K : PySem.W.Frag} {xs : List D} {a : Addr} : ItD F (Itl K a) xs [(.ref a, .lst xs)] := by
  refine ⟨fun ds M ts σ H i A hi => ?_, fun ds M ts σ H i A hi => ?_, fun ds M ts σ H i v H' A hin y => ?_⟩
  · obtain ⟨b, vs, e1, e2, l, _⟩ := A.openL List.mem_cons_self
    cases e1
    exact ⟨vs, vs[i]'(by omega), SqL.of e2, List.getElem?_eq_getElem (by omega)⟩
  · obtain ⟨b, vs, e1, e2, l, _⟩ := A.openL List.mem_cons_self
    cases e1
    exact ⟨vs, SqL.of e2, by omega⟩
  · obtain ⟨b, vs, e1, e2, l, A2⟩ := A.openL List.mem_cons_self
    cases e1
    obtain ⟨e3, e4⟩ := y
    subst e3
    have hv := e4 _ (SqL.of e2)
    have hi : i < vs.length := (List.getElem?_eq_some_iff.mp hv).1
    refine ⟨xs[i]'(by omega), List.getElem?_eq_getElem (by omega), A2.sub fun t ht => ?_⟩
    rcases List.mem_cons.mp ht with z | z
    · rw [z]; exact List.mem_append_left _ (zip_mem hv (List.getElem?_eq_getElem (by omega)))
    · exact List.mem_append_right _ z
theorem itd_tup {F : Fm} {K : PySem.W.Frag} {xs : List D} {a : Addr} : ItD F (Itt K a) xs [(.ref a, .tup xs)] := by
  refine ⟨fun ds M ts σ H i A hi => ?_, fun ds M ts σ H i A hi => ?_, fun ds M ts σ H i v H' A hin y => ?_⟩
  · obtain ⟨b, vs, e1, e2, l, _⟩ := A.openT List.mem_cons_self
    cases e1
    exact ⟨vs, vs[i]'(by omega), .inl (.inl e2), List.getElem?_eq_getElem (by omega)⟩
  · obtain ⟨b, vs, e1, e2, l, _⟩ := A.openT List.mem_cons_self
    cases e1
    exact ⟨vs, .inl (.inl e2), by omega⟩
  · obtain ⟨b, vs, e1, e2, l, A2⟩ := A.openT List.mem_cons_self
    cases e1
    obtain ⟨e3, e4⟩ := y
    subst e3
    have hv := e4 _ (.inl (.inl e2))
    have hi : i < vs.length := (List.getElem?_eq_some_iff.mp hv).1
    refine ⟨xs[i]'(by omega), List.getElem?_eq_getElem (by omega), A2.sub fun t ht => ?_⟩
    rcases List.mem_cons.mp ht with z | z
    · rw [z]; exact List.mem_append_left _ (zip_mem hv (List.getElem?_eq_getElem (by omega)))
    · exact List.mem_append_right _ z
theorem At.scr {F : Fm} {ds : Slots} {M : Cells} {ts : List (V × D)} {σ : St} {H : Hp} {v : V} {K : PySem.W.Frag} {xs : List V} (A : At F ds M ts σ H) (h : (v, D.scr K xs) ∈ ts) : ∃ a, v = .ref a ∧ SqL K H a xs := by
  obtain ⟨G, W, S, T, C⟩ := A.ex
  cases T _ h with
  | scr r => exact ⟨_, rfl, r H W.le⟩
theorem itd_scr {F : Fm} {K : PySem.W.Frag} {xs : List V} {a : Addr} : ItD F (Itl K a) (xs.map D.v) [(.ref a, .scr K xs)] := by
  refine ⟨fun ds M ts σ H i A hi => ?_, fun ds M ts σ H i A hi => ?_, fun ds M ts σ H i v H' A hin y => ?_⟩
  · obtain ⟨b, e1, e2⟩ := A.scr List.mem_cons_self
    cases e1
    rw [List.length_map] at hi
    exact ⟨xs, xs[i], e2, List.getElem?_eq_getElem hi⟩
  · obtain ⟨b, e1, e2⟩ := A.scr List.mem_cons_self
    cases e1
    rw [List.length_map] at hi
    exact ⟨xs, e2, hi⟩
  · obtain ⟨b, e1, e2⟩ := A.scr List.mem_cons_self
    cases e1
    obtain ⟨e3, e4⟩ := y
    subst e3
    have hv := e4 _ e2
    refine ⟨.v v, by rw [List.getElem?_map, hv]; rfl, A.lit v⟩
def rngD (lo : Int) (n : Nat) : List D := (List.range n).map fun (i : Nat) => D.int (lo + i)
theorem itd_rng {F : Fm} {lo : Int} {n : Nat} : ItD F (Itr lo n) (rngD lo n) [] := by
  refine ⟨fun ds M ts σ H i A hi => ?_, fun ds M ts σ H i A hi => ?_, fun ds M ts σ H i v H' A hin y => ?_⟩
  · show i < n
    simpa [rngD] using hi
  · show n ≤ i
    simpa [rngD] using hi
  · obtain ⟨e1, e2⟩ := y
    subst e1 e2
    have hi : i < n := by simpa [rngD] using hin
    refine ⟨.int (lo + i), ?_, A.lit _⟩
    unfold rngD
    rw [List.getElem?_map, List.getElem?_range hi]
    rfl
/-- pairs of index and item -/
def enumD (xs : List D) : List D := (List.range xs.length).map fun (i : Nat) => D.tup [.int i, xs.getD i .non]
theorem enumD_len (xs : List D) : (enumD xs).length = xs.length := by simp [enumD]
theorem enumD_get {xs : List D} {i : Nat} {x : D} (h : xs[i]? = some x) : (enumD xs)[i]? = some (.tup [.int i, x]) := by
  have hi := (List.getElem?_eq_some_iff.mp h).1
  unfold enumD
  rw [List.getElem?_map, List.getElem?_range hi]
  simp [h]
theorem enum_yld {F : Fm} {ds : Slots} {M : Cells} {ts : List (V × D)} {σ : St} {H : Hp} {i : Nat} {u : V} {d : D} {T : Addr} (A : At F ds M ts σ H) (hm : (u, d) ∈ ts) (hT : H T = none) : At F ds M ((.ref T, .tup [.int i, d]) :: ts) σ (upd H T (.tup [.int (i : Nat), u])) :=
  A.alloc hT fun G' r e => .tup e (.cons (.v _) (.cons (r _ hm) .nil))
theorem itd_enum {F : Fm} {K : PySem.W.Frag} {xs : List D} {a : Addr} : ItD F (Ite K a) (enumD xs) [(.ref a, .lst xs)] := by
  refine ⟨fun ds M ts σ H i A hi => ?_, fun ds M ts σ H i A hi => ?_, fun ds M ts σ H i v H' A hin y => ?_⟩
  · rw [enumD_len] at hi
    obtain ⟨b, vs, e1, e2, l, _⟩ := A.openL List.mem_cons_self
    cases e1
    exact ⟨vs, vs[i]'(by omega), SqL.of e2, List.getElem?_eq_getElem (by omega)⟩
  · rw [enumD_len] at hi
    obtain ⟨b, vs, e1, e2, l, _⟩ := A.openL List.mem_cons_self
    cases e1
    exact ⟨vs, SqL.of e2, by omega⟩
  · obtain ⟨b, vs, e1, e2, l, A2⟩ := A.openL List.mem_cons_self
    cases e1
    obtain ⟨T, x, e3, e4, e5, e6⟩ := y
    subst e3 e5
    have hv := e6 _ (SqL.of e2)
    have hi : i < vs.length := (List.getElem?_eq_some_iff.mp hv).1
    have hx : xs[i]? = some (xs[i]'(by omega)) := List.getElem?_eq_getElem (by omega)
    refine ⟨_, enumD_get hx, (enum_yld A2 (List.mem_append_left _ (zip_mem hv hx)) e4).sub fun t ht => ?_⟩
    rcases List.mem_cons.mp ht with z | z
    · rw [z]; exact List.mem_cons_self
    · exact List.mem_cons_of_mem _ (List.mem_append_right _ z)

/-! ### enumerate(tuple) -/
def IteT (K : PySem.W.Frag) (a : Addr) : It where
  go := fun j H => ∃ (zs : List V) (z : V), SqT K H a zs ∧ zs[j]? = some z
  yld := fun j H v H' => ∃ T z, v = .ref T ∧ H T = none ∧ H' = upd H T (.tup [.int (j : Nat), z]) ∧ ∀ zs, SqT K H a zs → zs[j]? = some z
  stop := fun j H => ∃ zs : List V, SqT K H a zs ∧ zs.length ≤ j
theorem itd_enumT {F : Fm} {K : PySem.W.Frag} {xs : List D} {a : Addr} : ItD F (IteT K a) (enumD xs) [(.ref a, .tup xs)] := by
  refine ⟨fun ds M ts σ H i A hi => ?_, fun ds M ts σ H i A hi => ?_, fun ds M ts σ H i v H' A hin y => ?_⟩
  · rw [enumD_len] at hi
    obtain ⟨b, vs, e1, e2, l, _⟩ := A.openT List.mem_cons_self
    cases e1
    exact ⟨vs, vs[i]'(by omega), .inl (.inl e2), List.getElem?_eq_getElem (by omega)⟩
  · rw [enumD_len] at hi
    obtain ⟨b, vs, e1, e2, l, _⟩ := A.openT List.mem_cons_self
    cases e1
    exact ⟨vs, .inl (.inl e2), by omega⟩
  · obtain ⟨b, vs, e1, e2, l, A2⟩ := A.openT List.mem_cons_self
    cases e1
    obtain ⟨T, x, e3, e4, e5, e6⟩ := y
    subst e3 e5
    have hv := e6 _ (.inl (.inl e2))
    have hi : i < vs.length := (List.getElem?_eq_some_iff.mp hv).1
    have hx : xs[i]? = some (xs[i]'(by omega)) := List.getElem?_eq_getElem (by omega)
    refine ⟨_, enumD_get hx, (enum_yld A2 (List.mem_append_left _ (zip_mem hv hx)) e4).sub fun t ht => ?_⟩
    rcases List.mem_cons.mp ht with z | z
    · rw [z]; exact List.mem_cons_self
    · exact List.mem_cons_of_mem _ (List.mem_append_right _ z)
theorem turn_enumT {P : Program} {w : World} {K : PySem.W.Frag} {elts : List Expr} {kk : Nat} {tp : Pos} (a e it : Addr) :
    Turn P w K (.Tuple elts kk tp) (IteT K a) [e, it] e (fun i h => (∃ old, IsEnum h e it ((i : Nat) : Int) old) ∧ h.IsTupleIter it a i ∧ e ≠ it) where
  mem := List.mem_cons_self
  obj := by
    rintro i h ⟨⟨old, he⟩, ⟨o, ho, hc, hd⟩, _⟩ b hb
    rcases List.mem_cons.mp hb with z | hb
    · subst z
      exact ⟨_, he, fun v q => nomatch q⟩
    · rw [List.mem_singleton.mp hb]
      exact ⟨o, ho, fun v q => by rw [hd] at q; cases q⟩
  keep := by
    rintro i h h' ⟨⟨old, he⟩, hi, hne⟩ k
    exact ⟨⟨old, k e List.mem_cons_self _ he⟩, hi.at fun o q => k it (List.mem_cons_of_mem _ List.mem_cons_self) o q, hne⟩
  item := by
    intro X hP hw hK hc i pins s σ H E I hf st hg
    subst hP hw hK
    obtain ⟨⟨old, he⟩, hit, hne⟩ := st
    obtain ⟨zs, z, hq, hz⟩ := hg
    obtain ⟨its, rv, p, hsz⟩ := I.tuple hq
    obtain ⟨u, hu, ru⟩ := rv.get hz
    have hel : e < s.heap.objs.size := Heap.lt_size he
    have hil : it < s.heap.objs.size := by
      obtain ⟨_, q, _⟩ := hit
      exact Heap.lt_size q
    have ht : s.heap.IsTuple a its.toArray := p
    have hai : a ≠ it := fun q => by
      obtain ⟨o1, g1, g2, _⟩ := hit
      obtain ⟨o2, k1, k2, _⟩ := ht
      rw [q, g1] at k1
      cases k1
      rw [g2] at k2
      exact absurd (Value.type.inj k2) (by decide)
    have hae : e ∉ [it, a] := fun q => by
      rcases List.mem_cons.mp q with q | q
      · exact hne q
      · rw [List.mem_singleton] at q
        obtain ⟨o2, k1, k2, _⟩ := ht
        rw [← q] at k1
        have he' : s.heap.get? e = some _ := he
        rw [he'] at k1
        cases k1
        exact absurd (Value.type.inj k2) (by decide)
    have Dr := Draws.tuple (prog := X.prog) (w := X.w) (A := X.A.in1) (by rw [Around.in1_handled]; exact I.ok.hd hc) it a hai its.toArray
    refine wpAny_pyNext_enum_itemD Dr he ⟨hit, ht⟩ (by have := (List.getElem?_eq_some_iff.mp hu).1; simpa using this) hne hae fun x h' tk hx ho hst' hT hs2 hk => ?_
    have ex : x = u := by
      have : its.toArray[i]? = some u := by simpa using hu
      rw [this] at hx
      cases hx
      rfl
    subst ex
    refine ⟨_, rfl, wpAny_letOwnedTupleGo_enum (s := { s with heap := h', toks := tk + 1 }) ho fun h2 he2 sb => ?_⟩
    have hT2 := (sb.2 _ (Nat.ne_of_gt hel)).trans hT
    have I1 : Inv X pins σ (upd H s.heap.objs.size (.tup [.int (i : Nat), z])) { s with heap := h2, toks := tk + 1 } := by
      refine I.turnedNew (ch := [e, it]) (fun b ob hb q => ?_) hf (Nat.le_refl _) ⟨by show 2 ≤ sizeLine; decide, [.int i tk, x], .cons ⟨_, rfl⟩ (.cons ru .nil), ⟨_, hT2, rfl, _, rfl⟩⟩
      have nb1 : b ≠ e := fun y => hb (by rw [y]; exact List.mem_cons_self)
      have nb2 : b ≠ it := fun y => hb (by rw [y]; exact List.mem_cons_of_mem _ List.mem_cons_self)
      exact (sb.2 b nb1).trans (hk b ob nb1 nb2 q)
    refine ⟨.ref s.heap.objs.size, _, I1, rfl, ⟨_, z, rfl, I.hok.fresh (Nat.le_refl _), rfl, fun ys hy => by rw [I.tuple_inj hy hq]; exact hz⟩, ⟨⟨x, ?_⟩, hst'.1.at fun o q => (sb.2 it (Ne.symm hne)).trans q, hne⟩, fun b hb => ?_⟩
    · have e1 : ((i + 1 : Nat) : Int) = (i : Int) + 1 := Int.natCast_succ i
      rw [e1]
      exact he2
    · have nb : b ≠ s.heap.objs.size := by
        rcases List.mem_cons.mp hb with y | hb
        · rw [y]; exact Nat.ne_of_lt hel
        · rw [List.mem_singleton.mp hb]; exact Nat.ne_of_lt hil
      rw [upd_ne nb]
      exact (hf b hb).1
  done := by
    intro X hP hw hK hc i pins s σ H E I hf st hg
    subst hP hw hK
    obtain ⟨⟨old, he⟩, hit, hne⟩ := st
    obtain ⟨zs, hq, hz⟩ := hg
    obtain ⟨its, rv, p, hsz⟩ := I.tuple hq
    have ht : s.heap.IsTuple a its.toArray := p
    obtain ⟨f0, f1, f2, f3, f4, f5⟩ := hf it (List.mem_cons_of_mem _ List.mem_cons_self)
    have hai : a ≠ it := fun q => by
      obtain ⟨o1, g1, g2, _⟩ := hit
      obtain ⟨o2, k1, k2, _⟩ := ht
      rw [q, g1] at k1
      cases k1
      rw [g2] at k2
      exact absurd (Value.type.inj k2) (by decide)
    have hl := rv.length
    have hn : its.toArray[i]? = none := by
      simp
      omega
    have hhd : X.A.in1.in1.handled = none := by rw [Around.in1_handled, Around.in1_handled]; exact I.ok.hd hc
    show wpAny _ _ (pyNext (.ref e)) _ _ _
    have hTy : s.TypeIs (.ref e) "enumerate" := ⟨_, he, rfl⟩
    unfold pyNext
    refine wpAny_bind (wpAny_attempt (wpAny_callSpecial?_slot (name := Str.ofString "__next__") hTy F.slot_enumerate_next (wpAny_call_entry F.slot_enumerate_next hTy F.entry_enumerate_next ?_ (F.args_enumerate_next_1 _))))
    show wpAny _ _ (field (.ref e) 2 >>= _) _ _ _
    refine wpAny_bind (wpAny_field he rfl (x := .ref it) rfl (wpAny_bind (wpAny_nextOf_tuple_end (by rw [Around.in1_handled]; exact I.ok.hd hc) hit ht hn fun h' y hx hcls => ?_)))
    obtain ⟨o, ho, hc2⟩ := hcls
    refine wpAny_bind (wpAny_isInstance (T := "StopIteration") (b := true) ⟨o, ho, hc2⟩ isSubtype_stop ?_)
    exact wpAny_pure ⟨rfl, I.turned (t' := s.toks) (fun b o hb q => hx b o hb q) f0 f1 f3 f4 f5⟩
  self := fun A i s Q E st h => let ⟨⟨_, he⟩, _⟩ := st; wpAny_pyIter_enum he h

section
variable {X : Cx} {F : Fm} {ds ds' ds1 ds2 : Slots} {M M1 M2 M3 M' Mo N : Cells} {d d1 d2 d3 : D} {e a b c o tg iter value : Expr} {es : List Expr} {pos pos' apos p p2 : Pos} {x f m : Str} {K : D → Cells → Prop} {Dn : Ends} {ts : List (V × D)} {rest body els : List Stmt} {I : Slots → Cells → Prop}
theorem hw_list {xs : List D} {tl : TE} (he : Ev F ds M tl (.lst xs) M1) : HW F ds M M1 (iList X.K tl) xs := fun ts σ H A R q => he ts σ H A _ fun v H1 A1 => by
  obtain ⟨a, vs, e1, e2, l, _⟩ := A1.openL List.mem_cons_self
  subst e1
  exact ⟨a, rfl, ⟨vs, SqL.of e2⟩, q _ _ _ itd_list A1⟩
theorem hw_scr {xs : List V} {tl : TE} (he : Ev F ds M tl (.scr X.K xs) M1) : HW F ds M M1 (iList X.K tl) (xs.map D.v) := fun ts σ H A R q => he ts σ H A _ fun v H1 A1 => by
  obtain ⟨a, e1, e2⟩ := A1.scr List.mem_cons_self
  subst e1
  exact ⟨a, rfl, ⟨xs, e2⟩, q _ _ _ itd_scr A1⟩
theorem hw_tup {xs : List D} {tl : TE} (he : Ev F ds M tl (.tup xs) M1) : HW F ds M M1 (iTup X.K tl) xs := fun ts σ H A R q => he ts σ H A _ fun v H1 A1 => by
  obtain ⟨a, vs, e1, e2, l, _⟩ := A1.openT List.mem_cons_self
  subst e1
  exact ⟨a, rfl, ⟨vs, .inl (.inl e2)⟩, q _ _ _ itd_tup A1⟩
theorem hw_rng {n : Nat} {ta : TA} (he : EvA F ds M ta [.int n] M1) (hn : n ≤ 100000) : HW F ds M M1 (iRng1 ta) (rngD 0 n) := fun ts σ H A R q => he ts σ H A _ fun vs H1 hl A1 => by
  obtain ⟨v, rfl⟩ := len1 hl
  exact ⟨n, by rw [A1.val List.mem_cons_self], by omega, by omega, q _ [] _ itd_rng (A1.sub fun t ht => List.mem_cons_of_mem _ ht)⟩
theorem hw_enum {xs : List D} {ta : TA} (he : EvA F ds M ta [.lst xs] M1) : HW F ds M M1 (iEnum X.K ta) (enumD xs) := fun ts σ H A R q => he ts σ H A _ fun vs H1 hl A1 => by
  obtain ⟨v, rfl⟩ := len1 hl
  obtain ⟨a, us, e1, e2, l, _⟩ := A1.openL List.mem_cons_self
  subst e1
  exact ⟨a, us, rfl, SqL.of e2, q _ [(.ref a, .lst xs)] _ itd_enum A1⟩
def iEnumT (K : PySem.W.Frag) (ta : TA) : TI := fun σ H R => ta σ H fun vs H1 => ∃ a xs, vs = [.ref a] ∧ SqT K H1 a xs ∧ R (IteT K a) H1
theorem hw_enumT {xs : List D} {ta : TA} (he : EvA F ds M ta [.tup xs] M1) : HW F ds M M1 (iEnumT X.K ta) (enumD xs) := fun ts σ H A R q => he ts σ H A _ fun vs H1 hl A1 => by
  obtain ⟨v, rfl⟩ := len1 hl
  obtain ⟨a, us, e1, e2, l, _⟩ := A1.openT List.mem_cons_self
  subst e1
  exact ⟨a, us, rfl, .inl (.inl e2), q _ [(.ref a, .tup xs)] _ itd_enumT A1⟩
end
end K23

set_option maxHeartbeats 4000000
namespace K23
open PySem PySem.Spec PyProof.Rows L2

set_option maxHeartbeats 4000000 in
theorem enumT_made (a : Addr) (items : Array Value) : Meets (Builtin.«enumerate.__new__» ⟨[.type "enumerate", .ref a], []⟩) (fun _ R s => s.heap.IsTuple a items ∧
    R (.ok (.ret (.ref (s.heap.push { cls := .type "tuple_iterator", data := .fields #[.ref a, .int 0 0] }).objs.size))) { s with heap := (s.heap.push { cls := .type "tuple_iterator", data := .fields #[.ref a, .int 0 0] }).push { cls := .type "enumerate", data := .fields #[.none, .bool false, .ref s.heap.objs.size, rawInt 0, .none, .none] } }) :=
  .of_wp fun prog w A R s hyp => by
    obtain ⟨hp, g, d, tk, os⟩ := s
    obtain ⟨hT, h⟩ := hyp
    have hsub := sub_enumerate
    have q1 : ∀ {A' : Around} {E : Value → Shared → Prop} {Q : Value → Shared → Prop}, Q (.ref hp.objs.size) ⟨hp.push { cls := .type "tuple_iterator", data := .fields #[.ref a, .int 0 0] }, g, d, tk, os⟩ → wpAny (model prog w) A' (pyIter (.ref a)) Q E ⟨hp, g, d, tk, os⟩ :=
      fun q => (begins_tuple a items).iter prog w _ _ ⟨hp, g, d, tk, os⟩ _ hT q
    wp_walk using q1
    refine wpAny_stack_any fun st => wpAny_pure ?_
    split
    · rename_i c _ _ _ _ _
      cases (c == Value.type "enumerate")
      all_goals
        wp_walk using q1
        exact ⟨_, rfl, h⟩
    · wp_walk using q1
      exact ⟨_, rfl, h⟩
theorem pi_enumT {X : Cx} {e : Expr} {ta : TA} {p pos tpos : Pos} {elts : List Expr} {kk : Nat} (hg : Gl X "enumerate") (hm : X.mg "enumerate" = none) (ha : PA X [e] ta) (hs : starEach [e] X.env = [(false, eval e X.env)] := by rfl) :
    PI X (.Tuple elts kk tpos) (.Call (.Name "enumerate" p) [e] [] pos) (iEnumT X.K ta) := by
  constructor
  intro pins s σ H R I h
  refine Call_ (ld_blt I hg hm boot_enumerate (PyProof.Rows.callWith_type1 (thn (ha.run pos pins s σ H _ I h) fun us s1 hq0 => ?_) hs rfl))
  obtain ⟨vs, H1, I1, r1, a, xs, ex, hq, q⟩ := hq0
  subst ex
  obtain ⟨u, rfl, ru⟩ := vals1 r1
  obtain rfl : u = Value.ref a := ru
  obtain ⟨its, rv, pt, hz⟩ := I1.tuple hq
  have hT : s1.heap.IsTuple a its.toArray := pt
  have hz1 : (s1.heap.push { cls := .type "tuple_iterator", data := .fields #[.ref a, .int 0 0] }).objs.size = s1.heap.objs.size + 1 := Heap.size_push ..
  refine callType_new F.called_enumerate (by decide) (F.typeCall_enumerate_1 _) (F.newCall_enumerate_1 _) (fun obj => F.args_object_init_2 obj _) F.entry_enumerate_new (enumT_made a its.toArray) ⟨hT, ?_⟩
  have he0 : IsEnum ((s1.heap.push { cls := .type "tuple_iterator", data := .fields #[.ref a, .int 0 0] }).push { cls := .type "enumerate", data := .fields #[.none, .bool false, .ref s1.heap.objs.size, rawInt 0, .none, .none] }) (s1.heap.objs.size + 1) s1.heap.objs.size 0 .none := by
    have z := Heap.get?_push_size (s1.heap.push { cls := .type "tuple_iterator", data := .fields #[.ref a, .int 0 0] }) (o := { cls := .type "enumerate", data := .fields #[.none, .bool false, .ref s1.heap.objs.size, rawInt 0, .none, .none] }) rfl
    rw [hz1] at z
    exact z
  show _ ∧ _
  rw [hz1]
  refine ⟨⟨_, he0, rfl⟩, ?_⟩
  refine wpAny_pyIter_enum he0 ⟨s1.heap.objs.size + 1, [s1.heap.objs.size + 1, s1.heap.objs.size], _, _, H1, rfl, ?_, turn_enumT a (s1.heap.objs.size + 1) s1.heap.objs.size, ⟨⟨.none, he0⟩, ⟨_, Heap.get?_push_of_some _ (Heap.get?_push_size _ rfl), rfl, rfl⟩, Nat.succ_ne_self _⟩, ?_, q⟩
  · exact I1.kept (t' := s1.toks) fun b o y => Heap.get?_push_of_some _ (Heap.get?_push_of_some _ y)
  · intro b hb
    have hle : s1.heap.objs.size ≤ b := by
      rcases List.mem_cons.mp hb with z | hb
      · rw [z]; exact Nat.le_succ _
      · rw [List.mem_singleton.mp hb]; exact Nat.le_refl _
    exact I1.fpOk hle (I1.hok.fresh hle)

section
variable {X : Cx} {F : Fm} {ds ds' ds1 ds2 : Slots} {M M1 M2 M3 M' Mo N : Cells} {d d1 d2 d3 : D} {e a b c o tg iter value : Expr} {es : List Expr} {pos pos' apos p p2 : Pos} {x f m : Str} {K : D → Cells → Prop} {Dn : Ends} {ts : List (V × D)} {rest body els : List Stmt} {I : Slots → Cells → Prop}
theorem for_it {wi : TI} {xs : List D} (g : Good X) (hi : PI X tg iter wi) (hw : HW F ds M M1 wi xs) (I : Nat → Slots → Cells → Prop) (J : Slots → Cells → Prop) (h0 : I 0 ds M1)
    (hs : ∀ ts' i x ds' M', xs[i]? = some x → I i ds' M' → ∃ ds'', EG X F ds' M' tg x ds'' ∧ GB X (LoopE F ts' (I (i + 1)) J Dn) F ts' ds'' M' body) (hd : ∀ ds' M', I xs.length ds' M' → J ds' M') (k : ∀ ds' M', J ds' M' → GB X Dn F ts ds' M' rest)
    (hf : ∀ x, foldedSetIterable iter X.env x = pure x := by intro _; rfl) : GB X Dn F ts ds M (.For tg iter body [] pos :: rest) := fun σ H A => sB_cons (ps_for g.hp g.hc hi pg_s pss_b hf) (hw ts σ H A _ fun T tsx H1 IT A1 => by
  refine ⟨fun i m σ' H' => m = xs.length - i ∧ i ≤ xs.length ∧ AtI F (tsx ++ ts) (I i) σ' H', ⟨_, rfl, Nat.zero_le _, ds, M1, h0, A1⟩, ?_⟩
  rintro i m σ' H' ⟨rfl, hle, ds', M', hI, A'⟩
  by_cases h : i < xs.length
  · refine .inr ⟨IT.go _ _ _ _ _ _ A' h, fun σ2 H2 => AtI F (tsx ++ ts) (I (i + 1)) σ2 H2, fun σ2 H2 q => ⟨_, by omega, rfl, h, q⟩, fun u H3 hy => ?_⟩
    obtain ⟨x, hx, A2⟩ := IT.yld _ _ _ _ _ _ _ _ A' h hy
    obtain ⟨ds'', h1, h2⟩ := hs (tsx ++ ts) i x ds' M' hx hI
    exact h1 (tsx ++ ts) σ' H3 u A2 _ fun σ2 H2 B => sB_mono (h2 σ2 H2 B) (fun _ _ z => z) (fun _ _ z => z) (fun σ3 H4 ⟨ds3, M3, j, B3⟩ => k ds3 M3 j σ3 H4 (B3.sub fun t ht => List.mem_append_right _ ht)) (fun _ _ z => z)
  · have hlen : i = xs.length := by omega
    subst hlen
    exact .inl ⟨IT.stop _ _ _ _ _ _ A' (Nat.le_refl _), k ds' M' (hd ds' M' hI) σ' H' (A'.sub fun t ht => List.mem_append_right _ ht)⟩)
theorem gb_forE {xs : List D} {elts : List Expr} {kk : Nat} {tpos : Pos} (g : Good X) (hm : X.mg "enumerate" = none) (he : EV X F ds M e (.lst xs) M1) (I : Nat → Slots → Cells → Prop) (J : Slots → Cells → Prop) (h0 : I 0 ds M1)
    (hs : ∀ ts' i x ds' M', xs[i]? = some x → I i ds' M' → ∃ ds'', EG X F ds' M' (.Tuple elts kk tpos) (.tup [.int i, x]) ds'' ∧ GB X (LoopE F ts' (I (i + 1)) J Dn) F ts' ds'' M' body) (hd : ∀ ds' M', I xs.length ds' M' → J ds' M') (k : ∀ ds' M', J ds' M' → GB X Dn F ts ds' M' rest)
    (hg : Gl X "enumerate" := by rfl) (h1 : starEach [e] X.env = (false, eval e X.env) :: starEach [] X.env := by rfl) (h2 : starEach [e] X.env = [(false, eval e X.env)] := by rfl) (hf : ∀ x, foldedSetIterable (.Call (.Name "enumerate" p) [e] [] p2) X.env x = pure x := by intro _; rfl) :
    GB X Dn F ts ds M (.For (.Tuple elts kk tpos) (.Call (.Name "enumerate" p) [e] [] p2) body [] pos :: rest) :=
  for_it g (pi_enum hg hm pa_s h2) (hw_enum (ea_cons he ea_nil h1)) I J h0 (fun ts' i x ds' M' hx hI => by
    have hi := (List.getElem?_eq_some_iff.mp hx).1
    rw [enumD_len] at hi
    rw [enumD_get (List.getElem?_eq_getElem hi)] at hx
    cases hx
    exact hs ts' i _ ds' M' (List.getElem?_eq_getElem hi) hI) (by rw [enumD_len]; exact hd) k hf
theorem gb_forET {xs : List D} {elts : List Expr} {kk : Nat} {tpos : Pos} (g : Good X) (hm : X.mg "enumerate" = none) (he : EV X F ds M e (.tup xs) M1) (I : Nat → Slots → Cells → Prop) (J : Slots → Cells → Prop) (h0 : I 0 ds M1)
    (hs : ∀ ts' i x ds' M', xs[i]? = some x → I i ds' M' → ∃ ds'', EG X F ds' M' (.Tuple elts kk tpos) (.tup [.int i, x]) ds'' ∧ GB X (LoopE F ts' (I (i + 1)) J Dn) F ts' ds'' M' body) (hd : ∀ ds' M', I xs.length ds' M' → J ds' M') (k : ∀ ds' M', J ds' M' → GB X Dn F ts ds' M' rest)
    (hg : Gl X "enumerate" := by rfl) (h1 : starEach [e] X.env = (false, eval e X.env) :: starEach [] X.env := by rfl) (h2 : starEach [e] X.env = [(false, eval e X.env)] := by rfl) (hf : ∀ x, foldedSetIterable (.Call (.Name "enumerate" p) [e] [] p2) X.env x = pure x := by intro _; rfl) :
    GB X Dn F ts ds M (.For (.Tuple elts kk tpos) (.Call (.Name "enumerate" p) [e] [] p2) body [] pos :: rest) :=
  for_it g (pi_enumT hg hm pa_s h2) (hw_enumT (ea_cons he ea_nil h1)) I J h0 (fun ts' i x ds' M' hx hI => by
    have hi := (List.getElem?_eq_some_iff.mp hx).1
    rw [enumD_len] at hi
    rw [enumD_get (List.getElem?_eq_getElem hi)] at hx
    cases hx
    exact hs ts' i _ ds' M' (List.getElem?_eq_getElem hi) hI) (by rw [enumD_len]; exact hd) k hf

/-! ### list comprehensions -/
abbrev bk (X : Cx) (scope : Scope) (s : Shared) (H : Hp) (C : Addr) (cl : List (Str × Addr)) (fp : List Addr) : Cx := X.blk s H scope (compEnvC scope cl C X.env) fp
def sEb (X : Cx) (scope : Scope) (elt : Expr) : TE := fun σ H Q => ∀ (s : Shared) (H0 : Hp) (C : Addr) (cl : List (Str × Addr)) (fp : List Addr), sE (bk X scope s H0 C cl fp) elt σ H Q
theorem pe_sb {scope : Scope} {elt : Expr} (s : Shared) (H0 : Hp) (C : Addr) (cl : List (Str × Addr)) (fp : List Addr) : PE (bk X scope s H0 C cl fp) elt (sEb X scope elt) := ⟨fun pins s' σ H Q I h => (h s H0 C cl fp).run pins s' I⟩
theorem wipe1 (σ : St) (i : Nat) (v : V) : wipe ((wipe σ [i]).set i (some v)) [i] = wipe σ [i] := by
  show ((σ.set i none).set i (some v)).set i none = σ.set i none
  rw [List.set_set, List.set_set]
theorem At.own {F : Fm} {ds : Slots} {M : Cells} {ts : List (V × D)} {σ : St} {H : Hp} {i : Nat} {v : V} {d : D} (A : At F ds M ((v, d) :: ts) σ H) : At F (ds.set i (some d)) M ((v, d) :: ts) ((wipe σ [i]).set i (some v)) H := by
  have B := (A.unset (i := i) (o := none)).set (i := i) (v := v) (d := d) List.mem_cons_self
  rw [List.set_set] at B
  exact B
/-! the slots as temporaries -/
def tsOf : St → Slots → List (V × D)
  | some v :: σ, some d :: ds => (v, d) :: tsOf σ ds
  | none :: σ, some _ :: ds => tsOf σ ds
  | _ :: σ, none :: ds => tsOf σ ds
  | _, _ => []
def shp : St → Slots → Prop
  | [], [] => True
  | _ :: σ, none :: ds => shp σ ds
  | some _ :: σ, some _ :: ds => shp σ ds
  | _, _ => False
theorem Sd.shape {G : Hp} : ∀ {σ : St} {ds : Slots}, Sd G σ ds → shp σ ds
  | _, _, .nil => trivial
  | _, _, .no (o := none) r => by have h := Sd.shape r; exact h
  | _, _, .no (o := some _) r => by have h := Sd.shape r; exact h
  | _, _, .yes _ r => by have h := Sd.shape r; exact h
theorem Sd.temps {G : Hp} : ∀ {σ : St} {ds : Slots}, Sd G σ ds → ∀ t ∈ tsOf σ ds, Rp G t.1 t.2
  | _, _, .nil, t, h => by simp [tsOf] at h
  | _, _, .no (o := none) r, t, h => Sd.temps r t h
  | _, _, .no (o := some _) r, t, h => Sd.temps r t h
  | _, _, .yes h0 r, t, h => by
    rcases List.mem_cons.mp h with e | h
    · rw [e]; exact h0
    · exact Sd.temps r t h
theorem Sd.of {G : Hp} : ∀ {σ : St} {ds : Slots}, shp σ ds → (∀ t ∈ tsOf σ ds, Rp G t.1 t.2) → Sd G σ ds
  | [], [], _, _ => .nil
  | [], _ :: _, h, _ => h.elim
  | _ :: _, [], h, _ => h.elim
  | none :: σ, none :: ds, h, r => .no (Sd.of h r)
  | some _ :: σ, none :: ds, h, r => .no (Sd.of h r)
  | none :: σ, some _ :: ds, h, r => h.elim
  | some v :: σ, some d :: ds, h, r => .yes (r (v, d) List.mem_cons_self) (Sd.of h fun t ht => r t (List.mem_cons_of_mem _ ht))
theorem At.slotsIn {F : Fm} {ds : Slots} {M : Cells} {ts : List (V × D)} {σ : St} {H : Hp} (A : At F ds M ts σ H) : shp σ ds ∧ At F ds M (ts ++ tsOf σ ds) σ H := by
  obtain ⟨G, W, S, T, C⟩ := A.ex
  refine ⟨S.shape, G, W, S, fun t ht => ?_, C⟩
  rcases List.mem_append.mp ht with h | h
  · exact T t h
  · exact S.temps t h
theorem At.slotsOut {F : Fm} {ds ds' : Slots} {M : Cells} {ts : List (V × D)} {σ σ' : St} {H : Hp} (h : shp σ ds) (A : At F ds' M (ts ++ tsOf σ ds) σ' H) : At F ds M ts σ H := by
  obtain ⟨G, W, S, T, C⟩ := A.ex
  exact ⟨G, W, Sd.of h fun t ht => T t (List.mem_append_right _ ht), fun t ht => T t (List.mem_append_left _ ht), C⟩
theorem lc_it {wi : TI} {xs : List D} {y : Str} {i : Nat} {tp : Pos} {elt : Expr} {scope : Scope} {f : D → D} (g : Good X) (hi : PI X (.Name y tp) iter wi) (hw : HW F ds M M1 wi xs) (ok : BlkOk X.N X.env.scope scope [(y, i)]) (hz : xs.length ≤ 100000)
    (hg : ∀ (s : Shared) (H : Hp) (C : Addr) (cl : List (Str × Addr)) (fp : List Addr), PG (bk X scope s H C cl fp) (.Name y tp) (gName i))
    (he : ∀ s H C cl fp M x, x ∈ xs → EV (bk X scope s H C cl fp) F (ds.set i (some x)) M elt (f x) M) (hs : ∀ x, foldedSetIterable iter X.env x = pure x := by intro _; rfl) :
    EV X F ds M (.ListComp elt [⟨.Name y tp, iter, [], 0⟩] scope pos) (.lst (xs.map f)) M1 :=
  ev_of (pe_lc g.hc g.nd hi ok hg (fun _ _ _ _ _ => pts_nil) pe_sb hs) fun ts σ H A Q k => hw ts σ H A _ fun T tsx H1 IT A1 => by
    intro Dp hD
    obtain ⟨A2, fD⟩ := A1.allocC (d := .lst []) (o := .lst []) hD fun G' H' _ e => ⟨[], e, .nil⟩
    refine ⟨fun j m H' => m = xs.length - j ∧ j ≤ xs.length ∧ At F ds ((Dp, .lst ((xs.take j).map f)) :: M1) (tsx ++ ts) σ H', ⟨_, rfl, Nat.zero_le _, A2.sub fun t ht => List.mem_cons_of_mem _ ht⟩, ?_⟩
    rintro j m H' ⟨rfl, hle, A'⟩
    by_cases h : j < xs.length
    · refine .inr ⟨IT.go _ _ _ _ _ _ A' h, fun H2 => At F ds ((Dp, .lst ((xs.take (j + 1)).map f)) :: M1) (tsx ++ ts) σ H2, fun H2 q => ⟨_, by omega, rfl, h, q⟩, fun u H3 hy => ?_⟩
      obtain ⟨x, hx, A3⟩ := IT.yld _ _ _ _ _ _ _ _ A' h hy
      obtain ⟨hsh, A3⟩ := A3.slotsIn
      refine ⟨wipe1 _ _ _, ?_⟩
      show sEb X scope elt _ _ _
      intro s H0 C cl fp
      refine he s H0 C cl fp _ x (List.mem_of_getElem? hx) _ _ H3 A3.own _ fun w H4 A4 => ?_
      obtain ⟨acc, e1, l1, A5⟩ := A4.cellL (i := 0) rfl
      refine ⟨acc, e1, ?_, ?_⟩
      · rw [l1, List.length_map, List.length_take]
        exact Nat.lt_of_lt_of_le (by omega : min j xs.length < 100000) (by decide)
      · have A6 := A5.write (i := 0) (d := .lst ((xs.take (j + 1)).map f)) (o := .lst (acc ++ [w])) rfl fun G' H' t e => ⟨_, e, by
          rw [List.take_succ_eq_append_getElem h, List.map_append]
          have ex : xs[j] = x := by
            rw [List.getElem?_eq_getElem h] at hx
            cases hx
            rfl
          rw [ex]
          exact RpA.app (RpA.of l1 fun z hz => t z (List.mem_append_left _ hz)) (.cons (t (w, f x) (List.mem_append_right _ List.mem_cons_self)) .nil)⟩
        exact At.slotsOut hsh (A6.sub (ts' := (tsx ++ ts) ++ tsOf σ ds) fun t ht => List.mem_append_right _ (List.mem_cons_of_mem _ (List.mem_cons_of_mem _ ht)))
    · have hlen : j = xs.length := by omega
      subst hlen
      refine .inl ⟨IT.stop _ _ _ _ _ _ A' (Nat.le_refl _), ?_⟩
      rw [List.take_length] at A'
      exact k _ _ ((A'.freeze (i := 0) rfl fD fun _ _ z => by cases z).sub fun t ht => by
        rcases List.mem_cons.mp ht with z | z
        · rw [z]; exact List.mem_cons_self
        · exact List.mem_cons_of_mem _ (List.mem_append_right _ z))

theorem tyes {σ : St} {H : Hp} {P Q : Hp → Prop} (h : P H) : tYes σ H (fun b H3 => if b = true then P H3 else Q H3) := h
/-- two clauses -/
theorem wipe2 (σ : St) {i j : Nat} (h : i ≠ j) (v : V) : wipe ((wipe σ [j, i]).set i (some v)) [j, i] = wipe σ [j, i] := by
  show ((((σ.set i none).set j none).set i (some v)).set i none).set j none = (σ.set i none).set j none
  rw [List.set_set, List.set_comm none none (Ne.symm h), List.set_set, List.set_set]
def dsO (ds : Slots) (i j : Nat) (x : D) : Slots := ((ds.set i none).set j none).set i (some x)
theorem lc2_ev {wi : TI} {xs : List D} {y z : Str} {i j : Nat} {iter1 elt : Expr} {scope : Scope} {f : D → List D} {h : D → D} (hw : HW F ds M M1 wi xs) (hij : i ≠ j) (hz : (xs.flatMap f).length ≤ 100000)
    (h1 : ∀ s H C cl fp M x, x ∈ xs → EV (bk X scope s H C cl fp) F (dsO ds i j x) M iter1 (.lst (f x)) M)
    (he : ∀ s H C cl fp M x u, x ∈ xs → u ∈ f x → EV (bk X scope s H C cl fp) F ((dsO ds i j x).set j (some u)) M elt (h u) M) :
    Ev F ds M (tLc2 wi (gName i) tYes (iList X.K (sEb X scope iter1)) (gName j) tYes (sEb X scope elt) [j, i] [j]) (.lst ((xs.flatMap f).map h)) M1 := fun ts σ H A Q k => hw ts σ H A _ fun T tsx H1 IT A1 => by
    intro Dp hD
    obtain ⟨A2, fD⟩ := A1.allocC (d := .lst []) (o := .lst []) hD fun G' H' _ e => ⟨[], e, .nil⟩
    refine ⟨fun n m H' => m = xs.length - n ∧ n ≤ xs.length ∧ At F ds ((Dp, .lst (((xs.take n).flatMap f).map h)) :: M1) (tsx ++ ts) σ H', ⟨_, rfl, Nat.zero_le _, A2.sub fun t ht => List.mem_cons_of_mem _ ht⟩, ?_⟩
    rintro n m H' ⟨rfl, hle, A'⟩
    by_cases hn : n < xs.length
    · refine .inr ⟨IT.go _ _ _ _ _ _ A' hn, fun H2 => At F ds ((Dp, .lst (((xs.take (n + 1)).flatMap f).map h)) :: M1) (tsx ++ ts) σ H2, fun H2 q => ⟨_, by omega, rfl, hn, q⟩, fun u H3 hy => ?_⟩
      obtain ⟨x, hx, A3⟩ := IT.yld _ _ _ _ _ _ _ _ A' hn hy
      obtain ⟨hsh, A3⟩ := A3.slotsIn
      have hxm := List.mem_of_getElem? hx
      have etk : xs.take (n + 1) = xs.take n ++ [x] := by
        rw [List.take_succ_eq_append_getElem hn]
        rw [List.getElem?_eq_getElem hn] at hx
        cases hx
        rfl
      have hlen : ((xs.take n).flatMap f).length + (f x).length ≤ 100000 := by
        have e := List.take_append_drop (n + 1) xs
        have e2 : (xs.flatMap f).length = ((xs.take (n + 1)).flatMap f).length + ((xs.drop (n + 1)).flatMap f).length := by
          rw [← List.length_append, ← List.flatMap_append, e]
        rw [etk, List.flatMap_append, List.length_append] at e2
        have e3 : ([x].flatMap f).length = (f x).length := by simp
        omega
      refine ⟨wipe2 _ hij _, ?_⟩
      have A4 : At F (dsO ds i j x) ((Dp, .lst (((xs.take n).flatMap f).map h)) :: M1) ((u, x) :: (tsx ++ ts) ++ tsOf σ ds) ((wipe σ [j, i]).set i (some u)) H3 := ((A3.unset (i := i) (o := none)).unset (i := j) (o := none)).set List.mem_cons_self
      refine tyes ?_
      intro s0 H0 C0 cl0 fp0
      refine h1 s0 H0 C0 cl0 fp0 _ x hxm _ _ H3 A4 _ fun v H4 A5 => ?_
      obtain ⟨a, vs, e1, e2, l, _⟩ := A5.openL List.mem_cons_self
      subst e1
      refine ⟨a, rfl, ⟨vs, SqL.of e2⟩, ?_⟩
      have IT1 : ItD F (Itl X.K a) (f x) [(.ref a, .lst (f x))] := itd_list
      refine ⟨fun q m H' => m = (f x).length - q ∧ q ≤ (f x).length ∧ At F (dsO ds i j x) ((Dp, .lst ((((xs.take n).flatMap f) ++ (f x).take q).map h)) :: M1) ([(.ref a, .lst (f x))] ++ ((u, x) :: (tsx ++ ts) ++ tsOf σ ds)) ((wipe σ [j, i]).set i (some u)) H', ⟨_, rfl, Nat.zero_le _, by
        rw [List.take_zero, List.append_nil]
        exact A5⟩, ?_⟩
      rintro q m H5 ⟨rfl, hq, A6⟩
      by_cases hql : q < (f x).length
      · refine .inr ⟨IT1.go _ _ _ _ _ _ A6 hql, fun H6 => At F (dsO ds i j x) ((Dp, .lst ((((xs.take n).flatMap f) ++ (f x).take (q + 1)).map h)) :: M1) ([(.ref a, .lst (f x))] ++ ((u, x) :: (tsx ++ ts) ++ tsOf σ ds)) ((wipe σ [j, i]).set i (some u)) H6, fun H6 z => ⟨_, by omega, rfl, hql, z⟩, fun u2 H6 hy2 => ?_⟩
        obtain ⟨x2, hx2, A7⟩ := IT1.yld _ _ _ _ _ _ _ _ A6 hql hy2
        obtain ⟨hsh2, A7⟩ := A7.slotsIn
        refine ⟨wipe1 _ _ _, ?_⟩
        refine tyes ?_
        intro s2 H20 C2 cl2 fp2
        refine he s2 H20 C2 cl2 fp2 _ x x2 hxm (List.mem_of_getElem? hx2) _ _ H6 A7.own _ fun w H7 A8 => ?_
        obtain ⟨acc, f1, l1, A9⟩ := A8.cellL (i := 0) rfl
        have etq : (f x).take (q + 1) = (f x).take q ++ [x2] := by
          rw [List.take_succ_eq_append_getElem hql]
          rw [List.getElem?_eq_getElem hql] at hx2
          cases hx2
          rfl
        refine ⟨acc, f1, ?_, ?_⟩
        · rw [l1, List.length_map, List.length_append, List.length_take]
          exact Nat.lt_of_lt_of_le (by omega : ((xs.take n).flatMap f).length + min q (f x).length < 100000) (by decide)
        · have B := A9.write (i := 0) (d := .lst ((((xs.take n).flatMap f) ++ (f x).take (q + 1)).map h)) (o := .lst (acc ++ [w])) rfl fun G' H' t e => ⟨_, e, by
            rw [etq, ← List.append_assoc, List.map_append]
            exact RpA.app (RpA.of l1 fun z hz => t z (List.mem_append_left _ hz)) (.cons (t (w, h x2) (List.mem_append_right _ List.mem_cons_self)) .nil)⟩
          exact At.slotsOut hsh2 (B.sub (ts' := ([(.ref a, .lst (f x))] ++ ((u, x) :: (tsx ++ ts) ++ tsOf σ ds)) ++ tsOf _ _) fun t ht => List.mem_append_right _ (List.mem_cons_of_mem _ (List.mem_cons_of_mem _ ht)))
      · have hql' : q = (f x).length := by omega
        subst hql'
        rw [List.take_length] at A6
        refine .inl ⟨IT1.stop _ _ _ _ _ _ A6 (Nat.le_refl _), ?_⟩
        rw [etk, List.flatMap_append]
        have e4 : [x].flatMap f = f x := by simp
        rw [e4]
        exact At.slotsOut hsh (A6.sub (ts' := (tsx ++ ts) ++ tsOf σ ds) fun t ht => List.mem_append_right _ (List.mem_cons_of_mem _ ht))
    · have hlen : n = xs.length := by omega
      subst hlen
      refine .inl ⟨IT.stop _ _ _ _ _ _ A' (Nat.le_refl _), ?_⟩
      rw [List.take_length] at A'
      exact k _ _ ((A'.freeze (i := 0) rfl fD fun _ _ z => by cases z).sub fun t ht => by
        rcases List.mem_cons.mp ht with z | z
        · rw [z]; exact List.mem_cons_self
        · exact List.mem_cons_of_mem _ (List.mem_append_right _ z))
theorem lc_it2 {wi : TI} {xs : List D} {y z : Str} {i j : Nat} {tp tp1 : Pos} {iter1 elt : Expr} {scope : Scope} {f : D → List D} {h : D → D} (g : Good X) (hi : PI X (.Name y tp) iter wi) (hw : HW F ds M M1 wi xs) (ok : BlkOk X.N X.env.scope scope [(z, j), (y, i)]) (hij : i ≠ j) (hz : (xs.flatMap f).length ≤ 100000)
    (hg : ∀ (s : Shared) (H : Hp) (C : Addr) (cl : List (Str × Addr)) (fp : List Addr), PG (bk X scope s H C cl fp) (.Name y tp) (gName i)) (hg1 : ∀ (s : Shared) (H : Hp) (C : Addr) (cl : List (Str × Addr)) (fp : List Addr), PG (bk X scope s H C cl fp) (.Name z tp1) (gName j))
    (h1 : ∀ s H C cl fp M x, x ∈ xs → EV (bk X scope s H C cl fp) F (dsO ds i j x) M iter1 (.lst (f x)) M)
    (he : ∀ s H C cl fp M x u, x ∈ xs → u ∈ f x → EV (bk X scope s H C cl fp) F ((dsO ds i j x).set j (some u)) M elt (h u) M) (hs : ∀ x, foldedSetIterable iter X.env x = pure x := by intro _; rfl) (hs1 : ∀ env x, foldedSetIterable iter1 env x = pure x := by intro _ _; rfl) :
    EV X F ds M (.ListComp elt [⟨.Name y tp, iter, [], 0⟩, ⟨.Name z tp1, iter1, [], 0⟩] scope pos) (.lst ((xs.flatMap f).map h)) M1 :=
  ev_of (pe_lc2 (vs1 := [j]) (wi1 := iList X.K (sEb X scope iter1)) g.hc g.nd hi ok (fun k hk => by rw [List.mem_singleton.mp hk]; exact List.mem_cons_self) hg (fun _ _ _ _ _ => pts_nil) (fun s H C cl fp => pi_list (pe_sb s H C cl fp)) hg1 (fun _ _ _ _ _ => pts_nil) pe_sb hs hs1) (lc2_ev (y := y) (z := z) hw hij hz h1 he)
/-- name = [..], two clauses, on one line -/
theorem gb_setLc2 {l : Nat} {nm : Str} {npos spos : Pos} {wi : TI} {xs : List D} {y z : Str} {i j : Nat} {tp tp1 : Pos} {iter1 elt : Expr} {scope : Scope} {f : D → List D} {h : D → D} (g : Good X) (hi : PI X (.Name y tp) iter wi) (hw : HW F ds M M1 wi xs) (ok : BlkOk X.N X.env.scope scope [(z, j), (y, i)]) (hij : i ≠ j) (hz : (xs.flatMap f).length ≤ 100000)
    (hg : ∀ (s : Shared) (H : Hp) (C : Addr) (cl : List (Str × Addr)) (fp : List Addr), PG (bk X scope s H C cl fp) (.Name y tp) (gName i)) (hg1 : ∀ (s : Shared) (H : Hp) (C : Addr) (cl : List (Str × Addr)) (fp : List Addr), PG (bk X scope s H C cl fp) (.Name z tp1) (gName j))
    (h1 : ∀ s H C cl fp M x, x ∈ xs → EV (bk X scope s H C cl fp) F (dsO ds i j x) M iter1 (.lst (f x)) M)
    (he : ∀ s H C cl fp M x u, x ∈ xs → u ∈ f x → EV (bk X scope s H C cl fp) F ((dsO ds i j x).set j (some u)) M elt (h u) M) (hs : ∀ x, foldedSetIterable iter X.env x = pure x := by intro _; rfl) (hs1 : ∀ env x, foldedSetIterable iter1 env x = pure x := by intro _ _; rfl) (k : GB X Dn F ts (ds.set l (some (.lst ((xs.flatMap f).map h)))) M1 rest) (hl : X.N[l]? = some nm := by rfl) (hll : X.env.scope.names.lookup nm = some .local := by rfl)
    (hsw : swapsWith (.ListComp elt [⟨.Name y tp, iter, [], 0⟩, ⟨.Name z tp1, iter1, [], 0⟩] scope pos) (some (.Name nm npos)) spos.line X.env = pure true := by rfl) :
    GB X Dn F ts ds M (.Assign [.Name nm npos] (.ListComp elt [⟨.Name y tp, iter, [], 0⟩, ⟨.Name z tp1, iter1, [], 0⟩] scope pos) spos :: rest) := fun σ H A =>
  sB_cons (ps_setLc2 (vs1 := [j]) (wi1 := iList X.K (sEb X scope iter1)) g.hc g.nd hl hll hsw hi ok (fun k hk => by rw [List.mem_singleton.mp hk]; exact List.mem_cons_self) hg (fun _ _ _ _ _ => pts_nil) (fun s H C cl fp => pi_list (pe_sb s H C cl fp)) hg1 (fun _ _ _ _ _ => pts_nil) pe_sb hs hs1)
    (lc2_ev (y := y) (z := z) hw hij hz h1 he ts σ H A _ fun v H1 A1 => k _ H1 ((A1.set (i := l) List.mem_cons_self).sub fun t ht => List.mem_cons_of_mem _ ht))
end
end K23

set_option maxHeartbeats 4000000
/-! Dicts keyed by nested tuples: displays, comprehensions. -/
namespace K23
open PySem PySem.Spec PyProof.Rows L2

theorem nd_fin {X : Cx} {pins : List (Addr × Obj)} {σ : St} {H G : Hp} {s : Shared} {a b : Addr} {xs : List D} {x : V} {d : D} {u : Value} (I : Inv X pins σ H s) (sg : Same G H) (n : NdAt X.w G H a xs x) (hz : xs.length < 100000)
    (hr : Rp G (.ref b) d) (ho : okN d = true) (hd : (toN d).depth ≤ 8) (hk : toN d ∉ xs.map toN) (rx : RelV x u) : ∃ es : List (NestedKey × Addr × Value), es.length ≤ 100000 ∧ es.length = xs.length ∧ s.heap.DictOfH (nestedKind X.prog X.w) a es ∧ (nestedKind X.prog X.w).is s.heap (toN d) b ∧
      ∀ h' t', h'.DictOfH (nestedKind X.prog X.w) a (storedH es (toN d) b u) → Heap.SameBut a s.heap h' → ∃ o, Inv X pins σ (upd H a o) { s with heap := h', toks := t' } ∧ ∀ G' H', Same G G' → H' a = some o → NdAt X.w G' H' a (xs ++ [d]) x := by
  obtain ⟨hm, es, h1, h0, hl, hkk, hall, hdh⟩ := nd_of I sg n
  refine ⟨es, h0, hl, hdh, ⟨nk_is I sg hr rfl ho, hd⟩, fun h' t' hd' sb => ?_⟩
  have hno : atKey es (toN d) = none := by
    cases e : atKey es (toN d) with
    | none => rfl
    | some p =>
      have := atKey_some (toN d) es
      rw [e, hkk] at this
      exact absurd (of_decide_eq_true this.symm) hk
  rw [storedH_new hno] at hd'
  have hall2 : ∀ (i : Nat) e y, (es ++ [(toN d, b, u)])[i]? = some e → (xs ++ [d])[i]? = some y → Rp G (.ref e.2.1) y ∧ e.1 = toN y ∧ okN y = true ∧ e.1.depth ≤ 8 ∧ RelV x e.2.2 := fun i e y h1 h2 => by
    by_cases hi : i < es.length
    · rw [List.getElem?_append_left hi] at h1
      rw [List.getElem?_append_left (by omega)] at h2
      exact hall i e y h1 h2
    · rw [List.getElem?_append_right (by omega)] at h1
      rw [List.getElem?_append_right (by omega), ← hl] at h2
      cases hj : i - es.length with
      | zero =>
        rw [hj] at h1 h2
        simp at h1 h2
        subst h1 h2
        exact ⟨hr, rfl, ho, hd, rx⟩
      | succ j =>
        rw [hj] at h1
        simp at h1
  have hn2 : ((es ++ [(toN d, b, u)]).map (·.1)).Nodup := by obtain ⟨_, _, _, _, _, _, _, _, z⟩ := hd'; exact z
  refine ⟨NDO X.w a (es ++ [(toN d, b, u)]), I.write (x := a) (e := a) (h' := h') (t' := t') (by rw [h1]; exact trivial) (.inl rfl) (fun c o hc e => (sb.2 c hc).trans e) ?_ ?_, fun G' H' s1 e1 => ⟨_, e1, ?_, ?_, hn2, fun i e y g1 g2 => ?_⟩⟩
  · obtain ⟨o, _, _, e, _⟩ := hd'
    exact ⟨o, e⟩
  · obtain ⟨o, arr, ep, e1, e2, e3, e4, _⟩ := hd'
    refine ⟨⟨hm, o, ep, arr, e1, e2, e3, e4⟩, ⟨o, e1⟩, fun g1 g2 p k => ?_⟩
    obtain ⟨q1, o2, ep2, arr2, p1, p2, p3, p4⟩ := p
    exact ⟨q1, o2, ep2, arr2, k _ p1, p2, p3, p4⟩
  · rw [List.length_append]
    simp
    omega
  · rw [List.length_append, List.length_append, hl]
    rfl
  · obtain ⟨z1, z2⟩ := hall2 i e y g1 g2
    exact ⟨z1.up s1, z2⟩
theorem nd_set {X : Cx} {pins : List (Addr × Obj)} {σ : St} {H G : Hp} {s : Shared} {a b : Addr} {xs : List D} {x : V} {d : D} {u : Value} {Q : Unit → Shared → Prop} {E : Value → Shared → Prop} (hu : X.A.units + 64 < cLine) (I : Inv X pins σ H s) (sg : Same G H) (n : NdAt X.w G H a xs x) (hz : xs.length < 100000)
    (hr : Rp G (.ref b) d) (ho : okN d = true) (hd : (toN d).depth ≤ 8) (hk : toN d ∉ xs.map toN) (rx : RelV x u)
    (h : ∀ s' o, Inv X pins σ (upd H a o) s' → (∀ G' H', Same G G' → H' a = some o → NdAt X.w G' H' a (xs ++ [d]) x) → Q () s') : wpAny (model X.prog X.w) X.A (dictSet a (.ref b) u) Q E s := by
  obtain ⟨es, h0, hl, hdh, hkey, fin⟩ := nd_fin I sg n hz hr ho hd hk rx
  refine wpAny_dictSet_heap (knd := nestedKind X.prog X.w) (k := toN d) (xs := es) (show X.A.units + 8 < cLine by omega) hkey hdh (fun h' hd' sb => ?_) (Nat.le_trans h0 (by decide))
  obtain ⟨o, I', c⟩ := fin h' _ hd' sb
  exact h _ o I' c
/-- a new, empty one -/
theorem nd_new {X : Cx} {pins : List (Addr × Obj)} {σ : St} {H : Hp} {s : Shared} (I : Inv X pins σ H s) : Inv X pins σ (upd H s.heap.objs.size (NDO X.w s.heap.objs.size [])) { s with heap := s.heap.push { cls := .type "dict", data := .dict #[] } } := by
  have e := Heap.get?_push_size s.heap (o := { cls := .type "dict", data := .dict #[] }) rfl
  refine I.laid (t' := s.toks) (fun _ _ q => Heap.get?_push_of_some _ q) (Nat.le_refl _) ⟨⟨beq_eq_false_iff_ne.mpr (Ne.symm (Nat.ne_of_lt I.big)), _, 0, #[], e, ⟨rfl, rfl, rfl⟩, rfl, rfl⟩, ⟨_, e⟩, fun g1 g2 p k => ?_⟩
  obtain ⟨q1, o2, ep2, arr2, p1, p2, p3, p4⟩ := p
  exact ⟨q1, o2, ep2, arr2, k _ p1, p2, p3, p4⟩
theorem nd_emp {w : World} {G H : Hp} {p : Addr} {x : V} (h : H p = some (NDO w p [])) : NdAt w G H p [] x := ⟨[], h, Nat.zero_le _, rfl, List.nodup_nil, fun i e d h1 _ => by simp at h1⟩
def NewN (F : Fm) (xs : List D) (x : V) (M : Cells) : D → Cells → Prop := fun d M' => ∃ p, F.H p = none ∧ d = .ref p ∧ M' = (p, .nd xs x) :: M
section
variable {X : Cx} {F : Fm} {ds ds' ds1 ds2 : Slots} {M M1 M2 M3 M' Mo N : Cells} {d d1 d2 d3 : D} {e a b c o tg iter value : Expr} {es : List Expr} {pos pos' apos p p2 : Pos} {x f m : Str} {K : D → Cells → Prop} {Dn : Ends} {ts : List (V × D)} {rest body els : List Stmt} {I : Slots → Cells → Prop}
theorem At.newN {σ : St} {H : Hp} {q : Addr} {z : V} (hw : F.w = X.w) (A : At F ds M ts σ H) (hq : H q = none) : At F ds ((q, .nd [] z) :: M) ts σ (upd H q (NDO X.w q [])) ∧ F.H q = none := by
  obtain ⟨A2, f⟩ := A.allocC (d := .nd [] z) (o := NDO X.w q []) hq fun G' H' _ e => by
    rw [hw]
    exact nd_emp e
  exact ⟨A2.sub fun t ht => List.mem_cons_of_mem _ ht, f⟩
theorem ev_nd0 (z : V) (hw : F.w = X.w) : EVK X F ds M (.Dict [] [] pos) (NewN F [] z M) := fun ts σ H A Q k => ⟨fun pins s I => by
  have hn := I.hok.fresh (Nat.le_refl s.heap.objs.size)
  obtain ⟨A2, f⟩ := A.newN (z := z) hw hn
  exact wpAny_Dict_empty ⟨.ref s.heap.objs.size, _, nd_new I, rfl, k _ _ _ _ ⟨_, f, rfl, rfl⟩ (A2.lit _)⟩⟩
/-- the cell as the layer tells it -/
theorem At.ndAt {σ : St} {H : Hp} {q : Addr} {xs : List D} {z : V} (hw : F.w = X.w) {i : Nat} (hi : M[i]? = some (q, .nd xs z)) (A : At F ds M ts σ H) : ∃ G, Wd F G H ∧ Sd G σ ds ∧ (∀ t ∈ ts, Rp G t.1 t.2) ∧ CellsOk F G H M ∧ NdAt X.w G H q xs z := by
  obtain ⟨G, W, S, T, C⟩ := A.ex
  have h := (C.ok _ (List.mem_of_getElem? hi)).2.1
  exact ⟨G, W, S, T, C, by rw [← hw]; exact h⟩
theorem ev_nd1 {ys : List D} {z : V} {ke ve : Expr} (hu : X.A.units + 64 < cLine) (hw : F.w = X.w) (hk : ∀ M, EV X F ds M ke (.tup ys) M) (hv : ∀ M, EV X F ds M ve (.v z) M) (ho : okN (.tup ys) = true) (hd : (toN (.tup ys)).depth ≤ 8) : EVK X F ds M (.Dict [some ke] [ve] pos) (NewN F [.tup ys] z M) := fun ts σ H A Q k => ⟨fun pins s I => by
  have hn := I.hok.fresh (Nat.le_refl s.heap.objs.size)
  obtain ⟨A2, f⟩ := A.newN (z := z) hw hn
  have I2 := nd_new I
  have hshape := zip_pairTrees [some ke] [ve] X.env pos rfl rfl
  rw [arm_eval_Dict, hshape, dictDisplay_pairs _ (by intro h; have := congrArg List.length h; rw [pairTrees_length _ _ _ _ rfl rfl] at this; simp at this) (by rw [pairTrees_length _ _ _ _ rfl rfl]; show 1 < 17; decide)]
  refine wpAny_bind (wpAny_standAt (wpAny_bind (wpAny_subDictH (knd := nestedKind X.prog X.w) (Q := fun dd s' => wpAny (model X.prog X.w) X.A (pure (Value.ref dd)) _ _ s') (show X.A.units + 8 < cLine by omega) (by rw [pairTrees_length _ _ _ _ rfl rfl]; show 1 ≤ 15; decide) (pairTrees_cons_walk ?_))))
  refine thn (hk _ ts σ _ A2 (fun y H1 => At F ds ((s.heap.objs.size, .nd [] z) :: M) ((y, .tup ys) :: ts) σ H1) (fun v H' A' => A') |>.run pins _ I2) fun u s1 ⟨y, H1, I3, ry, A3⟩ => ?_
  refine thn (hv _ _ σ _ A3 (fun y2 H2 => At F ds ((s.heap.objs.size, .nd [] z) :: M) ((y2, .v z) :: (y, .tup ys) :: ts) σ H2) (fun v H' A' => A') |>.run pins _ I3) fun u2 s2 ⟨y2, H2, I4, ry2, A4⟩ => pairTrees_nil_walk ?_
  obtain ⟨G, W, S, T, C, nd⟩ := A4.ndAt (X := X) (i := 0) hw rfl
  have hr := T _ (List.mem_cons_of_mem _ List.mem_cons_self)
  obtain ⟨b, hb⟩ := ref_of hr
  simp only at hb
  subst hb
  have ez : y2 = z := (T _ List.mem_cons_self).val
  subst ez
  obtain ⟨es, h0, hl, hdh, hkey, fin⟩ := nd_fin I4 W.le nd (by decide) hr ho hd (by simp) ry2
  have ees : es = [] := List.length_eq_zero_iff.mp hl
  subst ees
  cases (show u = Value.ref b from ry)
  refine ⟨[(toN (.tup ys), b, u2)], ⟨rfl, rfl, hkey, trivial⟩, hdh, fun h' tk hd' sb => ?_⟩
  obtain ⟨o, I5, c⟩ := fin h' tk hd' sb
  refine wpAny_pure ⟨.ref s.heap.objs.size, _, I5, rfl, k _ _ _ _ ⟨_, f, rfl, rfl⟩ ?_⟩
  exact ((At.write2 (i := 0) (d := .nd [.tup ys] y2) W S T C rfl fun H' e => by rw [hw]; exact c G H' (Same.refl _) e).lit (.ref s.heap.objs.size)).sub fun t ht => by
    rcases List.mem_cons.mp ht with q | q
    · rw [q]; exact List.mem_cons_self
    · exact List.mem_cons_of_mem _ (List.mem_cons_of_mem _ (List.mem_cons_of_mem _ q))⟩

/-- {k: v for name in list}, the keys nested tuples, all different -/
theorem dc_at {y : Str} {i : Nat} {tp : Pos} {kx vx : Expr} {scope : Scope} {xs : List D} {z : V} {ts : List (V × D)} {σ : St} {H : Hp} {pins : List (Addr × Obj)} {s : Shared} {use : Option (Value → Sem Unit)} {Qf : Value → Shared → Prop} (g : Good X) (hu : X.A.units + 64 < cLine) (hw : F.w = X.w) (hi : EV X F ds M iter (.lst xs) M1) (ok : BlkOk X.N X.env.scope scope [(y, i)]) (hz : xs.length ≤ 100000)
    (hkeys : ∀ x ∈ xs, (∃ ys, x = .tup ys) ∧ okN x = true ∧ (toN x).depth ≤ 8) (hnd : (xs.map toN).Nodup)
    (hg : ∀ (s : Shared) (H : Hp) (C : Addr) (cl : List (Str × Addr)) (fp : List Addr), PG (bk X scope s H C cl fp) (.Name y tp) (gName i))
    (hk : ∀ s H C cl fp M x, x ∈ xs → EV (bk X scope s H C cl fp) F (ds.set i (some x)) M kx x M) (hv : ∀ s H C cl fp M x, x ∈ xs → EV (bk X scope s H C cl fp) F (ds.set i (some x)) M vx (.v z) M) (hs : ∀ x, foldedSetIterable iter X.env x = pure x) (A : At F ds M ts σ H) (I : Inv X pins σ H s)
    (hRR : ∀ p C s' m H', Inv X pins σ H' s' → At F ds ((p, .nd xs z) :: M1) ts σ H' → F.H p = none → s'.heap.Ns C m → FpOk X pins H' C → compPost (model X.prog X.w) X.A X.xe use Qf (.ref p) C (.ok .next) s') :

    wpAny (model X.prog X.w) X.A (comprehension (.DictComp kx vx [⟨.Name y tp, iter, [], 0⟩] scope pos) scope X.env pos' newDict false (eval iter X.env) use) Qf X.xe s := by
  have frees : ∀ q ∈ scope.names, q.2 = .free → ∃ c, X.env.cells.lookup q.1 = some c := fun q hq e => by
    rcases ok.free q hq e with r | r <;> exact I.ok.has _ (by first | exact .inl r | exact .inr r)
  refine wpAny_comprehension_free (use := use) rfl hs (closure_ok frees) ok.kind (fun q hq e => by rw [ok.uniq q hq, e]) (thn ((pi_list (tg := .Name y tp) (pe_s (e := iter))).run pins s σ H (fun J H1 => ∃ a, J = Itl X.K a ∧ At F ds M1 ((.ref a, .lst xs) :: ts) σ H1) I ?_) fun xv s1 hx => thn hx fun itv s2 h2 => ?_)
  · exact hi ts σ H A _ fun v H1 A1 => by
      obtain ⟨a, vs, e1, e2, l, _⟩ := A1.openL List.mem_cons_self
      subst e1
      exact ⟨a, rfl, ⟨vs, SqL.of e2⟩, a, rfl, A1⟩
  obtain ⟨it, fp, tn, J, H2, eit, I2, T, st2, f2, a, eJ, A2⟩ := h2
  subst eit eJ
  have IT : ItD F (Itl X.K a) xs [(.ref a, .lst xs)] := itd_list
  refine wpAny_newObj_type (newEnv_comp ?_)
  have hnone := I2.hok.fresh (Nat.le_refl s2.heap.objs.size)
  obtain ⟨A3, fD⟩ := A2.newN (z := z) hw hnone
  have I3 := nd_new I2
  generalize hDd : s2.heap.objs.size = Dd at A3 I3 fD hnone
  generalize hs3 : ({ s2 with heap := s2.heap.push { cls := .type "dict", data := .dict #[] } } : Shared) = s3 at I3
  generalize hH3 : upd H2 Dd (NDO X.w Dd []) = H3 at I3 A3
  have hp3 : s3.heap = s2.heap.push { cls := .type "dict", data := .dict #[] } := by rw [← hs3]
  have f3 : ∀ b ∈ fp, FpOk X pins H3 b ∧ b < s3.heap.objs.size := fun b hb => by
    obtain ⟨ob, eb, _⟩ := T.obj _ _ st2 b hb
    have hlt := Heap.lt_size eb
    have nb : b ≠ Dd := by
      rw [← hDd]
      exact Nat.ne_of_lt hlt
    exact ⟨⟨by rw [← hH3, upd_ne nb]; exact (f2 b hb).1, (f2 b hb).2⟩, by rw [hp3, Heap.size_push]; exact Nat.lt_succ_of_lt hlt⟩
  have st3 : tn 0 s3.heap := T.keep _ _ _ st2 fun b _ ob eb => by
    rw [hp3]
    exact Heap.get?_push_of_some _ eb
  have I4 := block_start I3 ok g.nd f3
  have pg0 := hg s3 H3 s3.heap.objs.size (cellsFrom (s3.heap.objs.size + 1) scope.names (cloFrom X.env.cells scope.names [])) fp
  have pk0 := hk s3 H3 s3.heap.objs.size (cellsFrom (s3.heap.objs.size + 1) scope.names (cloFrom X.env.cells scope.names [])) fp
  have pv0 := hv s3 H3 s3.heap.objs.size (cellsFrom (s3.heap.objs.size + 1) scope.names (cloFrom X.env.cells scope.names [])) fp
  show codeAny _ _ (.compStart (.DictComp kx vx [⟨.Name y tp, iter, [], 0⟩] scope pos) 0 (.ref it) (.ref Dd) (compEnvC scope (cellsFrom (s3.heap.objs.size + 1) scope.names (cloFrom X.env.cells scope.names [])) s3.heap.objs.size X.env)) (compPost (model X.prog X.w) X.A X.xe use _ (.ref Dd) s3.heap.objs.size)
    { s3 with heap := pushCells (s3.heap.push { cls := .type "dict", data := .dict #[] }) scope.names }
  generalize hce : compEnvC scope (cellsFrom (s3.heap.objs.size + 1) scope.names (cloFrom X.env.cells scope.names [])) s3.heap.objs.size X.env = ce at I4 ⊢
  have pg1 : PG (X.blk s3 H3 scope ce fp) (.Name y tp) (gName i) := by
    rw [← hce]
    exact pg0
  have cL : ce.locals = s3.heap.objs.size := by rw [← hce]; rfl
  generalize hs4 : ({ s3 with heap := pushCells (s3.heap.push { cls := .type "dict", data := .dict #[] }) scope.names } : Shared) = s4 at I4 ⊢
  have st4 : tn 0 s4.heap := T.keep _ _ _ st3 fun b _ ob eb => by
    rw [← hs4]
    exact pushCells_keeps _ _ _ _ (Heap.get?_push_of_some _ eb)
  have nfp : ∀ b ∈ fp, H3 b = none := fun b hb => (f3 b hb).1.1
  have stat : ∀ {σ' : St} {H' : Hp} {s' : Shared}, Inv (X.blk s3 H3 scope ce fp) [] σ' H' s' → (∀ b ∈ fp, H' b = none) → ∀ b ∈ fp, FpOk (X.blk s3 H3 scope ce fp) [] H' b := fun {σ' H' s'} I' hn b hb =>
    ⟨hn b hb, (I'.ok.exf b hb).1, I'.ok.exfs b hb, .inl hb, fun q c e => (I'.ok.exf b hb).2 q c e, fun q hq => absurd (show q ∈ ([] : List (Addr × Obj)) ++ [] from hq) (by simp)⟩
  refine codeAny_compStart_dict ?lp (T.self X.A 0 _ _ _ st4 ?lp)
  refine compLoop_anyD (fun n s' => ∃ j H', n = xs.length - j ∧ j ≤ xs.length ∧ Inv (X.blk s3 H3 scope ce fp) [] (wipe σ [i]) H' s' ∧ tn j s'.heap ∧ (∀ b ∈ fp, H' b = none) ∧ At F ds ((Dd, .nd (xs.take j) z) :: M1) ((V.ref a, D.lst xs) :: ts) σ H') ?_ xs.length ⟨0, H3, rfl, Nat.zero_le _, I4, st4, nfp, A3⟩
  rintro n s5 ⟨j, H5, rfl, hj, I5, st5, n5, A5⟩
  by_cases hlt : j < xs.length
  · have ti := T.item (X.blk s3 H3 scope ce fp) rfl rfl rfl g.hc j [] s5 _ H5 (fun _ _ => False) I5 (stat I5 n5) st5 (IT.go _ _ _ _ _ _ A5 hlt)
    refine thnF ti fun r s6 ⟨u, hr, h6⟩ => ?_
    subst hr
    refine thnF h6 fun _ s7 ⟨xv, H7, I7, r7, y7, st7, n7⟩ => ?_
    obtain ⟨x, hx, A7⟩ := IT.yld _ _ _ _ _ _ _ _ A5 hlt y7
    obtain ⟨hsh, A7⟩ := A7.slotsIn
    have hxm := List.mem_of_getElem? hx
    have I7' := I7.pinned (stat I7 n7) (T.obj _ _ st7)
    refine thnF (pg1.run _ s7 _ H7 xv u (fun σ8 H8 => σ8 = (wipe σ [i]).set i (some xv) ∧ H8 = H7) I7' r7 ⟨rfl, rfl⟩) fun _ s8 ⟨σ8, H8, I8, e8, e9⟩ => ?_
    subst e8 e9
    refine wpAny_tests_nil ?_
    simp only [if_true]
    subst hce
    refine thnF (pk0 _ x hxm _ _ H8 A7.own (fun w1 H1 => At F (ds.set i (some x)) ((Dd, .nd (xs.take j) z) :: M1) ((w1, x) :: ((xv, x) :: ((V.ref a, D.lst xs) :: ts) ++ tsOf σ ds)) ((wipe σ [i]).set i (some xv)) H1) (fun v H' A' => A') |>.run _ s8 I8) fun kv s9 ⟨kv', H9, I9, r9, A9⟩ => ?_
    refine thnF (pv0 _ x hxm _ _ H9 A9 (fun w1 H1 => At F (ds.set i (some x)) ((Dd, .nd (xs.take j) z) :: M1) ((w1, .v z) :: ((kv', x) :: ((xv, x) :: ((V.ref a, D.lst xs) :: ts) ++ tsOf σ ds))) ((wipe σ [i]).set i (some xv)) H1) (fun v H' A' => A') |>.run _ s9 I9) fun vv s10 ⟨vv', H10, I10, r10, A10⟩ => ?_
    obtain ⟨G, W, S, Tt, C, nd⟩ := A10.ndAt (X := X) (i := 0) hw rfl
    obtain ⟨⟨ys, hys⟩, ho, hd⟩ := hkeys x hxm
    have hrk := Tt _ (List.mem_cons_of_mem _ List.mem_cons_self)
    simp only at hrk
    rw [hys] at hrk
    obtain ⟨b, hb⟩ := ref_of hrk
    subst hb
    cases (show kv = Value.ref b from r9)
    have ez : vv' = z := (Tt _ List.mem_cons_self).val
    subst ez
    have hnew : toN (.tup ys) ∉ (xs.take j).map toN := fun hm => by
      obtain ⟨q, hq, e⟩ := List.mem_map.mp hm
      obtain ⟨j2, hj2⟩ := List.mem_iff_getElem?.mp hq
      have hj3 : j2 < j := by
        have := (List.getElem?_eq_some_iff.mp hj2).1
        rw [List.length_take] at this
        omega
      rw [List.getElem?_take_of_lt hj3] at hj2
      have e1 : (xs.map toN)[j2]? = some (toN q) := by rw [List.getElem?_map, hj2]; rfl
      have e2 : (xs.map toN)[j]? = some (toN q) := by rw [List.getElem?_map, hx, e, hys]; rfl
      have := nd_ix hnd e1 e2
      omega
    refine nd_set (X := X.blk s3 H3 scope _ fp) hu I10 W.le nd (by rw [List.length_take]; omega) hrk (by rw [← hys]; exact ho) (by rw [← hys]; exact hd) hnew r10 fun s11 o I11 c => ?_
    have etk : xs.take (j + 1) = xs.take j ++ [x] := by
      rw [List.take_succ_eq_append_getElem hlt]
      rw [List.getElem?_eq_getElem hlt] at hx
      cases hx
      rfl
    have A11 := At.write2 (i := 0) (d := .nd (xs.take (j + 1)) vv') W S Tt C rfl fun H' e => by
      rw [hw, etk, hys]
      exact c G H' (Same.refl _) e
    have pin' : ∀ b ∈ fp, ∀ ob, s7.heap.get? b = some ob → s11.heap.get? b = some ob ∧ (upd H10 Dd o) b = none := fun b hb ob eb =>
      let q := I11.pin (b, ob) (List.mem_append_right _ (List.mem_append_right _ (mem_pinsAt hb eb)))
      ⟨q.1, q.2.1⟩
    refine ⟨xs.length - (j + 1), by omega, j + 1, _, rfl, hlt, (I11.unpinned (pins := [])).weak (by simp [wipe]) (fun q v e => ?_), T.keep _ _ _ st7 fun b hb ob eb => (pin' b hb ob eb).1, fun b hb => ?_, At.slotsOut hsh (A11.sub (ts' := ((V.ref a, D.lst xs) :: ts) ++ tsOf σ ds) fun t ht => ?_)⟩
    · have e0 : (σ.set i none)[q]? = some (some v) := e
      show ((σ.set i none).set i (some xv))[q]? = some (some v)
      by_cases hq : i = q
      · subst hq
        rw [List.getElem?_set] at e0
        simp at e0
      · rw [List.getElem?_set_ne hq]
        exact e0
    · obtain ⟨ob, eb, _⟩ := T.obj _ _ st7 b hb
      exact (pin' b hb ob eb).2
    · exact List.mem_cons_of_mem _ (List.mem_cons_of_mem _ (List.mem_cons_of_mem _ ht))
  · have hjl : j = xs.length := by omega
    subst hjl
    have td := T.done (X.blk s3 H3 scope ce fp) rfl rfl rfl g.hc xs.length [] s5 _ H5 (fun _ _ => False) I5 (stat I5 n5) st5 (IT.stop _ _ _ _ _ _ A5 (Nat.le_refl _))
    refine thnF td fun r s6 ⟨hr, I6⟩ => ?_
    subst hr
    have I7 : Inv X pins σ H5 s6 := I3.call' (ch := fp) I6.os I6.base I6.hok I6.bare fun b hb => ⟨(f3 b hb).1.2.2.2.1, (f3 b hb).1.2.1, (f3 b hb).1.2.2.2.2.1, (f3 b hb).1.2.2.2.2.2⟩
    have nC : H5 s3.heap.objs.size = none := by
      have q : H5 ce.locals = none := I6.free
      rw [cL] at q
      exact q
    obtain ⟨m, hn0, _⟩ := I6.loc
    have hn1 : s6.heap.Ns ce.locals m := hn0
    rw [cL] at hn1
    rw [List.take_length] at A5
    exact hRR Dd _ s6 m H5 I7 (A5.sub fun t ht => List.mem_cons_of_mem _ ht) fD hn1 (I3.fpOk (Nat.le_refl _) nC)
theorem ev_dc {y : Str} {i : Nat} {tp : Pos} {kx vx : Expr} {scope : Scope} {xs : List D} {z : V} (g : Good X) (hu : X.A.units + 64 < cLine) (hw : F.w = X.w) (hi : EV X F ds M iter (.lst xs) M1) (ok : BlkOk X.N X.env.scope scope [(y, i)]) (hz : xs.length ≤ 100000)
    (hkeys : ∀ x ∈ xs, (∃ ys, x = .tup ys) ∧ okN x = true ∧ (toN x).depth ≤ 8) (hnd : (xs.map toN).Nodup)
    (hg : ∀ (s : Shared) (H : Hp) (C : Addr) (cl : List (Str × Addr)) (fp : List Addr), PG (bk X scope s H C cl fp) (.Name y tp) (gName i))
    (hk : ∀ s H C cl fp M x, x ∈ xs → EV (bk X scope s H C cl fp) F (ds.set i (some x)) M kx x M) (hv : ∀ s H C cl fp M x, x ∈ xs → EV (bk X scope s H C cl fp) F (ds.set i (some x)) M vx (.v z) M) (hs : ∀ x, foldedSetIterable iter X.env x = pure x := by intro _; rfl) :
    EVK X F ds M (.DictComp kx vx [⟨.Name y tp, iter, [], 0⟩] scope pos) (NewN F xs z M1) := fun ts σ H A Q k => ⟨fun pins s I => by
  rw [arm_eval_DictComp]
  refine dc_at (y := y) (i := i) g hu hw hi ok hz hkeys hnd hg hk hv hs A I fun q C s' m H' I' A' fq hn fp => ?_
  obtain ⟨g0, g1, g2, g3, g4, g5⟩ := fp
  exact ⟨m, hn, fun h'' sb => ⟨.ref q, H', I'.turned (t' := s'.toks) (fun b ob hb e => (sb.2 b hb).trans e) g0 g1 g3 g4 g5, rfl, k _ _ _ _ ⟨q, fq, rfl, rfl⟩ (A'.lit _)⟩⟩⟩
/-- name = {..}, on one line -/
theorem gb_setDc {l : Nat} {nm : Str} {npos spos : Pos} {y : Str} {i : Nat} {tp : Pos} {kx vx : Expr} {scope : Scope} {xs : List D} {z : V} (g : Good X) (hu : X.A.units + 64 < cLine) (hw : F.w = X.w) (hi : EV X F ds M iter (.lst xs) M1) (ok : BlkOk X.N X.env.scope scope [(y, i)]) (hz : xs.length ≤ 100000)
    (hkeys : ∀ x ∈ xs, (∃ ys, x = .tup ys) ∧ okN x = true ∧ (toN x).depth ≤ 8) (hnd : (xs.map toN).Nodup)
    (hg : ∀ (s : Shared) (H : Hp) (C : Addr) (cl : List (Str × Addr)) (fp : List Addr), PG (bk X scope s H C cl fp) (.Name y tp) (gName i))
    (hk : ∀ s H C cl fp M x, x ∈ xs → EV (bk X scope s H C cl fp) F (ds.set i (some x)) M kx x M) (hv : ∀ s H C cl fp M x, x ∈ xs → EV (bk X scope s H C cl fp) F (ds.set i (some x)) M vx (.v z) M) (hs : ∀ x, foldedSetIterable iter X.env x = pure x := by intro _; rfl) (k : ∀ q, F.H q = none → GB X Dn F ts (ds.set l (some (.ref q))) ((q, .nd xs z) :: M1) rest) (hl : X.N[l]? = some nm := by rfl) (hll : X.env.scope.names.lookup nm = some .local := by rfl) (hsw : swapsWith (.DictComp kx vx [⟨.Name y tp, iter, [], 0⟩] scope pos) (some (.Name nm npos)) spos.line X.env = pure true := by rfl) :
    GB X Dn F ts ds M (.Assign [.Name nm npos] (.DictComp kx vx [⟨.Name y tp, iter, [], 0⟩] scope pos) spos :: rest) := fun σ H A => by
  refine sB_cons (t := fun Dm σ' H' => At F ds M ts σ' H' ∧ ∀ q H'', F.H q = none → At F (ds.set l (some (.ref q))) ((q, .nd xs z) :: M1) ts (σ'.set l (some (.ref q))) H'' → Dm.nx (σ'.set l (some (.ref q))) H'') ⟨fun pins s σ1 H1 Dm I hh => ?_⟩ ⟨A, fun q H'' fq A'' => k q fq _ H'' A''⟩
  obtain ⟨A1, kk⟩ := hh
  rw [exec_Assign_Name_used _ _ _ _ hsw]
  refine wpAny_bind (wpAny_standAt (wpAny_bind ?_))
  show wpAny _ X.A (do let _ ← comprehension (.DictComp kx vx [⟨.Name y tp, iter, [], 0⟩] scope pos) scope X.env (firstIterPos [⟨.Name y tp, iter, [], 0⟩] pos) newDict false (eval iter X.env) (some (assign (.Name nm npos) X.env))) _ _ s
  refine wpAny_bind (thn (dc_at (y := y) (i := i) (Qf := fun _ s' => SP X pins Dm .next s') g hu hw hi ok hz hkeys hnd hg hk hv hs A1 I fun q C s' m H' I' A' fq hn fp => ?_) fun _ s' hq => wpAny_pure (wpAny_pure hq))
  show wpAny _ _ (assign (.Name nm npos) X.env (.ref q)) _ _ _
  refine wpAny_assign_Name (store_ok2 (v := V.ref q) I' g.nd hl (.inl hll) rfl (fun s2 I2 hst => ?_) (.inr hll))
  obtain ⟨a, sb, ha⟩ := hst
  obtain ⟨g0, g1, g2, g3, g4, g5⟩ := fp
  have nCa : C ≠ a := by
    rcases ha with w1 | w1
    · rw [w1]; exact g1
    · exact fun e => g4 nm a w1 e.symm
  refine ⟨m, hn.sameBut sb nCa, fun h3 sb3 => ⟨_, H', I2.turned (t' := s2.toks) (fun b ob hb e => (sb3.2 b hb).trans e) g0 g1 g3 g4 g5, ?_⟩⟩
  exact kk q H' fq (((A'.lit (.ref q)).set (i := l) List.mem_cons_self).sub fun t ht => List.mem_cons_of_mem _ ht)
end
end K23

set_option maxHeartbeats 4000000
/-! Written dicts, isinstance, cells that become data. -/
namespace K23
open PySem PySem.Spec PyProof.Rows L2

theorem Wd.dx {F : Fm} {G H : Hp} {y : Addr} {u : HO} (W : Wd F G H) (hy : H y = none) : Wd F G (upd H y u) := by
  have st : ∀ b o, H b = some o → upd H y u b = some o := fun b o e => by
    rw [upd_ne (ne_of_none e hy)]
    exact e
  refine ⟨W.base, fun b o e => st b o (W.le b o e), W.hid, fun b o e nb => st b o (W.keep b o e nb), fun b h1 => ?_⟩
  obtain ⟨o, ho⟩ := Option.ne_none_iff_exists'.mp (W.live b h1)
  rw [st b o ho]
  exact fun z => by cases z
theorem CellsOk.dx {F : Fm} {G H : Hp} {M : Cells} {y : Addr} {u : HO} (C : CellsOk F G H M) (hy : H y = none) : CellsOk F G (upd H y u) M := by
  refine ⟨C.nd, fun q hq => ?_⟩
  obtain ⟨h1, h2, h3⟩ := C.ok q hq
  exact ⟨h1, h2.up (Same.refl _) fun o e => by rw [upd_ne (ne_of_none e hy)]; exact e, h3⟩
/-! ### a sub-frame -/
theorem At.inside {F : Fm} {ds : Slots} {M : Cells} {ts : List (V × D)} {σ : St} {H G : Hp} (W : Wd F G H) (S : Sd G σ ds) (T : ∀ t ∈ ts, Rp G t.1 t.2) (C : CellsOk F G H M) : At (fmOf F.w G H M) ds M ts σ H := by
  refine ⟨G, ⟨Same.refl _, W.le, fun _ _ _ h => h, fun b o e _ => e, fun a h => h⟩, S, T, C.nd, fun p hp => ?_⟩
  obtain ⟨h1, h2, _⟩ := C.ok p hp
  exact ⟨h1, h2, .inl (List.mem_map.mpr ⟨p, hp, rfl⟩)⟩
theorem At.outside {F : Fm} {ds' : Slots} {M M' : Cells} {ts' : List (V × D)} {σ' : St} {H G H' G' : Hp} (W : Wd F G H) (C : CellsOk F G H M) (W' : Wd (fmOf F.w G H M) G' H') (S' : Sd G' σ' ds') (T' : ∀ t ∈ ts', Rp G' t.1 t.2) (C' : CellsOk (fmOf F.w G H M) G' H' M') : At F ds' M' ts' σ' H' := by
  refine ⟨G', ⟨W.base.trans W'.base, W'.le, fun b h1 h0 h2 => W'.hid b (W.live b h1) (fun hm => ?_) (W.hid b h1 h0 h2), fun b u e nb => ?_, fun b h1 => W'.live b (W.live b h1)⟩, S', T', C'.nd, fun q hq => ?_⟩
  · obtain ⟨q, hq, e2⟩ := List.mem_map.mp hm
    rcases (C.ok q hq).2.2 with z | z
    · exact h0 (by rw [← e2]; exact z)
    · rw [e2] at z
      exact h1 z
  · refine W'.keep b u (W.keep b u e nb) fun hm => ?_
    obtain ⟨q, hq, e2⟩ := List.mem_map.mp hm
    rcases (C.ok q hq).2.2 with z | z
    · exact nb (by rw [← e2]; exact z)
    · rw [e2] at z
      rw [z] at e
      cases e
  · obtain ⟨h1, h2, h3⟩ := C'.ok q hq
    refine ⟨h1, h2, ?_⟩
    rcases h3 with z | z
    · obtain ⟨q2, hq2, e2⟩ := List.mem_map.mp z
      have := (C.ok q2 hq2).2.2
      rw [e2] at this
      exact this
    · refine .inr ?_
      cases e : F.H q.1 with
      | none => rfl
      | some u => exact absurd z (W.live _ (by rw [e]; exact fun y => by cases y))
/-! ### a dict display, keys texts -/
def EvP (X : Cx) (F : Fm) (ds : Slots) (M : Cells) : List (Option Expr) → List Expr → List Str → List D → Prop
  | [], [], [], [] => True
  | some k :: ks, v :: vs, z :: zs, x :: xs => EV X F ds M k (.str z) M ∧ EV X F ds M v x M ∧ EvP X F ds M ks vs zs xs
  | _, _, _, _ => False
theorem evp_nil {X : Cx} {F : Fm} {ds : Slots} {M : Cells} : EvP X F ds M [] [] [] [] := trivial
theorem evp_cons {X : Cx} {F : Fm} {ds : Slots} {M : Cells} {k v : Expr} {ks : List (Option Expr)} {vs : List Expr} {z : Str} {zs : List Str} {x : D} {xs : List D} (h1 : EV X F ds M k (.str z) M) (h2 : EV X F ds M v x M) (h3 : EvP X F ds M ks vs zs xs) : EvP X F ds M (some k :: ks) (v :: vs) (z :: zs) (x :: xs) := ⟨h1, h2, h3⟩
def trsOf (X : Cx) : List (Option Expr) → List Expr → List (TE × TE)
  | some k :: ks, v :: vs => (sE X k, sE X v) :: trsOf X ks vs
  | _, _ => []
theorem pps_s {X : Cx} {pos : Pos} : ∀ {ks : List (Option Expr)} {vs : List Expr} {zs : List Str} {xs : List D} {F : Fm} {ds : Slots} {M : Cells}, EvP X F ds M ks vs zs xs → PPs X pos ks vs (trsOf X ks vs)
  | [], [], [], [], _, _, _, _ => pps_nil
  | some k :: ks, v :: vs, z :: zs, x :: xs, F, ds, M, h => pps_cons pe_s pe_s (pps_s h.2.2)
theorem tp_s {X : Cx} : ∀ {ks : List (Option Expr)} {vs : List Expr} {zs : List Str} {xs : List D} {F : Fm} {ds : Slots} {M : Cells} {ts : List (V × D)} {σ : St} {H : Hp} {Q : List (V × V) → Hp → Prop}, EvP X F ds M ks vs zs xs → At F ds M ts σ H →
    (∀ ws H', ws.length = xs.length → zs.length = xs.length → At F ds M (ws.zip xs ++ ts) σ H' → Q ((zs.map V.str).zip ws) H') → tPairs (trsOf X ks vs) σ H Q
  | [], [], [], [], F, ds, M, ts, σ, H, Q, _, A, k => k [] H rfl rfl A
  | some ke :: ks, v :: vs, z :: zs, x :: xs, F, ds, M, ts, σ, H, Q, h, A, k => h.1 ts σ H A _ fun v1 H1 A1 => h.2.1 _ σ H1 A1 _ fun v2 H2 A2 => tp_s h.2.2 A2 fun ws H3 l1 l2 A3 => by
    have e1 : v1 = .str z := A2.val (List.mem_cons_of_mem _ List.mem_cons_self)
    subst e1
    refine k (v2 :: ws) H3 (by simp [l1]) (by simp [l2]) (A3.sub fun t ht => ?_)
    rw [List.zip_cons_cons, List.cons_append] at ht
    rcases List.mem_cons.mp ht with y | y
    · rw [y]; exact List.mem_append_right _ List.mem_cons_self
    · rcases List.mem_append.mp y with y | y
      · exact List.mem_append_left _ y
      · exact List.mem_append_right _ (List.mem_cons_of_mem _ (List.mem_cons_of_mem _ y))
theorem put_fresh {kvs : List (Key × V)} {k : Key} {v : V} (h : k ∉ kvs.map (·.1)) : putK kvs k v = kvs ++ [(k, v)] := by
  unfold putK
  rw [if_neg]
  intro hh
  obtain ⟨p, hp, e⟩ := List.any_eq_true.mp hh
  exact h (List.mem_map.mpr ⟨p, hp, of_decide_eq_true e⟩)
theorem merge_go : ∀ (kvs acc : List (Key × V)), ((acc ++ kvs).map (·.1)).Nodup → mergeK acc kvs = acc ++ kvs
  | [], acc, _ => (List.append_nil acc).symm
  | p :: r, acc, h => by
    have h1 : p.1 ∉ acc.map (·.1) := fun hm => by
      rw [List.map_append, List.nodup_append] at h
      exact h.2.2 _ hm _ (by simp) rfl
    show mergeK (putK acc p.1 p.2) r = _
    rw [put_fresh h1, merge_go r (acc ++ [p]) (by rw [List.append_assoc]; exact h), List.append_assoc]
    rfl
def skey (z : Str) : Key := .inr z
theorem zip_str : ∀ (zs : List Str) (ws : List V), ((zs.map skey).zip ws).map (fun kv => (kV kv.1, kv.2)) = (zs.map V.str).zip ws
  | [], _ => rfl
  | _ :: _, [] => rfl
  | z :: zs, w :: ws => by
    rw [List.map_cons, List.map_cons, List.zip_cons_cons, List.map_cons, List.zip_cons_cons, zip_str zs ws]
    rfl
section
variable {X : Cx} {F : Fm} {ds ds' ds1 ds2 : Slots} {M M1 M2 M3 M' Mo N : Cells} {d d1 d2 d3 : D} {e a b c o tg iter value : Expr} {es : List Expr} {pos pos' apos p p2 : Pos} {x f m : Str} {K : D → Cells → Prop} {Dn : Ends} {ts : List (V × D)} {rest body els : List Stmt} {I : Slots → Cells → Prop}
theorem ev_disp {ks : List (Option Expr)} {vs : List Expr} {zs : List Str} {xs : List D} (hp : ∀ F M, EvP X F ds M ks vs zs xs) (hnd : zs.Nodup := by decide +kernel) (hall : ks.all (·.isSome) = true := by rfl) (hl : ks.length = vs.length := by rfl) (h0 : ks ≠ [] := by exact List.cons_ne_nil _ _) (h15 : ks.length ≤ 15 := by exact Nat.le_of_ble_eq_true rfl) (hz : zs.length ≤ 15 := by exact Nat.le_of_ble_eq_true rfl) :
    EV X F ds M (.Dict ks vs pos) (.dic (zs.map skey) xs) M :=
  ev_of (pe_disp (pps_s (hp F M)) hall hl h0 h15) fun ts σ H A Q k q hq => by
    obtain ⟨G, W0, S, T, C0⟩ := A.ex
    have gq : G q = none := by
      cases e : G q with
      | none => rfl
      | some o =>
        have h1 := W0.le _ _ e
        rw [hq] at h1
        cases h1
    have fq : F.H q = none := by
      cases e : F.H q with
      | none => rfl
      | some o => exact absurd hq (W0.live q (by rw [e]; exact fun y => by cases y))
    have W := W0.dx (u := .dK []) hq
    have C := C0.dx (u := .dK []) hq
    refine tp_s (hp _ M) (At.inside W S T C) fun ws H2 l1 l2 B2 => ?_
    obtain ⟨G', W', S', T', C'⟩ := B2.ex
    have g'q : G' q = none := W'.hid q (by show upd H q (.dK []) q ≠ none; rw [upd_same]; exact fun y => by cases y) (fun hm => by
      obtain ⟨r, hr, e⟩ := List.mem_map.mp hm
      obtain ⟨o, ho⟩ := (C0.ok r hr).2.1.some
      rw [e, hq] at ho
      cases ho) gq
    have nM : ∀ r ∈ M, r.1 ≠ q := fun r hr e => by
      obtain ⟨o, ho⟩ := (C0.ok r hr).2.1.some
      rw [e, hq] at ho
      cases ho
    have h2q : H2 q = some (.dK []) := W'.keep q _ (by show upd H q (.dK []) q = _; rw [upd_same]) fun hm => by
      obtain ⟨r, hr, e⟩ := List.mem_map.mp hm
      exact nM r hr e
    have hnd2 : (zs.map skey).Nodup := by
      rw [List.nodup_iff_pairwise_ne, List.pairwise_map]
      exact (List.nodup_iff_pairwise_ne.mp hnd).imp fun {a b} h e => h (Sum.inr.inj e)
    have hlen : (zs.map skey).length = ws.length := by rw [List.length_map, l1, l2]
    refine ⟨h2q, (zs.map skey).zip ws, (zip_str zs ws).symm, by rw [List.length_zip, List.length_map]; omega, ?_⟩
    have em : mergeK [] ((zs.map skey).zip ws) = (zs.map skey).zip ws := by
      rw [merge_go _ [] (by
        rw [List.nil_append, zip_map1 hlen]
        exact hnd2), List.nil_append]
    rw [em]
    have A3 : At F ds M (ws.zip xs ++ ts) σ H2 := At.outside W C W' S' T' C'
    -- the dict itself becomes visible
    refine k _ _ ?_
    have sg : Same G' (upd G' q (.dK ((zs.map skey).zip ws))) := fun b o e => by
      rw [upd_ne (ne_of_none e g'q)]
      exact e
    have nM2 : ∀ r ∈ M, r.1 ≠ q := nM
    obtain ⟨G2, W2, S2, T2, C2⟩ := A3.ex
    have e3 : Wd F G' H2 := ⟨W.base.trans W'.base, W'.le, fun b h1 h0 h2 => W'.hid b (W.live b h1) (fun hm => by
      obtain ⟨r, hr, e⟩ := List.mem_map.mp hm
      rcases (C.ok r hr).2.2 with z | z
      · exact h0 (by rw [← e]; exact z)
      · rw [e] at z
        exact h1 z) (W.hid b h1 h0 h2), W2.keep, fun b h1 => W'.live b (W.live b h1)⟩
    refine ⟨upd G' q (.dK ((zs.map skey).zip ws)), ⟨e3.base.trans sg, fun b o e => ?_, fun b h1 h0 h2 => ?_, fun b o e nb => ?_, fun b h1 => ?_⟩, S'.up sg, fun t ht => ?_, C2.nd, fun r hr => ?_⟩
    · by_cases hb : b = q
      · subst hb
        rw [upd_same] at e ⊢
        exact e
      · rw [upd_ne hb] at e ⊢
        exact e3.le _ _ e
    · have nb : b ≠ q := fun y => h1 (by rw [y]; exact fq)
      rw [upd_ne nb]
      exact e3.hid b h1 h0 h2
    · have nb2 : b ≠ q := fun y => by
        rw [y, fq] at e
        cases e
      rw [upd_ne nb2]
      exact e3.keep b o e nb
    · by_cases hb : b = q
      · rw [hb, upd_same]
        exact fun y => by cases y
      · rw [upd_ne hb]
        exact e3.live b h1
    · rcases List.mem_cons.mp ht with y | y
      · rw [y]
        exact .dic upd_same (by rw [List.length_map, l2]) ((RpA.of l1 fun t ht => T' t (List.mem_append_left _ ht)).up sg)
      · exact (T' t (List.mem_append_right _ y)).up sg
    · obtain ⟨h1, h2, _⟩ := C'.ok r hr
      exact ⟨by rw [upd_ne (nM r hr)]; exact h1, h2.up sg fun o e => by rw [upd_ne (nM r hr)]; exact e, (C2.ok r hr).2.2⟩
theorem val_zip {k : Key} : ∀ {ks : List Key} {vs : List V} {j : Nat} {v : V}, ks.Nodup → ks[j]? = some k → vs[j]? = some v → valV (ks.zip vs) k = some v
  | [], _, _, _, _, h, _ => by simp at h
  | _ :: _, [], _, _, _, _, h => by simp at h
  | q :: ks, w :: vs, 0, v, _, h1, h2 => by
    simp at h1 h2
    rw [List.zip_cons_cons, valV_pos h1, h2]
  | q :: ks, w :: vs, j + 1, v, nd, h1, h2 => by
    have hm : k ∈ ks := List.mem_of_getElem? (by simpa using h1)
    have hne : ¬ q = k := fun e => (List.nodup_cons.mp nd).1 (e ▸ hm)
    rw [List.zip_cons_cons, valV_neg (p := (q, w)) hne]
    exact val_zip (List.nodup_cons.mp nd).2 (by simpa using h1) (by simpa using h2)
/-- d[text] -/
theorem ev_ixD {zs : List Str} {xs : List D} {z : Str} {j : Nat} (hu : X.A.units + 64 < cLine) (ha : EV X F ds M a (.dic (zs.map skey) xs) M1) (hb : EV X F ds M1 b (.str z) M2) (hj : zs[j]? = some z) (hx : xs[j]? = some d) (hnd : zs.Nodup := by decide +kernel) (hs : NoSl b := by exact fun _ _ => rfl) : EV X F ds M (.Subscript a b pos) d M2 :=
  ev_of (pe_dget (by omega) pe_s pe_s hs) fun ts σ H A Q k => ha ts σ H A _ fun v1 H1 A1 => hb _ σ H1 A1 _ fun v2 H2 A2 => by
    obtain ⟨q, vs, e1, hq, l1, l2, A3⟩ := A2.openD (List.mem_cons_of_mem _ List.mem_cons_self)
    have e2 : v2 = .str z := A2.val List.mem_cons_self
    subst e1 e2
    have hj2 : j < vs.length := by rw [l2]; exact (List.getElem?_eq_some_iff.mp hx).1
    have hnd2 : (zs.map skey).Nodup := by
      rw [List.nodup_iff_pairwise_ne, List.pairwise_map]
      exact (List.nodup_iff_pairwise_ne.mp hnd).imp fun {a b} h e => h (Sum.inr.inj e)
    have hv : valV ((zs.map skey).zip vs) (skey z) = some vs[j] := val_zip hnd2 (by rw [List.getElem?_map, hj]; rfl) (List.getElem?_eq_getElem hj2)
    refine ⟨q, vs[j], rfl, .inl ⟨_, skey z, .inl hq, rfl, hv.symm⟩, k _ _ (A3.sub fun t ht => ?_)⟩
    rcases List.mem_cons.mp ht with y | y
    · rw [y]; exact List.mem_append_left _ (zip_mem (List.getElem?_eq_getElem hj2) hx)
    · exact List.mem_append_right _ (List.mem_cons_of_mem _ (List.mem_cons_of_mem _ y))

/-! ### isinstance -/
theorem ev_isiT {xs : List D} (hm : X.mg "isinstance" = none) (ht : X.mg "tuple" = none) (ha : EV X F ds M e (.tup xs) M1) (hg : Gl X "isinstance" := by rfl) (hg2 : Gl X "tuple" := by rfl) (h1 : starEach [e, .Name "tuple" p2] X.env = (false, eval e X.env) :: starEach [.Name "tuple" p2] X.env := by rfl) (h2 : starEach [.Name "tuple" p2] X.env = (false, eval (.Name "tuple" p2) X.env) :: starEach [] X.env := by rfl)
    (hpl : (backTo pos (starEach [.Name "tuple" p2] X.env)).any (·.1) = false := by rfl) : EV X F ds M (.Call (.Name "isinstance" p) [e, .Name "tuple" p2] [] pos) (.bl true) M1 :=
  ev_callB (xs := [.tup xs, .v (.ty "tuple")]) call_isi hm (by decide +kernel) (ea_cons ha (ea_cons (ev_bltn (u := .type "tuple") ht PyProof.Rows.boot_tuple rfl hg2) ea_nil h2) h1) (fun ts σ H vs hl A Q k => by
    obtain ⟨v, w, rfl⟩ := len2 hl
    obtain ⟨q, us, e1, hq, _, _⟩ := A.openT List.mem_cons_self
    have e2 : w = .ty "tuple" := A.val (List.mem_cons_of_mem _ List.mem_cons_self)
    subst e1 e2
    exact ⟨_, _, _, _, _, rfl, .ty _, .base (.tup hq), kit_ty (by decide +kernel), k _ _ ((A.sub fun t ht => List.mem_cons_of_mem _ (List.mem_cons_of_mem _ ht)).lit _)⟩) hg (he := h1) (hpl := hpl)
theorem ev_isiL {xs : List D} (hm : X.mg "isinstance" = none) (ht : X.mg "list" = none) (ha : EV X F ds M e (.lst xs) M1) (hg : Gl X "isinstance" := by rfl) (hg2 : Gl X "list" := by rfl) (h1 : starEach [e, .Name "list" p2] X.env = (false, eval e X.env) :: starEach [.Name "list" p2] X.env := by rfl) (h2 : starEach [.Name "list" p2] X.env = (false, eval (.Name "list" p2) X.env) :: starEach [] X.env := by rfl)
    (hpl : (backTo pos (starEach [.Name "list" p2] X.env)).any (·.1) = false := by rfl) : EV X F ds M (.Call (.Name "isinstance" p) [e, .Name "list" p2] [] pos) (.bl true) M1 :=
  ev_callB (xs := [.lst xs, .v (.ty "list")]) call_isi hm (by decide +kernel) (ea_cons ha (ea_cons (ev_bltn (u := .type "list") ht PyProof.Rows.boot_list rfl hg2) ea_nil h2) h1) (fun ts σ H vs hl A Q k => by
    obtain ⟨v, w, rfl⟩ := len2 hl
    obtain ⟨q, us, e1, hq, _, _⟩ := A.openL List.mem_cons_self
    have e2 : w = .ty "list" := A.val (List.mem_cons_of_mem _ List.mem_cons_self)
    subst e1 e2
    exact ⟨_, _, _, _, _, rfl, .ty _, .base (.lst hq), kit_ty (by decide +kernel), k _ _ ((A.sub fun t ht => List.mem_cons_of_mem _ (List.mem_cons_of_mem _ ht)).lit _)⟩) hg (he := h1) (hpl := hpl)

/-! ### cells that become data, by a statement -/
theorem gb_frz0 {i j : Nat} {q : Addr} (k : GB X Dn F ts (ds.set i (some d)) (M.eraseIdx j) rest) (hi : ds[i]? = some (some (.ref q)) := by rfl) (hj : M[j]? = some (q, d) := by rfl) (hd : ∀ xs x, d ≠ .nd xs x := by exact fun _ _ z => by cases z) : GB X Dn F ts ds M rest := fun σ H A => by
  obtain ⟨v, h1, A1⟩ := A.slot hi
  have e1 := A1.val List.mem_cons_self
  subst e1
  have A2 := (A1.freeze0 hj hd).set (i := i) List.mem_cons_self
  rw [set_same h1] at A2
  exact k σ H (A2.sub fun t ht => List.mem_cons_of_mem _ (List.mem_cons_of_mem _ ht))
theorem ev_frz0 {q : Addr} {i : Nat} (h : EV X F ds M e (.ref q) M1) (hi : M1[i]? = some (q, d) := by rfl) (hd : ∀ xs x, d ≠ .nd xs x := by exact fun _ _ z => by cases z) : EV X F ds M e d (M1.eraseIdx i) :=
  fun ts σ H A Q k => h ts σ H A _ fun v H1 A1 => by
    have e1 := A1.val List.mem_cons_self
    subst e1
    exact k _ _ ((A1.freeze0 hi hd).sub fun t ht => by
      rcases List.mem_cons.mp ht with h | h
      · subst h; exact List.mem_cons_self
      · exact List.mem_cons_of_mem _ (List.mem_cons_of_mem _ h))
theorem gb_frz {i j : Nat} {q : Addr} (k : GB X Dn F ts (ds.set i (some d)) (M.eraseIdx j) rest) (hi : ds[i]? = some (some (.ref q)) := by rfl) (hj : M[j]? = some (q, d) := by rfl) (fq : F.H q = none := by assumption) (hd : ∀ xs x, d ≠ .nd xs x := by exact fun _ _ z => by cases z) : GB X Dn F ts ds M rest := fun σ H A => by
  obtain ⟨v, h1, A1⟩ := A.slot hi
  have e1 := A1.val List.mem_cons_self
  subst e1
  have A2 := (A1.freeze hj fq hd).set (i := i) List.mem_cons_self
  rw [set_same h1] at A2
  exact k σ H (A2.sub fun t ht => List.mem_cons_of_mem _ (List.mem_cons_of_mem _ ht))
/-- what stands in a field is known as data -/
theorem At.cellUp {σ : St} {H : Hp} {C q q2 : Addr} {ns : List Str} {xs : List D} {i l : Nat} (A : At F ds M ts σ H) (hm : (V.ref q2, d) ∈ ts) (hi : M[i]? = some (q, .ins C ns xs)) (hl : xs[l]? = some (.ref q2)) : At F ds (M.set i (q, .ins C ns (xs.set l d))) ts σ H := by
  obtain ⟨G, W, S, T, Cc⟩ := A.ex
  have hmap : (M.set i (q, D.ins C ns (xs.set l d))).map (·.1) = M.map (·.1) := by
    rw [List.map_set]
    exact set_same (by rw [List.getElem?_map, hi]; rfl)
  refine ⟨G, W, S, T, by rw [hmap]; exact Cc.nd, fun r hr => ?_⟩
  rcases List.mem_or_eq_of_mem_set hr with h | h
  · exact Cc.ok r h
  · subst h
    obtain ⟨h1, h2, h3⟩ := Cc.ok _ (List.mem_of_getElem? hi)
    obtain ⟨dx, vs, e1, e2, e3⟩ := h2
    refine ⟨h1, ⟨dx, vs, e1, by rw [List.length_set]; exact e2, ?_⟩, h3⟩
    obtain ⟨v, f1, f2⟩ := e3.get hl
    have e4 : v = .ref q2 := f2.val
    have := RpA.set (T _ hm) l e3
    rw [set_same (by rw [f1, e4])] at this
    exact this
/-- a field's cell becomes data in the object's own cell -/
theorem gb_frzIn {C q q2 : Addr} {ns : List Str} {xs : List D} (i j l : Nat) (k : GB X Dn F ts ds ((M.eraseIdx j).set i (q, .ins C ns (xs.set l d))) rest) (hj : M[j]? = some (q2, d) := by rfl) (hi : (M.eraseIdx j)[i]? = some (q, .ins C ns xs) := by rfl) (hl : xs[l]? = some (.ref q2) := by rfl) (fq : F.H q2 = none := by assumption) (hd : ∀ xs x, d ≠ .nd xs x := by exact fun _ _ z => by cases z) : GB X Dn F ts ds M rest := fun σ H A =>
  k σ H (((A.freeze hj fq hd).cellUp List.mem_cons_self hi hl).sub fun t ht => List.mem_cons_of_mem _ ht)
theorem gb_frzIn0 {C q q2 : Addr} {ns : List Str} {xs : List D} (i j l : Nat) (k : GB X Dn F ts ds ((M.eraseIdx j).set i (q, .ins C ns (xs.set l d))) rest) (hj : M[j]? = some (q2, d) := by rfl) (hi : (M.eraseIdx j)[i]? = some (q, .ins C ns xs) := by rfl) (hl : xs[l]? = some (.ref q2) := by rfl) (hd : ∀ xs x, d ≠ .nd xs x := by exact fun _ _ z => by cases z) : GB X Dn F ts ds M rest := fun σ H A =>
  k σ H (((A.freeze0 hj hd).cellUp List.mem_cons_self hi hl).sub fun t ht => List.mem_cons_of_mem _ ht)
theorem evk_catL {xs ys : List D} (ha : EV X F ds M a (.lst xs) M1) (hb : EV X F ds M1 b (.lst ys) M2) (h : xs.length + ys.length ≤ 100000) : EVK X F ds M (.BinOp a .Add b pos) (NewL F (xs ++ ys) M2) :=
  evk_of (pe_op op_cat pe_s pe_s) fun ts σ H A Q k => ha ts σ H A _ fun v1 H1 A1 => hb _ σ H1 A1 _ fun v2 H2 A2 => by
    obtain ⟨q1, vs, e1, h1, l1, B1⟩ := A2.openL (List.mem_cons_of_mem _ List.mem_cons_self)
    obtain ⟨q2, ws, e2, h2, l2, B2⟩ := B1.openL (List.mem_append_right _ List.mem_cons_self)
    refine ⟨q1, q2, vs, ws, e1, e2, h1, h2, by rw [l1, l2]; exact Nat.le_trans h (by decide), fun r hr => ?_⟩
    obtain ⟨A3, fr⟩ := B2.allocC (d := .lst (xs ++ ys)) (o := .lst (vs ++ ws)) hr fun G' H' r0 e0 => ⟨_, e0, RpA.app (RpA.of l1 fun t ht => r0 t (List.mem_append_right _ (List.mem_append_left _ ht))) (RpA.of l2 fun t ht => r0 t (List.mem_append_left _ ht))⟩
    exact k _ _ _ _ ⟨r, fr, rfl, rfl⟩ (A3.sub fun t ht => by
      rcases List.mem_cons.mp ht with z | z
      · rw [z]; exact List.mem_cons_self
      · exact List.mem_cons_of_mem _ (List.mem_append_right _ (List.mem_append_right _ (List.mem_cons_of_mem _ (List.mem_cons_of_mem _ z)))))
/-- a cell that has just come becomes data -/
theorem EvK.frz {te : TE} {D0 : D} {Mr : Cells} (h : EvK F ds M te K) (hk : ∀ d M', K d M' → ∃ q, F.H q = none ∧ d = .ref q ∧ M' = (q, D0) :: Mr) (hd : ∀ xs x, D0 ≠ .nd xs x := by exact fun _ _ z => by cases z) : Ev F ds M te D0 Mr := fun ts σ H A Q k => h ts σ H A _ fun d M' v H' hK A' => by
  obtain ⟨q, fq, e1, e2⟩ := hk d M' hK
  subst e1 e2
  have e3 : v = .ref q := A'.val List.mem_cons_self
  subst e3
  exact k _ _ ((A'.freeze (i := 0) rfl fq hd).sub fun t ht => by
    rcases List.mem_cons.mp ht with z | z
    · rw [z]; exact List.mem_cons_self
    · exact List.mem_cons_of_mem _ (List.mem_cons_of_mem _ z))
end
end K23

set_option maxHeartbeats 4000000
/-! The yard's own functions. -/
namespace K23
open PySem PySem.Spec PyProof.Rows L2

structure Ty (w : World) (K : PySem.W.Frag) (mg : Str → Option Value) (C : Addr) : Prop where
  cls : Cls K C
  text : NoAttr K C "text"
  kinds : NoAttr K C "kinds"
  bounds : NoAttr K C "bounds"
  links : NoAttr K C "links"
  ins : ∃ q, GV mg "INS" (.ref q) ∧ ∀ k : Kd, ∃ a, KDct K w q k.str (.ref a) ∧ ∀ H, SqT K H a ((insK k).map V.int)
  outs : ∃ q, GV mg "OUTS" (.ref q) ∧ ∀ k : Kd, ∃ a, KDct K w q k.str (.ref a) ∧ ∀ H, SqT K H a ((outsK k).map V.int)
/-- what the walk asks of a yard and a row -/
structure Okk (y : Yd) (row : List Int) : Prop where
  isrow : IsRow row
  few : row.length ≤ 5
  links : LinksOk y.devs.length y.links
  dl : y.devs.length ≤ 3
  ll : y.links.length ≤ 100
  bs : ∀ x ∈ y.devs, x.2 ≤ 4
theorem atI_nat {α : Type} {xs : List α} {i : Int} (h0 : 0 ≤ i) (h : i < xs.length) : atI xs i = xs[i.toNat]? := by
  unfold atI ixN
  rw [if_pos h0, if_pos h]
  rfl
theorem atI_last {α : Type} {xs : List α} (h : 0 < xs.length) : atI xs (-1) = xs[xs.length - 1]? := by
  unfold atI ixN
  rw [if_neg (by decide), if_pos (by omega)]
  have : ((-1 : Int) + xs.length).toNat = xs.length - 1 := by omega
  show xs[((-1 : Int) + xs.length).toNat]? = _
  rw [this]
section
variable {P : Program} {w : World} {K : PySem.W.Frag} {mg : Str → Option Value} {base : Heap} {f : Addr} {fd : FuncData}
def cCheck : Ctr := fun args M Kx => ∃ row, IsRow row ∧ row.length ≤ 60 ∧ args = [encRow row] ∧ M = [] ∧ Kx = KD .non []
theorem ok_check (Fn : Fun K "check_row" "check_row" s_check_row f fd) (g1 : GF P w K mg base "is_row" 1 cIsRow) : FnOk P w K mg base CX0 2 f fd ["row"] (toSp w cCheck) :=
  fn_ok Fn sc_check_row (by rintro _ _ _ ⟨row, _, _, rfl, _⟩; rfl) fun b F args M Kx hw hP hc hr => by
    obtain ⟨row, R, hl, rfl, rfl, rfl⟩ := hc
    refine gb_when (et_not (et_val (ev_callP g1 hr hw (ea_cons (ev_v 0) ea_nil) ⟨row, R, hl, rfl, rfl, rfl⟩))) (fun h => by cases h) fun _ => gb_offD
def cYLen (C : Addr) : Ctr := fun args M Kx => ∃ y : Yd, y.devs.length ≤ 100 ∧ args = [yardD C y] ∧ M = [] ∧ Kx = KD (.int y.devs.length) []
theorem ok_ylen {C : Addr} (Fn : Fun K "__len__" "Yard.__len__" s_Yard_len f fd) (T : Tx w K mg) (Y : Ty w K mg C) : FnOk P w K mg base CX0 1 f fd ["self"] (toSp w (cYLen C)) :=
  fn_ok Fn sc_Yard_len (by rintro _ _ _ ⟨y, _, rfl, _⟩; rfl) fun b F args M Kx hw hP hc hr => by
    obtain ⟨y, hl, rfl, rfl, rfl⟩ := hc
    refine gb_retD (ev_lenL T.len (ev_fld (d := .lst (y.devs.map encK)) (j := 1) Y.cls Y.kinds (ev_v 0) .data)) (hd := ?_)
    rw [List.length_map]
theorem dv_get {devs : Devs} {i : Int} (h0 : 0 ≤ i) (h : i < devs.length) : devs[i.toNat]? = some (dv devs i) := get_lt (by omega) _
theorem atI_kinds {devs : Devs} {i : Int} (h0 : 0 ≤ i) (h : i < devs.length) : atI (devs.map encK) i = some (.str (dv devs i).1.str) := by
  rw [atI_nat h0 (by rw [List.length_map]; exact h), List.getElem?_map, dv_get h0 h]
  rfl
theorem atI_bounds {devs : Devs} {i : Int} (h0 : 0 ≤ i) (h : i < devs.length) : atI (devs.map fun x => encB x.2) i = some (encB (dv devs i).2) := by
  rw [atI_nat h0 (by rw [List.length_map]; exact h), List.getElem?_map, dv_get h0 h]
  rfl
def cYIns (C : Addr) : Ctr := fun args M Kx => ∃ (y : Yd) (i : Int), (0 ≤ i ∧ i < y.devs.length) ∧ args = [yardD C y, .int i] ∧ M = [] ∧ Kx = KD (.lst (dI (insK (dv y.devs i).1))) []
theorem ok_yins {C : Addr} (Fn : Fun K "ins" "Yard.ins" s_Yard_ins f fd) (T : Tx w K mg) (Y : Ty w K mg C) : FnOk P w K mg base CX0 1 f fd ["self", "device"] (toSp w (cYIns C)) :=
  fn_ok Fn sc_Yard_ins (by rintro _ _ _ ⟨y, i, _, rfl, _⟩; rfl) fun b F args M Kx hw hP hc hr => by
    obtain ⟨y, i, ⟨h0, h1⟩, rfl, rfl, rfl⟩ := hc
    obtain ⟨q, hq, hk⟩ := Y.ins
    obtain ⟨a, k1, k2⟩ := hk (dv y.devs i).1
    refine gb_retD (ev_listK T.list (ev_ixK (ev_g hq) (ev_ixL (ev_fld (d := .lst (y.devs.map encK)) (j := 1) Y.cls Y.kinds (ev_v 0) .data) (ev_v 1) (atI_kinds h0 h1)) k1) k2) (hd := ?_)
    rw [List.map_map]
    rfl
def cYOuts (C : Addr) : Ctr := fun args M Kx => ∃ (y : Yd) (i : Int), (0 ≤ i ∧ i < y.devs.length) ∧ args = [yardD C y, .int i] ∧ M = [] ∧ Kx = KD (.lst (dI (outsK (dv y.devs i).1))) []
theorem ok_youts {C : Addr} (Fn : Fun K "outs" "Yard.outs" s_Yard_outs f fd) (T : Tx w K mg) (Y : Ty w K mg C) : FnOk P w K mg base CX0 1 f fd ["self", "device"] (toSp w (cYOuts C)) :=
  fn_ok Fn sc_Yard_outs (by rintro _ _ _ ⟨y, i, _, rfl, _⟩; rfl) fun b F args M Kx hw hP hc hr => by
    obtain ⟨y, i, ⟨h0, h1⟩, rfl, rfl, rfl⟩ := hc
    obtain ⟨q, hq, hk⟩ := Y.outs
    obtain ⟨a, k1, k2⟩ := hk (dv y.devs i).1
    refine gb_retD (ev_listK T.list (ev_ixK (ev_g hq) (ev_ixL (ev_fld (d := .lst (y.devs.map encK)) (j := 1) Y.cls Y.kinds (ev_v 0) .data) (ev_v 1) (atI_kinds h0 h1)) k1) k2) (hd := ?_)
    rw [List.map_map]
    rfl
theorem isNon_encB (b : Nat) : isNon (encB b) = decide (b = 0) := by
  unfold encB
  split
  · rename_i h; rw [h]; rfl
  · rename_i h; rw [decide_eq_false h]; rfl
def cYRoom (C : Addr) : Ctr := fun args M Kx => ∃ (y : Yd) (i : Int) (n : Nat), (0 ≤ i ∧ i < y.devs.length) ∧ args = [yardD C y, .int i, .int n] ∧ M = [] ∧ Kx = KD (.bl (decide ((dv y.devs i).2 = 0) || decide (n < (dv y.devs i).2))) []
theorem ok_yroom {C : Addr} (Fn : Fun K "room" "Yard.room" s_Yard_room f fd) (Y : Ty w K mg C) : FnOk P w K mg base CX0 1 f fd ["self", "device", "count"] (toSp w (cYRoom C)) :=
  fn_ok Fn sc_Yard_room (by rintro _ _ _ ⟨y, i, n, _, rfl, _⟩; rfl) fun b F args M Kx hw hP hc hr => by
    obtain ⟨y, i, n, ⟨h0, h1⟩, rfl, rfl, rfl⟩ := hc
    refine gb_retD (ev_orV (k := decide ((dv y.devs i).2 = 0)) (j := decide (n < (dv y.devs i).2)) ?_ fun h => ?_)
    · rw [← isNon_encB]
      exact ev_isN (ev_ixL (ev_fld (d := .lst (y.devs.map fun x => encB x.2)) (j := 2) Y.cls Y.bounds (ev_v 0) .data) (ev_v 1) (atI_bounds h0 h1))
    · have hb : encB (dv y.devs i).2 = .int (dv y.devs i).2 := if_neg (of_decide_eq_false h)
      refine Ev.eq (d := .bl (decide ((n : Int) < ((dv y.devs i).2 : Int)))) (ev_lt (ev_v 2) (ev_ixL (ev_fld (d := .lst (y.devs.map fun x => encB x.2)) (j := 2) Y.cls Y.bounds (ev_v 0) .data) (ev_v 1) ((atI_bounds h0 h1).trans (by rw [hb])))) ?_
      have e : decide ((n : Int) < ((dv y.devs i).2 : Int)) = decide (n < (dv y.devs i).2) := by
        by_cases h2 : n < (dv y.devs i).2
        · rw [decide_eq_true h2, decide_eq_true (Int.ofNat_lt.mpr h2)]
        · rw [decide_eq_false h2, decide_eq_false fun z => h2 (Int.ofNat_lt.mp z)]
      rw [e]
end
end K23

set_option maxHeartbeats 4000000
/-! Situations, ends, moves. -/
namespace K23
open PySem PySem.Spec PyProof.Rows L2

theorem dlt {a b : Nat} : decide ((a : Int) < (b : Int)) = decide (a < b) := by
  by_cases h : a < b
  · rw [decide_eq_true h, decide_eq_true (Int.ofNat_lt.mpr h)]
  · rw [decide_eq_false h, decide_eq_false fun z => h (Int.ofNat_lt.mp z)]
theorem held_get {devs : Devs} {row : List Int} {s : Sit} {a : Int} (V : Valid devs row s) (h0 : 0 ≤ a) (h : a < devs.length) : s.held[a.toNat]? = some (hd s a) := get_lt (by rw [V.len]; omega) _
theorem atI_held {devs : Devs} {row : List Int} {s : Sit} {a : Int} (V : Valid devs row s) (h0 : 0 ≤ a) (h : a < devs.length) : atI (s.held.map encI) a = some (encI (hd s a)) := by
  rw [atI_nat h0 (by rw [List.length_map, V.len]; exact h), List.getElem?_map, held_get V h0 h]
  rfl
theorem flat_le {l : List (List Int)} {h : List Int} (hm : h ∈ l) : h.length ≤ l.flatten.length := by
  induction l with
  | nil => cases hm
  | cons x l ih =>
    rw [List.flatten_cons, List.length_append]
    rcases List.mem_cons.mp hm with e | hm
    · rw [e]; omega
    · have := ih hm
      omega
theorem Valid.sizes {devs : Devs} {row : List Int} {s : Sit} (V : Valid devs row s) : s.gone.length ≤ row.length ∧ ∀ h ∈ s.held, h.length ≤ row.length := by
  have h1 := V.perm.length_eq
  rw [List.length_append, List.length_take] at h1
  exact ⟨by omega, fun h hm => by have := flat_le hm; omega⟩
theorem hd_le {devs : Devs} {row : List Int} {s : Sit} {a : Int} (V : Valid devs row s) : (hd s a).length ≤ row.length := by
  unfold hd
  cases e : s.held[a.toNat]? with
  | none => rw [List.getD_eq_getElem?_getD, e]; exact Nat.zero_le _
  | some x =>
    rw [getD_some e]
    exact V.sizes.2 x (List.mem_of_getElem? e)
section
variable {P : Program} {w : World} {K : PySem.W.Frag} {mg : Str → Option Value} {base : Heap} {f : Addr} {fd : FuncData} {C : Addr}
def cFirst (C : Addr) : Ctr := fun args M Kx => ∃ (y : Yd) (row : List Int), Okk y row ∧ args = [yardD C y, encRow row] ∧ M = [] ∧ Kx = KD (encSit (startM y.devs.length)) []
theorem ok_first (Fn : Fun K "first_situation" "first_situation" s_first_situation f fd) (T : Tx w K mg) (g1 : GF P w K mg base "check_row" 2 cCheck) (g2 : MF P w K mg base C "__len__" 1 (cYLen C)) : FnOk P w K mg base CX0 3 f fd ["yard", "row"] (toSp w (cFirst C)) :=
  fn_ok Fn sc_first_situation (by rintro _ _ _ ⟨y, row, _, rfl, _⟩; rfl) fun b F args M Kx hw hP hc hr => by
    obtain ⟨y, row, O, rfl, rfl, rfl⟩ := hc
    have g := bx_good (P := P) (w := w) (K := K) (mg := mg) (base := base) (qual := "first_situation") (b := b) sc_first_situation
    have hdl := O.dl
    refine gb_expr (ev_callP g1 hr hw (ea_cons (ev_v 1) ea_nil) ⟨row, O.isrow, Nat.le_trans O.few (by decide), rfl, rfl, rfl⟩) (gb_retD (ev_tup (ea_cons ev_i (ea_cons (ev_tuple T.tuple (lc_it (i := 2) (f := fun _ => .tup []) g (pi_range1 rfl T.range pa_s rfl) (hw_rng (n := y.devs.length) (ea_cons (ev_lenOwn (C := C) g2 hr hw T.len (ev_v 0) .data ⟨y, by omega, rfl, rfl, rfl⟩ (by omega)) ea_nil) (by omega)) (blkOk_by (N := n_first_situation) (sc := defScope s_first_situation) (by decide +kernel)) (by simp [rngD]; omega) (fun _ _ _ _ _ => pg_name sc_first_situation.nd rfl (.inl rfl)) fun _ _ _ _ _ _ _ _ => ev_tup ea_nil)) (ea_cons (ev_tup ea_nil) ea_nil)))) (hd := ?_))
    show D.tup [.int 0, .tup ((rngD 0 y.devs.length).map fun _ => D.tup []), .tup []] = .tup [.int (0 : Nat), .tup ((List.replicate y.devs.length []).map encI), encI []]
    have e : (rngD 0 y.devs.length).map (fun _ => D.tup []) = (List.replicate y.devs.length []).map encI := by
      unfold rngD
      rw [List.map_map, List.map_replicate]
      refine List.ext_getElem (by simp) fun i h1 h2 => ?_
      simp [encI, dI]
    rw [e]
    rfl
def cLive : Ctr := fun args M Kx => ∃ s : Sit, s.gone.length ≤ 100 ∧ args = [encSit s] ∧ M = [] ∧ Kx = KD (.bl (decide (Live s))) []
theorem live_eqv (s : Sit) : PyData.eqv (toP (encRow s.gone)) (toP (encRow (iota s.gone.length))) = decide (Live s) := eqv_rows _ _
theorem ok_live (Fn : Fun K "is_live" "is_live" s_is_live f fd) (T : Tx w K mg) : FnOk P w K mg base CX0 1 f fd ["situation"] (toSp w cLive) :=
  fn_ok Fn sc_is_live (by rintro _ _ _ ⟨s, _, rfl, _⟩; rfl) fun b F args M Kx hw hP hc hr => by
    obtain ⟨s, hl, rfl, rfl, rfl⟩ := hc
    have g := bx_good (P := P) (w := w) (K := K) (mg := mg) (base := base) (qual := "is_live") (b := b) sc_is_live
    refine gb_set g 1 (ev_ixT (d := encI s.gone) (ev_v 0) ev_i rfl) (gb_retD (ev_eqD (pv1 hr) (ev_list T.list (ev_v 1) (.inr rfl)) (ev_range2 rfl T.list T.range ev_i (ev_add (ev_lenT T.len (ev_v 1)) ev_i) (by decide) (by decide) (by omega) (by rw [ints_len]; omega)) ?_ ?_) (hd := ?_))
    · exact good_ints _
    · rw [ints_len, rg_iota]
      exact good_ints _
    · rw [ints_len, rg_iota]
      show D.bl (PyData.eqv (toP (encRow s.gone)) (toP (encRow (iota s.gone.length)))) = _
      rw [live_eqv]
def cSrc (C : Addr) : Ctr := fun args M Kx => ∃ (y : Yd) (row : List Int) (s : Sit) (a : Int), Valid y.devs row s ∧ (-1 ≤ a ∧ a < y.devs.length) ∧ args = [yardD C y, encRow row, encSit s, .int a] ∧ M = [] ∧ Kx = KD (.lst (dI (srcEnds y.devs row.length s a))) []
theorem ok_src (Fn : Fun K "source_ends" "source_ends" s_source_ends f fd) (T : Tx w K mg) (Y : Ty w K mg C) (g1 : MF P w K mg base C "outs" 1 (cYOuts C)) : FnOk P w K mg base CX0 2 f fd ["yard", "row", "situation", "source"] (toSp w (cSrc C)) :=
  fn_ok Fn sc_source_ends (by rintro _ _ _ ⟨y, row, s, a, _, _, rfl, _⟩; rfl) fun b F args M Kx hw hP hc hr => by
    obtain ⟨y, row, s, a, V, ⟨h0, h1⟩, rfl, rfl, rfl⟩ := hc
    have g := bx_good (P := P) (w := w) (K := K) (mg := mg) (base := base) (qual := "source_ends") (b := b) sc_source_ends
    refine gb_asg (ev_v 2) (eg_t3 g (eg_n g 4) (eg_n g 5) (eg_x g 6)) (gb_when (et_eqI (ev_v 3) (ev_g T.outside)) (fun h => ?_) fun h => ?_)
    · have ha := of_decide_eq_true h
      refine gb_retD (ev_if (et_lt (ev_v 4) (ev_lenL T.len (ev_v 1))) (fun h2 => (ev_lst (ea_cons ev_i ea_nil)).eq ?_) fun h2 => (ev_lst ea_nil).eq ?_)
      · have h3 := of_decide_eq_true h2
        rw [ints_len] at h3
        unfold srcEnds
        rw [if_pos (by omega), if_pos (by omega)]
        rfl
      · have h3 := of_decide_eq_false h2
        rw [ints_len] at h3
        unfold srcEnds
        rw [if_pos (by omega), if_neg (by omega)]
        rfl
    · have ha := of_decide_eq_false h
      have h2 : 0 ≤ a := by omega
      refine gb_retD (ev_if (et_truT (ev_ixT (ev_v 5) (ev_v 3) (atI_held V h2 h1))) (fun h3 => ?_) fun h3 => (ev_lst ea_nil).eq ?_)
      · refine (ev_methP (A0 := C) Y.cls g1 hr hw (ev_v 0) .data (ea_cons (ev_v 3) ea_nil) ⟨y, a, ⟨h2, h1⟩, rfl, rfl, rfl⟩).eq ?_
        unfold srcEnds
        rw [if_neg (by omega), if_neg]
        intro h4
        have h5 : hd s a = [] := List.isEmpty_iff.mp h4
        rw [h5] at h3
        exact absurd h3 (by decide)
      · unfold srcEnds
        have h5 : (hd s a).isEmpty = true := by
          cases e : hd s a with
          | nil => rfl
          | cons x r => rw [e] at h3; exact absurd h3 (by simp [dI])
        rw [if_neg (by omega), if_pos h5]
        rfl
def cTgt (C : Addr) : Ctr := fun args M Kx => ∃ (y : Yd) (row : List Int) (s : Sit) (a : Int), Valid y.devs row s ∧ (-1 ≤ a ∧ a < y.devs.length) ∧ args = [yardD C y, encSit s, .int a] ∧ M = [] ∧ Kx = KD (.lst (dI (tgtEnds y.devs s a))) []
theorem ok_tgt (Fn : Fun K "target_ends" "target_ends" s_target_ends f fd) (T : Tx w K mg) (Y : Ty w K mg C) (g1 : MF P w K mg base C "ins" 1 (cYIns C)) (g2 : MF P w K mg base C "room" 1 (cYRoom C)) : FnOk P w K mg base CX0 2 f fd ["yard", "situation", "target"] (toSp w (cTgt C)) :=
  fn_ok Fn sc_target_ends (by rintro _ _ _ ⟨y, row, s, a, _, _, rfl, _⟩; rfl) fun b F args M Kx hw hP hc hr => by
    obtain ⟨y, row, s, a, V, ⟨h0, h1⟩, rfl, rfl, rfl⟩ := hc
    have g := bx_good (P := P) (w := w) (K := K) (mg := mg) (base := base) (qual := "target_ends") (b := b) sc_target_ends
    refine gb_when (et_eqI (ev_v 2) (ev_g T.outside)) (fun h => ?_) fun h => ?_
    · have ha := of_decide_eq_true h
      refine gb_retD (ev_lst (ea_cons ev_i ea_nil)) (hd := ?_)
      unfold tgtEnds
      rw [if_pos (by omega)]
      rfl
    · have ha := of_decide_eq_false h
      have h2 : 0 ≤ a := by omega
      refine gb_retD (ev_if (k := roomy y.devs s a) (et_val (ev_methP (A0 := C) Y.cls g2 hr hw (ev_v 0) .data (ea_cons (ev_v 2) (ea_cons ((ev_lenT T.len (ev_ixT (ev_ixT (d := .tup (s.held.map encI)) (ev_v 1) ev_i rfl) (ev_v 2) (atI_held V h2 h1))).eq ?_) ea_nil)) ⟨y, a, (hd s a).length, ⟨h2, h1⟩, rfl, rfl, rfl⟩)) (fun h3 => ?_) fun h3 => (ev_lst ea_nil).eq ?_)
      · rw [ints_len]
      · refine (ev_methP (A0 := C) Y.cls g1 hr hw (ev_v 0) .data (ea_cons (ev_v 2) ea_nil) ⟨y, a, ⟨h2, h1⟩, rfl, rfl, rfl⟩).eq ?_
        unfold tgtEnds
        rw [if_neg (by omega), if_pos h3]
      · unfold tgtEnds
        rw [if_neg (by omega), if_neg (by rw [h3]; decide)]
        rfl
end
end K23

set_option maxHeartbeats 4000000
/-! Moves: possible, wagon_of, after. -/
namespace K23
open PySem PySem.Spec PyProof.Rows L2

theorem take_snoc {α : Type} {xs : List α} {i : Nat} {x : α} (h : xs[i]? = some x) : xs.take (i + 1) = xs.take i ++ [x] := by
  have hi := (List.getElem?_eq_some_iff.mp h).1
  rw [List.take_succ_eq_append_getElem hi]
  rw [List.getElem?_eq_getElem hi] at h
  cases h
  rfl
theorem map_get {α β : Type} {f : α → β} {xs : List α} {i : Nat} {y : β} (h : (xs.map f)[i]? = some y) : ∃ x, xs[i]? = some x ∧ y = f x := by
  rw [List.getElem?_map] at h
  cases e : xs[i]? with
  | none => rw [e] at h; cases h
  | some x =>
    rw [e] at h
    cases h
    exact ⟨x, rfl, rfl⟩
theorem flat_len {α β : Type} (f : α → List β) (c : Nat) : ∀ (xs : List α), (∀ x ∈ xs, (f x).length ≤ c) → (xs.flatMap f).length ≤ c * xs.length
  | [], _ => Nat.le_refl _
  | x :: xs, h => by
    rw [List.flatMap_cons, List.length_append, List.length_cons, Nat.mul_add]
    have h1 := h x List.mem_cons_self
    have h2 := flat_len f c xs fun y hy => h y (List.mem_cons_of_mem _ hy)
    omega
theorem outs2 (k : Kd) : (outsK k).length ≤ 2 := by cases k <;> decide
theorem ins2 (k : Kd) : (insK k).length ≤ 2 := by cases k <;> decide
theorem src2 (devs : Devs) (n : Nat) (s : Sit) (a : Int) : (srcEnds devs n s a).length ≤ 2 := by
  unfold srcEnds
  split
  · split <;> simp
  · split
    · simp
    · exact outs2 _
theorem tgt2 (devs : Devs) (s : Sit) (a : Int) : (tgtEnds devs s a).length ≤ 2 := by
  unfold tgtEnds
  split
  · simp
  · split
    · exact ins2 _
    · simp
/-- the moves of one link -/
def lkM (devs : Devs) (n : Nat) (s : Sit) (l : Int × Int) (os : List Int) : List Mv := os.flatMap fun o => (tgtEnds devs s l.2).map fun e => ⟨l.1, o, l.2, e⟩
theorem raw_eq (devs : Devs) (links : List (Int × Int)) (n : Nat) (s : Sit) : rawMoves devs links n s = links.flatMap fun l => lkM devs n s l (srcEnds devs n s l.1) := rfl
theorem lkM_len (devs : Devs) (n : Nat) (s : Sit) (l : Int × Int) (os : List Int) : (lkM devs n s l os).length ≤ 2 * os.length := flat_len _ 2 os fun o _ => by rw [List.length_map]; exact tgt2 _ _ _
theorem raw_len (devs : Devs) (links : List (Int × Int)) (n : Nat) (s : Sit) : (rawMoves devs links n s).length ≤ 4 * links.length := flat_len _ 4 links fun l _ => by
  have h1 := lkM_len devs n s l (srcEnds devs n s l.1)
  have h2 := src2 devs n s l.1
  have h3 : (lkM devs n s l (srcEnds devs n s l.1)).length ≤ 4 := by omega
  exact h3
section
variable {P : Program} {w : World} {K : PySem.W.Frag} {mg : Str → Option Value} {base : Heap} {f : Addr} {fd : FuncData} {C : Addr}
abbrev mvs (devs : Devs) (links : List (Int × Int)) (n : Nat) (s : Sit) : List Mv := srt encMv (rawMoves devs links n s)
def cPoss (C : Addr) : Ctr := fun args M Kx => ∃ (y : Yd) (row : List Int) (s : Sit), Okk y row ∧ Valid y.devs row s ∧ args = [yardD C y, encRow row, encSit s] ∧ M = [] ∧ Kx = KD (.lst ((mvs y.devs y.links row.length s).map encMv)) []
theorem ok_poss (Fn : Fun K "possible" "possible" s_possible f fd) (T : Tx w K mg) (Y : Ty w K mg C) (g1 : GF P w K mg base "source_ends" 2 (cSrc C)) (g2 : GF P w K mg base "target_ends" 2 (cTgt C)) : FnOk P w K mg base CX0 3 f fd ["yard", "row", "situation"] (toSp w (cPoss C)) :=
  fn_ok Fn sc_possible (by rintro _ _ _ ⟨y, row, s, _, _, rfl, _⟩; rfl) fun b F args M Kx hw hP hc hr => by
    obtain ⟨y, row, s, O, V, rfl, rfl, rfl⟩ := hc
    have g := bx_good (P := P) (w := w) (K := K) (mg := mg) (base := base) (qual := "possible") (b := b) sc_possible
    have hll := O.ll
    refine gb_setK g 3 (ev_lstC ea_nil) fun d M1 hd => ?_
    obtain ⟨p, fp, rfl, rfl⟩ := hd
    let DS : Slots := [some (yardD C y), some (encRow row), some (encSit s), some (.ref p), none, none, none, none]
    let A0 : Nat → List Mv := fun i => (y.links.take i).flatMap fun l => lkM y.devs row.length s l (srcEnds y.devs row.length s l.1)
    have hA0 : ∀ i, (A0 i).length ≤ 4 * 100 := fun i => by
      have := raw_len y.devs (y.links.take i) row.length s
      rw [raw_eq] at this
      have h2 : (y.links.take i).length ≤ 100 := by rw [List.length_take]; omega
      exact Nat.le_trans this (by omega)
    refine gb_for g (ev_fld (d := .lst (y.links.map encL)) (j := 3) Y.cls Y.links (ev_v 0) .data) (fun i ds M => ds = DS ∧ M = [(p, .lst ((A0 i).map encMv))]) (fun ds M => ds = DS ∧ M = [(p, .lst ((A0 y.links.length).map encMv))]) ⟨rfl, rfl⟩ ?_ ?_ ?_
    · rintro ts' i x ds' M' hx ⟨rfl, rfl⟩
      obtain ⟨l, hl, rfl⟩ := map_get hx
      obtain ⟨L1, L2⟩ := O.links l (List.mem_of_getElem? hl)
      refine ⟨_, eg_t2 g (eg_n g 4) (eg_n g 5), ?_⟩
      let DS1 : Slots := [some (yardD C y), some (encRow row), some (encSit s), some (.ref p), some (.int l.1), some (.int l.2), none, none]
      let A1 : Nat → List Mv := fun j => A0 i ++ lkM y.devs row.length s l ((srcEnds y.devs row.length s l.1).take j)
      have hA1 : ∀ j, (A1 j).length ≤ 404 := fun j => by
        have h1 := lkM_len y.devs row.length s l ((srcEnds y.devs row.length s l.1).take j)
        have h2 := src2 y.devs row.length s l.1
        have h3 : ((srcEnds y.devs row.length s l.1).take j).length ≤ 2 := by rw [List.length_take]; omega
        have h4 := hA0 i
        show (A0 i ++ _).length ≤ 404
        rw [List.length_append]
        omega
      refine gb_for g (ev_callP g1 hr hw (ea_cons (ev_v 0) (ea_cons (ev_v 1) (ea_cons (ev_v 2) (ea_cons (ev_v 4) ea_nil)))) ⟨y, row, s, l.1, V, L1, rfl, rfl, rfl⟩) (fun j ds M => ds = DS1 ∧ M = [(p, .lst ((A1 j).map encMv))]) (fun ds M => ds = DS1 ∧ M = [(p, .lst ((A1 (srcEnds y.devs row.length s l.1).length).map encMv))]) ⟨rfl, by simp [A1, lkM]⟩ ?_ ?_ ?_
      · rintro ts2 j x ds' M' hx ⟨rfl, rfl⟩
        obtain ⟨o, ho, rfl⟩ := map_get hx
        refine ⟨_, eg_n g 6, ?_⟩
        let DS2 : Slots := [some (yardD C y), some (encRow row), some (encSit s), some (.ref p), some (.int l.1), some (.int l.2), some (.int o), none]
        let A2 : Nat → List Mv := fun k => A1 j ++ ((tgtEnds y.devs s l.2).take k).map fun e => ⟨l.1, o, l.2, e⟩
        have hA2 : ∀ k, (A2 k).length ≤ 406 := fun k => by
          have h2 := tgt2 y.devs s l.2
          have h4 := hA1 j
          show (A1 j ++ _).length ≤ 406
          rw [List.length_append, List.length_map, List.length_take]
          omega
        refine gb_for g (ev_callP g2 hr hw (ea_cons (ev_v 0) (ea_cons (ev_v 2) (ea_cons (ev_v 5) ea_nil))) ⟨y, row, s, l.2, V, L2, rfl, rfl, rfl⟩) (fun k ds M => ds = DS2 ∧ M = [(p, .lst ((A2 k).map encMv))]) (fun ds M => ds = DS2 ∧ M = [(p, .lst ((A2 (tgtEnds y.devs s l.2).length).map encMv))]) ⟨rfl, by simp [A2]⟩ ?_ ?_ ?_
        · rintro ts3 k x ds' M' hx ⟨rfl, rfl⟩
          obtain ⟨e, he, rfl⟩ := map_get hx
          refine ⟨_, eg_n g 7, ?_⟩
          refine gb_expr (ev_app (j := 0) (ev_v 3) rfl (ev_tup (ea_cons (ev_v 4) (ea_cons (ev_v 6) (ea_cons (ev_v 5) (ea_cons (ev_v 7) ea_nil))))) rfl (by rw [List.length_map]; have := hA2 k; omega)) (gb_turn (ds' := DS2) ?_ ?_)
          · refine ⟨rfl, ?_⟩
            have e1 : A2 (k + 1) = A2 k ++ [⟨l.1, o, l.2, e⟩] := by
              show A1 j ++ _ = _
              rw [take_snoc he, List.map_append, ← List.append_assoc]
              rfl
            rw [e1]
            exact congrArg (fun z => [(p, D.lst z)]) (List.map_append (f := encMv) (l₁ := A2 k) (l₂ := [⟨l.1, o, l.2, e⟩])).symm
          · exact ⟨rfl, rfl, rfl, rfl, rfl, rfl, rfl, trivial⟩
        · rintro ds' M' ⟨rfl, rfl⟩
          exact ⟨rfl, by rw [ints_len]⟩
        · rintro ds' M' ⟨rfl, rfl⟩
          refine gb_turn (ds' := DS1) ?_ ⟨rfl, rfl, rfl, rfl, rfl, rfl, trivial⟩
          refine ⟨rfl, ?_⟩
          have e1 : A1 (j + 1) = A2 (tgtEnds y.devs s l.2).length := by
            show A0 i ++ lkM _ _ _ _ _ = (A0 i ++ lkM _ _ _ _ _) ++ _
            rw [take_snoc ho, List.take_length]
            unfold lkM
            rw [List.flatMap_append, List.append_assoc]
            simp
          rw [e1]
      · rintro ds' M' ⟨rfl, rfl⟩
        exact ⟨rfl, by rw [ints_len]⟩
      · rintro ds' M' ⟨rfl, rfl⟩
        refine gb_turn (ds' := DS) ?_ ⟨rfl, rfl, rfl, rfl, trivial⟩
        refine ⟨rfl, ?_⟩
        have e1 : A0 (i + 1) = A1 (srcEnds y.devs row.length s l.1).length := by
          show (y.links.take (i + 1)).flatMap _ = A0 i ++ lkM _ _ _ _ _
          rw [take_snoc hl, List.take_length, List.flatMap_append]
          simp [A0]
        rw [e1]
    · rintro ds' M' ⟨rfl, rfl⟩
      exact ⟨rfl, by rw [List.length_map]⟩
    · rintro ds' M' ⟨rfl, rfl⟩
      have e1 : A0 y.links.length = rawMoves y.devs y.links row.length s := by
        show (y.links.take _).flatMap _ = _
        rw [List.take_length]
        rfl
      rw [e1]
      exact gb_retD (ev_sorted (enc := encMv) (pv1 hr) T.sorted (ev_frz (i := 0) (d := .lst ((rawMoves y.devs y.links row.length s).map encMv)) (ev_v 3)) (fun _ _ => rfl) (fun _ _ _ _ => rfl) (.inl fun m _ => ⟨_, _, rfl⟩) fun m _ => by show (PyData.tuple [.int m.src, .int m.so, .int m.tgt, .int m.te]).depth ≤ 32; simp [PyData.depth, PyData.depthAll])
end
end K23

set_option maxHeartbeats 4000000
/-! wagon_of, after. -/
namespace K23
open PySem PySem.Spec PyProof.Rows L2

theorem gb_ifJ {X : Cx} {F : Fm} {ds : Slots} {M M1 : Cells} {c : Expr} {pos : Pos} {Dn : Ends} {ts : List (V × D)} {rest body els : List Stmt} {t : Bool} (J : Slots → Cells → Prop) (h : ET X F ds M c t M1) (h1 : t = true → GB X { Dn with nx := AtI F ts J } F ts ds M1 body)
    (h2 : t = false → GB X { Dn with nx := AtI F ts J } F ts ds M1 els) (k : ∀ ds' M', J ds' M' → GB X Dn F ts ds' M' rest) : GB X Dn F ts ds M (.If c body els pos :: rest) :=
  gb_if h (fun ht σ H A => sB_mono (h1 ht σ H A) (fun σ' H' ⟨ds', M', j, A'⟩ => k ds' M' j σ' H' A') (fun _ _ z => z) (fun _ _ z => z) (fun _ _ z => z)) fun ht σ H A => sB_mono (h2 ht σ H A) (fun σ' H' ⟨ds', M', j, A'⟩ => k ds' M' j σ' H' A') (fun _ _ z => z) (fun _ _ z => z) (fun _ _ z => z)
structure MvOk (devs : Devs) (n : Nat) (s : Sit) (m : Mv) : Prop where
  src : -1 ≤ m.src ∧ m.src < devs.length
  tgt : -1 ≤ m.tgt ∧ m.tgt < devs.length
  so : m.so ∈ srcEnds devs n s m.src
  te : m.te ∈ tgtEnds devs s m.tgt
theorem mv_ok {devs : Devs} {links : List (Int × Int)} {n : Nat} {s : Sit} {m : Mv} (L : LinksOk devs.length links) (h : m ∈ rawMoves devs links n s) : MvOk devs n s m := by
  unfold rawMoves at h
  obtain ⟨l, hl, h⟩ := List.mem_flatMap.mp h
  obtain ⟨o, ho, h⟩ := List.mem_flatMap.mp h
  obtain ⟨e, he, h⟩ := List.mem_map.mp h
  subst h
  exact ⟨(L l hl).1, (L l hl).2, ho, he⟩
theorem MvOk.out {devs : Devs} {n : Nat} {s : Sit} {m : Mv} (O : MvOk devs n s m) (h : m.src < 0) : s.came < n := by
  have := O.so
  unfold srcEnds at this
  rw [if_pos h] at this
  by_cases h2 : s.came < n
  · exact h2
  · rw [if_neg h2] at this
    cases this
theorem MvOk.ne {devs : Devs} {n : Nat} {s : Sit} {m : Mv} (O : MvOk devs n s m) (h : ¬ m.src < 0) : 0 < (hd s m.src).length := by
  have := O.so
  unfold srcEnds at this
  rw [if_neg h] at this
  cases e : hd s m.src with
  | nil => rw [e] at this; cases this
  | cons x r => simp
theorem atI_ints {xs : List Int} {i : Int} (h0 : 0 ≤ i) (h : i < xs.length) : atI (dI xs) i = some (.int (xs.getD i.toNat 0)) := by
  rw [atI_nat h0 (by rw [ints_len]; exact h)]
  show (xs.map D.int)[i.toNat]? = _
  rw [List.getElem?_map, get_lt (by omega) 0]
  rfl
theorem atI_intsL {xs : List Int} (h : 0 < xs.length) : atI (dI xs) (-1) = some (.int (xs.getD (xs.length - 1) 0)) := by
  rw [atI_last (by rw [ints_len]; exact h), ints_len]
  show (xs.map D.int)[xs.length - 1]? = _
  rw [List.getElem?_map, get_lt (by omega) 0]
  rfl
section
variable {P : Program} {w : World} {K : PySem.W.Frag} {mg : Str → Option Value} {base : Heap} {f : Addr} {fd : FuncData} {C : Addr}
def cWag : Ctr := fun args M Kx => ∃ (devs : Devs) (row : List Int) (s : Sit) (m : Mv), Valid devs row s ∧ MvOk devs row.length s m ∧ args = [encRow row, encSit s, encMv m] ∧ M = [] ∧ Kx = KD (.int (wagonM row s m)) []
theorem ok_wag (Fn : Fun K "wagon_of" "wagon_of" s_wagon_of f fd) (T : Tx w K mg) : FnOk P w K mg base CX0 1 f fd ["row", "situation", "move"] (toSp w cWag) :=
  fn_ok Fn sc_wagon_of (by rintro _ _ _ ⟨devs, row, s, m, _, _, rfl, _⟩; rfl) fun b F args M Kx hw hP hc hr => by
    obtain ⟨devs, row, s, m, V, O, rfl, rfl, rfl⟩ := hc
    have g := bx_good (P := P) (w := w) (K := K) (mg := mg) (base := base) (qual := "wagon_of") (b := b) sc_wagon_of
    refine gb_asg (ev_v 1) (eg_t3 g (eg_n g 3) (eg_n g 4) (eg_x g 5)) (gb_when (et_eqI (i := m.src) (ev_ixT (ev_v 2) ev_i rfl) (ev_g T.outside)) (fun h => ?_) fun h => ?_)
    · have ha := of_decide_eq_true h
      have hs : m.src < 0 := by omega
      have hlt := O.out hs
      refine gb_retD (ev_ixL (ev_v 0) (ev_v 3) (atI_ints (by omega) (by omega))) (hd := ?_)
      unfold wagonM
      rw [if_pos hs]
      rfl
    · have ha := of_decide_eq_false h
      have hs : ¬ m.src < 0 := by have := O.src; omega
      have hl := O.ne hs
      refine gb_retD (ev_ixT (i := if m.so = 0 then 0 else -1) (ev_ixT (ev_v 4) (ev_ixT (d := .int m.src) (ev_v 2) ev_i rfl) (atI_held V (by omega) O.src.2)) (ev_if (et_eqI (i := m.so) (ev_ixT (ev_v 2) ev_i rfl) (ev_g T.left)) (fun h2 => ev_i.eq ?_) fun h2 => (ev_neg ev_i).eq ?_) (d := .int (wagonM row s m)) ?_)
      · rw [if_pos (of_decide_eq_true h2)]
      · rw [if_neg (of_decide_eq_false h2)]
      · unfold wagonM
        rw [if_neg hs]
        by_cases h0 : m.so = 0
        · rw [if_pos h0, if_pos h0]
          exact atI_ints (by decide) (by omega)
        · rw [if_neg h0, if_neg h0]
          exact atI_intsL hl
theorem cut_1 {xs : List D} (h : 0 < xs.length) : cutD xs (some 1) none = xs.drop 1 ∧ ¬ (HT.sIx xs.length 0 (some 1) = 0 ∧ HT.sIx xs.length xs.length none = xs.length) := by
  have e1 : HT.sIx xs.length 0 (some 1) = 1 := by
    show HT.sIx xs.length 0 (some (1 : Int)) = 1
    unfold HT.sIx
    simp
    omega
  have e2 : HT.sIx xs.length xs.length none = xs.length := rfl
  unfold cutD
  rw [e1, e2]
  refine ⟨?_, fun z => by omega⟩
  rw [List.take_of_length_le]
  rw [List.length_drop]
  exact Nat.le_refl _
theorem cut_l {xs : List D} (h : 0 < xs.length) : cutD xs none (some (-1)) = xs.dropLast ∧ ¬ (HT.sIx xs.length 0 none = 0 ∧ HT.sIx xs.length xs.length (some (-1)) = xs.length) := by
  have e1 : HT.sIx xs.length xs.length (some (-1)) = xs.length - 1 := by
    unfold HT.sIx
    simp
    omega
  have e2 : HT.sIx xs.length 0 none = 0 := rfl
  unfold cutD
  rw [e1, e2]
  refine ⟨?_, fun z => by omega⟩
  rw [List.dropLast_eq_take]
  rfl
theorem ixN_ok {n : Nat} {i : Int} (h0 : 0 ≤ i) (h : i < n) : ixN n i = some i.toNat := by
  unfold ixN
  rw [if_pos h0, if_pos h]
theorem atI_heldL {T : List (List Int)} {a : Int} (h0 : 0 ≤ a) (h : a < T.length) : atI (T.map encI) a = some (encI (T.getD a.toNat [])) := by
  rw [atI_nat h0 (by rw [List.length_map]; exact h), List.getElem?_map, get_lt (by omega) []]
  rfl
theorem taken_len (s : Sit) (m : Mv) : (takenM s m).length = s.held.length := by
  unfold takenM
  split
  · rfl
  · rw [List.length_set]
theorem taken_le {devs : Devs} {row : List Int} {s : Sit} (V : Valid devs row s) (m : Mv) (i : Nat) : ((takenM s m).getD i []).length ≤ row.length := by
  unfold takenM
  split
  · exact hd_le (a := (i : Int)) V
  · rw [List.getD_eq_getElem?_getD, List.getElem?_set]
    split
    · rename_i h
      subst h
      split
      · have := hd_le (a := m.src) V
        simp only [Option.getD_some]
        split
        · rw [List.length_drop]; omega
        · rw [List.length_dropLast]; omega
      · exact Nat.zero_le _
    · have := hd_le (a := (i : Int)) V
      unfold hd at this
      rw [List.getD_eq_getElem?_getD] at this
      exact this
def cAfter : Ctr := fun args M Kx => ∃ (devs : Devs) (row : List Int) (s : Sit) (m : Mv), row.length ≤ 60 ∧ Valid devs row s ∧ MvOk devs row.length s m ∧ args = [encRow row, encSit s, encMv m] ∧ M = [] ∧ Kx = KD (encSit (afterM row s m)) []
theorem ok_after (Fn : Fun K "after" "after" s_after f fd) (T : Tx w K mg) (g1 : GF P w K mg base "wagon_of" 1 cWag) : FnOk P w K mg base CX0 2 f fd ["row", "situation", "move"] (toSp w cAfter) :=
  fn_ok Fn sc_after (by rintro _ _ _ ⟨devs, row, s, m, _, _, _, rfl, _⟩; rfl) fun b F args M Kx hw hP hc hr => by
    obtain ⟨devs, row, s, m, hrl, V, O, rfl, rfl, rfl⟩ := hc
    have g := bx_good (P := P) (w := w) (K := K) (mg := mg) (base := base) (qual := "after") (b := b) sc_after
    have hsz := V.sizes
    refine gb_asg (ev_v 1) (eg_t3 g (eg_n g 3) (eg_n g 4) (eg_n g 5)) (gb_set g 6 (ev_callP g1 hr hw (ea_cons (ev_v 0) (ea_cons (ev_v 1) (ea_cons (ev_v 2) ea_nil))) ⟨devs, row, s, m, V, O, rfl, rfl, rfl⟩) (gb_setK g 7 (evk_list T.list (d := .tup (s.held.map encI)) (ev_v 4) (.inr rfl)) fun d M1 hd0 => ?_))
    obtain ⟨p, fp, rfl, rfl⟩ := hd0
    refine gb_asg (ev_v 2) (eg_t4 g (eg_n g 8) (eg_n g 9) (eg_n g 10) (eg_n g 11)) ?_
    let came' : Nat := if m.src < 0 then s.came + 1 else s.came
    let DS (c : Nat) (gn : List Int) : Slots := [some (encRow row), some (encSit s), some (encMv m), some (.int c), some (.tup (s.held.map encI)), some (encI gn), some (.int (wagonM row s m)), some (.ref p), some (.int m.src), some (.int m.so), some (.int m.tgt), some (.int m.te)]
    refine gb_ifJ (fun ds M => ds = DS came' s.gone ∧ M = [(p, .lst ((takenM s m).map encI))]) (et_eqI (ev_v 8) (ev_g T.outside)) (fun h => ?_) (fun h => ?_) ?_
    · have hs : m.src < 0 := by have := of_decide_eq_true h; omega
      refine gb_aug g 3 ev_i (gb_turn (ds' := DS came' s.gone) ?_ ?_)
      · refine ⟨rfl, ?_⟩
        unfold takenM
        rw [if_pos hs]
      · have e : came' = s.came + 1 := if_pos hs
        refine ⟨rfl, rfl, rfl, ?_, rfl, rfl, rfl, rfl, rfl, rfl, rfl, rfl, trivial⟩
        rw [e]
        rfl
    · have ha := of_decide_eq_false h
      have hs : ¬ m.src < 0 := by have := O.src; omega
      have hl := O.ne hs
      have e : came' = s.came := if_neg hs
      have hix : ixN (s.held.map encI).length m.src = some m.src.toNat := ixN_ok (by omega) (by rw [List.length_map, V.len]; exact O.src.2)
      have hat := atI_held V (by omega) O.src.2
      have hl' : 0 < (dI (hd s m.src)).length := by rw [ints_len]; exact hl
      refine gb_if (et_eqI (ev_v 9) (ev_g T.left)) (fun h2 => ?_) fun h2 => ?_
      · have h3 := of_decide_eq_true h2
        refine gb_item (j := 0) (ev_slT (po_some pe_s) po_none (ev_ixC (j := 0) (ev_v 7) (ev_v 8) rfl hat) (eo_some ev_i) eo_none (cut_1 hl').2) (ev_v 7) (ev_v 8) rfl hix (gb_end (ds' := DS came' s.gone) ?_ ?_)
        · refine gb_turn (ds' := DS came' s.gone) ?_ (Le.refl _)
          refine ⟨rfl, ?_⟩
          rw [(cut_1 hl').1]
          unfold takenM
          rw [if_neg hs, if_pos h3, List.map_set]
          show [(p, D.lst (List.set _ _ (.tup ((dI (hd s m.src)).drop 1))))] = _
          unfold dI encI dI
          rw [List.map_drop]
        · rw [e]
          exact Le.refl _
      · have h3 := of_decide_eq_false h2
        refine gb_item (j := 0) (ev_slT po_none (po_some pe_s) (ev_ixC (j := 0) (ev_v 7) (ev_v 8) rfl hat) eo_none (eo_some (ev_neg ev_i)) (cut_l hl').2) (ev_v 7) (ev_v 8) rfl hix (gb_end (ds' := DS came' s.gone) ?_ ?_)
        · refine gb_turn (ds' := DS came' s.gone) ?_ (Le.refl _)
          refine ⟨rfl, ?_⟩
          rw [(cut_l hl').1]
          unfold takenM
          rw [if_neg hs, if_neg h3, List.map_set]
          show [(p, D.lst (List.set _ _ (.tup ((dI (hd s m.src)).dropLast))))] = _
          unfold dI encI dI
          rw [List.map_dropLast]
        · rw [e]
          exact Le.refl _
    · rintro ds' M' ⟨rfl, rfl⟩
      let gone' : List Int := if m.tgt < 0 then s.gone ++ [wagonM row s m] else s.gone
      let held' : List (List Int) := (afterM row s m).held
      have htl : (takenM s m).length = devs.length := by rw [taken_len, V.len]
      have hle := taken_le V m m.tgt.toNat
      refine gb_ifJ (fun ds M => ds = DS came' gone' ∧ M = [(p, .lst (held'.map encI))]) (et_eqI (ev_v 10) (ev_g T.outside)) (fun h => ?_) (fun h => ?_) ?_
      · have hs : m.tgt < 0 := by have := of_decide_eq_true h; omega
        refine gb_set g 5 (ev_catT (xs := dI s.gone) (ev_v 5) (ev_tup (ea_cons (ev_v 6) ea_nil)) ?_) (gb_turn (ds' := DS came' gone') ?_ ?_)
        · rw [ints_len]
          show s.gone.length + 1 ≤ 100000
          omega
        · refine ⟨rfl, ?_⟩
          show [(p, D.lst ((takenM s m).map encI))] = [(p, D.lst ((afterM row s m).held.map encI))]
          unfold afterM
          rw [if_pos hs]
        · have e : gone' = s.gone ++ [wagonM row s m] := if_pos hs
          refine ⟨rfl, rfl, rfl, rfl, rfl, ?_, rfl, rfl, rfl, rfl, rfl, rfl, trivial⟩
          rw [e]
          show D.tup (dI (s.gone ++ [wagonM row s m])) = .tup (dI s.gone ++ [.int (wagonM row s m)])
          unfold dI
          rw [List.map_append]
          rfl
      · have ha := of_decide_eq_false h
        have hs : ¬ m.tgt < 0 := by have := O.tgt; omega
        have e : gone' = s.gone := if_neg hs
        have hix : ixN ((takenM s m).map encI).length m.tgt = some m.tgt.toNat := ixN_ok (by omega) (by rw [List.length_map, htl]; exact O.tgt.2)
        have hat : atI ((takenM s m).map encI) m.tgt = some (encI ((takenM s m).getD m.tgt.toNat [])) := atI_heldL (by omega) (by rw [htl]; exact O.tgt.2)
        refine gb_if (et_eqI (ev_v 11) (ev_g T.left)) (fun h2 => ?_) fun h2 => ?_
        · have h3 := of_decide_eq_true h2
          refine gb_item (j := 0) (ev_catT (ev_tup (ea_cons (ev_v 6) ea_nil)) (ev_ixC (j := 0) (ev_v 7) (ev_v 10) rfl hat) ?_) (ev_v 7) (ev_v 10) rfl hix (gb_end (ds' := DS came' gone') ?_ ?_)
          · rw [ints_len]
            show 1 + _ ≤ 100000
            omega
          · refine gb_turn (ds' := DS came' gone') ?_ (Le.refl _)
            refine ⟨rfl, ?_⟩
            show _ = [(p, D.lst ((afterM row s m).held.map encI))]
            unfold afterM
            rw [if_neg hs, if_pos h3, List.map_set]
            rfl
          · rw [e]
            exact Le.refl _
        · have h3 := of_decide_eq_false h2
          refine gb_item (j := 0) (ev_catT (ev_ixC (j := 0) (ev_v 7) (ev_v 10) rfl hat) (ev_tup (ea_cons (ev_v 6) ea_nil)) ?_) (ev_v 7) (ev_v 10) rfl hix (gb_end (ds' := DS came' gone') ?_ ?_)
          · rw [ints_len]
            show _ + 1 ≤ 100000
            omega
          · refine gb_turn (ds' := DS came' gone') ?_ (Le.refl _)
            refine ⟨rfl, ?_⟩
            show _ = [(p, D.lst ((afterM row s m).held.map encI))]
            unfold afterM
            rw [if_neg hs, if_neg h3, List.map_set]
            show [(p, D.lst (List.set _ _ (.tup (dI ((takenM s m).getD m.tgt.toNat []) ++ [.int (wagonM row s m)]))))] = _
            unfold encI dI
            rw [List.map_append]
            rfl
          · rw [e]
            exact Le.refl _
      · rintro ds' M' ⟨rfl, rfl⟩
        exact gb_retD (ev_tup (ea_cons (ev_v 3) (ea_cons (ev_tupleC (j := 0) T.tuple (ev_v 7) rfl) (ea_cons (ev_v 5) ea_nil)))) (N := [(p, .lst (held'.map encI))])
end
end K23

set_option maxHeartbeats 4000000
/-! is_situation .. is_closed. -/
namespace K23
open PySem PySem.Spec PyProof.Rows L2

theorem cut_to {xs : List D} {n : Nat} : cutD xs none (some (n : Int)) = xs.take n := by
  unfold cutD
  have e1 : HT.sIx xs.length xs.length (some (n : Int)) = min n xs.length := HT.sIx_nat _ _ _
  have e2 : HT.sIx xs.length 0 none = 0 := rfl
  rw [e1, e2]
  show xs.take (min n xs.length - 0) = _
  rw [Nat.sub_zero]
  by_cases h : n ≤ xs.length
  · rw [Nat.min_eq_left h]
  · rw [Nat.min_eq_right (by omega), List.take_length, List.take_of_length_le (by omega)]
theorem EvT.eq {F : Fm} {ds : Slots} {M M' : Cells} {tt : TT} {b b' : Bool} (h : EvT F ds M tt b M') (e : b = b') : EvT F ds M tt b' M' := e ▸ h
section
variable {P : Program} {w : World} {K : PySem.W.Frag} {mg : Str → Option Value} {base : Heap} {f : Addr} {fd : FuncData} {C : Addr}
def cIsSit (C : Addr) : Ctr := fun args M Kx => ∃ (y : Yd) (row : List Int) (s : Sit), Okk y row ∧ Valid y.devs row s ∧ args = [yardD C y, encRow row, encSit s] ∧ M = [] ∧ Kx = KD (.bl true) []
theorem ok_issit (Fn : Fun K "is_situation" "is_situation" s_is_situation f fd) (T : Tx w K mg) (Y : Ty w K mg C) (g2 : MF P w K mg base C "__len__" 1 (cYLen C)) : FnOk P w K mg base CX0 3 f fd ["yard", "row", "situation"] (toSp w (cIsSit C)) :=
  fn_ok Fn sc_is_situation (by rintro _ _ _ ⟨y, row, s, _, _, rfl, _⟩; rfl) fun b F args M Kx hw hP hc hr => by
    obtain ⟨y, row, s, O, V, rfl, rfl, rfl⟩ := hc
    have g := bx_good (P := P) (w := w) (K := K) (mg := mg) (base := base) (qual := "is_situation") (b := b) sc_is_situation
    have hsz := V.sizes
    have hfew := O.few
    have hdl := O.dl
    have hcame := V.came
    have hvl := V.len
    refine gb_asg (ev_v 2) (eg_t3 g (eg_n g 3) (eg_n g 4) (eg_n g 5)) (gb_when (et_or (et_not (et_chain op_le op_le ev_i (ev_v 3) rb_I0 (ev_lenL T.len (ev_v 1)) rb_I0)) fun _ => et_neI (ev_lenT T.len (ev_v 4)) (ev_lenOwn (C := C) g2 hr hw T.len (ev_v 0) .data ⟨y, by omega, rfl, rfl, rfl⟩ (by omega))) (fun h => ?_) fun _ => ?_)
    · exfalso
      rw [ints_len, List.length_map, hvl] at h
      simp at h
      omega
    · refine gb_setK g 6 (evk_list T.list (d := encI s.gone) (ev_v 5) (.inr rfl)) fun d M1 hd0 => ?_
      obtain ⟨p, fp, rfl, rfl⟩ := hd0
      let DS : Slots := [some (yardD C y), some (encRow row), some (encSit s), some (.int s.came), some (.tup (s.held.map encI)), some (encI s.gone), some (.ref p), none, none, none]
      let A0 : Nat → List Int := fun i => s.gone ++ (s.held.take i).flatten
      have htot : ∀ i, (A0 i).length ≤ 5 := fun i => by
        have h1 := V.perm.length_eq
        have h2 : s.held.flatten.length = (s.held.take i).flatten.length + (s.held.drop i).flatten.length := by
          rw [← List.length_append, ← List.flatten_append, List.take_append_drop]
        show (s.gone ++ _).length ≤ 5
        rw [List.length_append] at h1 ⊢
        rw [List.length_take] at h1
        omega
      refine gb_forET g T.enumerate (xs := s.held.map encI) (ev_v 4) (fun i ds M => ds = DS ∧ M = [(p, encRow (A0 i))]) (fun ds M => ds = DS ∧ M = [(p, encRow (A0 s.held.length))]) ⟨rfl, by simp [A0]; rfl⟩ ?_ ?_ ?_
      · rintro ts' i x ds' M' hx ⟨rfl, rfl⟩
        obtain ⟨hh, hhi, rfl⟩ := map_get hx
        have hi : i < y.devs.length := by
          have := (List.getElem?_eq_some_iff.mp hhi).1
          omega
        refine ⟨_, eg_t2 g (eg_n g 7) (eg_n g 8), ?_⟩
        have hb := @atI_bounds y.devs (i : Int) (by omega) (by omega)
        refine gb_set g 9 (ev_ixL (ev_fld (d := .lst (y.devs.map fun x => encB x.2)) (j := 2) Y.cls Y.bounds (ev_v 0) .data) (ev_v 7) hb) ?_
        have hbnd : ∀ x, y.devs[i]? = some x → x.2 ≠ 0 → hh.length ≤ x.2 := fun x hx h0 => V.bnd i hh x hhi hx h0
        have hdv : y.devs[i]? = some (dv y.devs i) := by
          have := @dv_get y.devs (i : Int) (by omega) (by omega)
          simpa using this
        refine gb_when (t := false) (M1 := [(p, encRow (A0 i))]) ?_ (fun h => by cases h) fun _ => ?_
        · by_cases h0 : (dv y.devs i).2 = 0
          · refine (et_and (j := false) (et_notN (ev_v 9)) fun hn => ?_).eq (Bool.and_false _)
            rw [isNon_encB, h0] at hn
            cases hn
          · have he : encB (dv y.devs i).2 = .int (dv y.devs i).2 := if_neg h0
            refine (et_and (et_notN (ev_v 9)) fun hn => et_gt (ev_lenT T.len (ev_v 8)) ((ev_v 9).eq he)).eq ?_
            have := hbnd _ hdv h0
            rw [ints_len, decide_eq_false (by omega), Bool.and_false]
        · refine gb_expr (ev_extT (j := 0) (xs := dI (A0 i)) (ys := dI (A0 i)) (zs := dI hh) (ev_v 6) rfl (ev_v 8) rfl ?_) (gb_turn (ds' := DS) ?_ ⟨rfl, rfl, rfl, rfl, rfl, rfl, rfl, trivial⟩)
          · rw [ints_len, ints_len]
            have := htot i
            have := hsz.2 hh (List.mem_of_getElem? hhi)
            omega
          · refine ⟨rfl, ?_⟩
            have e1 : A0 (i + 1) = A0 i ++ hh := by
              show s.gone ++ _ = (s.gone ++ _) ++ _
              rw [take_snoc hhi, List.flatten_append, ← List.append_assoc]
              simp
            rw [e1]
            exact congrArg (fun z => [(p, D.lst z)]) (List.map_append (f := D.int) (l₁ := A0 i) (l₂ := hh)).symm
      · rintro ds' M' ⟨rfl, rfl⟩
        refine ⟨rfl, ?_⟩
        rw [List.length_map]
      · rintro ds' M' ⟨rfl, rfl⟩
        have e1 : A0 s.held.length = s.gone ++ s.held.flatten := by
          show s.gone ++ _ = _
          rw [List.take_length]
        rw [e1]
        refine gb_retD (ev_eqD (pv1 hr) (ev_sorted (enc := D.int) (xs := s.gone ++ s.held.flatten) (pv1 hr) T.sorted (ev_frz (i := 0) (d := encRow (s.gone ++ s.held.flatten)) (ev_v 6)) (fun _ _ => rfl) (fun _ _ _ _ => rfl) (.inr fun _ _ => ⟨(fun z => by cases z), (fun _ z => by cases z)⟩) fun _ _ => Nat.zero_le _)
          (ev_sorted (enc := D.int) (xs := row.take s.came) (pv1 hr) T.sorted ((ev_slL po_none (po_some pe_s) (ev_v 1) eo_none (eo_some (ev_v 3))).eq ?_) (fun _ _ => rfl) (fun _ _ _ _ => rfl) (.inr fun _ _ => ⟨(fun z => by cases z), (fun _ z => by cases z)⟩) fun _ _ => Nat.zero_le _) (good_ints _) (good_ints _)) (hd := ?_)
        · rw [cut_to]
          unfold dI
          rw [List.map_take]
        · show D.bl (PyData.eqv (toP (encRow (srt D.int _))) (toP (encRow (srt D.int _)))) = _
          rw [eqv_rows, srt_same V.perm, decide_eq_true rfl]
/-- what is live behind a situation -/
def behM (devs : Devs) (links : List (Int × Int)) (row : List Int) (s : Sit) (ms : List Mv) : List Sit := (ms.map (afterM row s)).filter fun t => decide (Live t)
theorem beh_snoc {devs : Devs} {links : List (Int × Int)} {row : List Int} {s : Sit} {l : List Mv} {m : Mv} : behM devs links row s (l ++ [m]) = behM devs links row s l ++ if Live (afterM row s m) then [afterM row s m] else [] := by
  unfold behM
  rw [List.map_append, List.filter_append]
  congr 1
  by_cases h : Live (afterM row s m)
  · rw [if_pos h]
    simp [h]
  · rw [if_neg h]
    simp [h]
def cBeh (C : Addr) : Ctr := fun args M Kx => ∃ (y : Yd) (row : List Int) (s : Sit), Okk y row ∧ Valid y.devs row s ∧ args = [yardD C y, encRow row, encSit s] ∧ M = [] ∧ Kx = KD (.lst ((behM y.devs y.links row s (mvs y.devs y.links row.length s)).map encSit)) []
theorem mvs_mem {devs : Devs} {links : List (Int × Int)} {n : Nat} {s : Sit} {m : Mv} : m ∈ mvs devs links n s ↔ m ∈ rawMoves devs links n s := (srt_perm _ _).mem_iff
theorem mvs_len {devs : Devs} {links : List (Int × Int)} {n : Nat} {s : Sit} : (mvs devs links n s).length ≤ 4 * links.length := by
  rw [(srt_perm encMv _).length_eq]
  exact raw_len _ _ _ _
theorem ok_beh (Fn : Fun K "live_behind" "live_behind" s_live_behind f fd) (T : Tx w K mg) (g1 : GF P w K mg base "possible" 3 (cPoss C)) (g2 : GF P w K mg base "after" 2 cAfter) (g3 : GF P w K mg base "is_live" 1 cLive) : FnOk P w K mg base CX0 4 f fd ["yard", "row", "situation"] (toSp w (cBeh C)) :=
  fn_ok Fn sc_live_behind (by rintro _ _ _ ⟨y, row, s, _, _, rfl, _⟩; rfl) fun b F args M Kx hw hP hc hr => by
    obtain ⟨y, row, s, O, V, rfl, rfl, rfl⟩ := hc
    have g := bx_good (P := P) (w := w) (K := K) (mg := mg) (base := base) (qual := "live_behind") (b := b) sc_live_behind
    have hfew := O.few
    have hll := O.ll
    refine gb_setK g 3 (ev_lstC ea_nil) fun d M1 hd0 => ?_
    obtain ⟨p, fp, rfl, rfl⟩ := hd0
    let DS : Slots := [some (yardD C y), some (encRow row), some (encSit s), some (.ref p), none, none]
    let ms := mvs y.devs y.links row.length s
    let A0 : Nat → List Sit := fun i => behM y.devs y.links row s (ms.take i)
    refine gb_for g (ev_callP g1 (hr.mono (by decide)) hw (ea_cons (ev_v 0) (ea_cons (ev_v 1) (ea_cons (ev_v 2) ea_nil))) ⟨y, row, s, O, V, rfl, rfl, rfl⟩) (fun i ds M => ds = DS ∧ M = [(p, .lst ((A0 i).map encSit))]) (fun ds M => ds = DS ∧ M = [(p, .lst ((A0 ms.length).map encSit))]) ⟨rfl, rfl⟩ ?_ ?_ ?_
    · rintro ts' i x ds' M' hx ⟨rfl, rfl⟩
      obtain ⟨m, hm, rfl⟩ := map_get hx
      have hmr := mvs_mem.mp (List.mem_of_getElem? hm)
      have hmo := mv_ok O.links hmr
      have V2 := after_valid V O.links hmr
      have hsz := V2.sizes
      have hA0 : (A0 i).length ≤ 400 := by
        refine Nat.le_trans (List.length_filter_le _ _) ?_
        rw [List.length_map, List.length_take]
        have := mvs_len (devs := y.devs) (links := y.links) (n := row.length) (s := s)
        show min i (mvs y.devs y.links row.length s).length ≤ 400
        omega
      have e1 : A0 (i + 1) = if Live (afterM row s m) then A0 i ++ [afterM row s m] else A0 i := by
        show behM _ _ _ _ (ms.take (i + 1)) = _
        rw [take_snoc hm, beh_snoc]
        by_cases hl : Live (afterM row s m)
        · rw [if_pos hl, if_pos hl]
        · rw [if_neg hl, if_neg hl, List.append_nil]
      refine ⟨_, eg_n g 4, ?_⟩
      refine gb_set g 5 (ev_callP g2 (hr.mono (by decide)) hw (ea_cons (ev_v 1) (ea_cons (ev_v 2) (ea_cons (ev_v 4) ea_nil))) ⟨y.devs, row, s, m, by omega, V, hmo, rfl, rfl, rfl⟩) (gb_when (et_val (ev_callP g3 (hr.mono (by decide)) hw (ea_cons (ev_v 5) ea_nil) ⟨afterM row s m, by omega, rfl, rfl, rfl⟩)) (fun h => ?_) fun h => ?_)
      · have hl := of_decide_eq_true h
        refine gb_expr (ev_app (j := 0) (ev_v 3) rfl (ev_v 5) rfl (by rw [List.length_map]; omega)) (gb_end (ds' := DS) ?_ ⟨rfl, rfl, rfl, rfl, trivial⟩)
        refine gb_turn (ds' := DS) ?_ (Le.refl _)
        refine ⟨rfl, ?_⟩
        rw [e1, if_pos hl]
        exact congrArg (fun z => [(p, D.lst z)]) (List.map_append (f := encSit) (l₁ := A0 i) (l₂ := [afterM row s m])).symm
      · have hl := of_decide_eq_false h
        refine gb_turn (ds' := DS) ?_ ⟨rfl, rfl, rfl, rfl, trivial⟩
        refine ⟨rfl, ?_⟩
        rw [e1, if_neg hl]
    · rintro ds' M' ⟨rfl, rfl⟩
      exact ⟨rfl, by rw [List.length_map]⟩
    · rintro ds' M' ⟨rfl, rfl⟩
      refine gb_retD (ev_frz (i := 0) (d := .lst ((A0 ms.length).map encSit)) (ev_v 3)) (hd := ?_)
      show D.lst ((behM _ _ _ _ (ms.take ms.length)).map encSit) = _
      rw [List.take_length]
end
end K23

set_option maxHeartbeats 4000000
/-! is_gap .. is_closed. -/
namespace K23
open PySem PySem.Spec PyProof.Rows L2

theorem nodup_keys {S : List Sit} (h : S.Nodup) : ((S.map encSit).map toN).Nodup := by
  rw [List.nodup_iff_pairwise_ne, List.pairwise_map, List.pairwise_map]
  exact (List.nodup_iff_pairwise_ne.mp h).imp fun {a b} hab e => hab (sit_inj e)
section
variable {P : Program} {w : World} {K : PySem.W.Frag} {mg : Str → Option Value} {base : Heap} {f : Addr} {fd : FuncData} {C : Addr}
def cIsGap (C : Addr) : Ctr := fun args M Kx => ∃ (y : Yd) (row : List Int) (s : Sit) (S : List Sit) (q : Addr) (x : V), Okk y row ∧ Closed y.devs y.links row S ∧ s ∈ S ∧ args = [yardD C y, encRow row, encSit s, .ref q] ∧ M = [(q, .nd (S.map encSit) x)] ∧ Kx = KD (.bl false) [(q, .nd (S.map encSit) x)]
theorem ok_isgap (Fn : Fun K "is_gap" "is_gap" s_is_gap f fd) (T : Tx w K mg) (g1 : GF P w K mg base "is_situation" 3 (cIsSit C)) (g2 : GF P w K mg base "live_behind" 4 (cBeh C)) (g3 : GF P w K mg base "is_live" 1 cLive) : FnOk P w K mg base CX0 5 f fd ["yard", "row", "situation", "known"] (toSp w (cIsGap C)) :=
  fn_ok Fn sc_is_gap (by rintro _ _ _ ⟨y, row, s, S, q, x, _, _, _, rfl, _⟩; rfl) fun b F args M Kx hw hP hc hr => by
    obtain ⟨y, row, s, S, q, x, O, Cl, hs, rfl, rfl, rfl⟩ := hc
    have g := bx_good (P := P) (w := w) (K := K) (mg := mg) (base := base) (qual := "is_gap") (b := b) sc_is_gap
    obtain ⟨V, hl⟩ := Cl.ok s hs
    have hsz := V.sizes
    have hfew := O.few
    refine gb_when (M1 := [(q, .nd (S.map encSit) x)]) (t := false) ((et_or (et_not (et_val (ev_callP g1 (hr.mono (by decide)) hw (ea_cons (ev_v 0) (ea_cons (ev_v 1) (ea_cons (ev_v 2) ea_nil))) ⟨y, row, s, O, V, rfl, rfl, rfl⟩))) fun _ => et_not (et_val (ev_callP g3 (hr.mono (by decide)) hw (ea_cons (ev_v 2) ea_nil) ⟨s, by omega, rfl, rfl, rfl⟩))).eq ?_) (fun h => by cases h) fun _ => ?_
    · rw [decide_eq_true hl]
      rfl
    refine gb_when (M1 := [(q, .nd (S.map encSit) x)]) (t := false) ((et_eqI (ev_lenT T.len (ev_ixT (d := encI s.gone) (ev_v 2) ev_i rfl)) (ev_lenL T.len (ev_v 1))).eq ?_) (fun h => by cases h) fun _ => ?_
    · rw [ints_len, ints_len]
      have := Cl.nogoal s hs
      exact decide_eq_false fun h => this (Int.ofNat_inj.mp h)
    let DS : Slots := [some (yardD C y), some (encRow row), some (encSit s), some (.ref q), none]
    refine gb_for g (ev_callP g2 (hr.mono (by decide)) hw (ea_cons (ev_v 0) (ea_cons (ev_v 1) (ea_cons (ev_v 2) ea_nil))) ⟨y, row, s, O, V, rfl, rfl, rfl⟩) (fun i ds M => ds = DS ∧ M = [(q, .nd (S.map encSit) x)]) (fun ds M => ds = DS ∧ M = [(q, .nd (S.map encSit) x)]) ⟨rfl, rfl⟩ ?_ (fun _ _ z => z) ?_
    · rintro ts' i z ds' M' hx ⟨rfl, rfl⟩
      obtain ⟨t, ht, rfl⟩ := map_get hx
      have htm := List.mem_of_getElem? ht
      obtain ⟨h1, h2⟩ := List.mem_filter.mp htm
      obtain ⟨m, hm, e⟩ := List.mem_map.mp h1
      have htS : t ∈ S := by
        have := Cl.next s hs m (mvs_mem.mp hm) (by rw [e]; exact of_decide_eq_true h2)
        rw [e] at this
        exact this
      refine ⟨_, eg_n g 4, ?_⟩
      refine gb_when (M1 := [(q, .nd (S.map encSit) x)]) (t := false) ((et_ninN (j := 0) (z := x) (pv1 hr) hw (ev_v 4) (ev_v 3) rfl (okN_sit t) (depth_sit t)).eq ?_) (fun h => by cases h) fun _ => ?_
      · show (!decide (toN (encSit t) ∈ (S.map encSit).map toN)) = false
        rw [dec_sits, decide_eq_true htS]
        rfl
      · refine gb_turn (ds' := DS) ?_ ⟨rfl, rfl, rfl, rfl, trivial⟩
        exact ⟨rfl, rfl⟩
    · rintro ds' M' ⟨rfl, rfl⟩
      exact gb_retD ev_b (N := [])
def cGapFrom (C : Addr) : Ctr := fun args M Kx => ∃ (y : Yd) (row : List Int) (S : List Sit), Okk y row ∧ Closed y.devs y.links row S ∧ S.Nodup ∧ S.length ≤ 4000 ∧ args = [yardD C y, encRow row, encSit (startM y.devs.length), .lst (S.map encSit)] ∧ M = [] ∧ Kx = KD .non []
theorem ok_gapfrom (Fn : Fun K "gap_from" "gap_from" s_gap_from f fd) (T : Tx w K mg) (g1 : GF P w K mg base "is_gap" 5 (cIsGap C)) : FnOk P w K mg base CX0 6 f fd ["yard", "row", "start", "situations"] (toSp w (cGapFrom C)) :=
  fn_ok Fn sc_gap_from (by rintro _ _ _ ⟨y, row, S, _, _, _, _, rfl, _⟩; rfl) fun b F args M Kx hw hP hc hr => by
    obtain ⟨y, row, S, O, Cl, nd, hS, rfl, rfl, rfl⟩ := hc
    have g := bx_good (P := P) (w := w) (K := K) (mg := mg) (base := base) (qual := "gap_from") (b := b) sc_gap_from
    refine gb_setDc (l := 4) (i := 6) (z := .bl true) g (pv1 hr) hw (ev_v 3) (blkOk_by (N := n_gap_from) (sc := defScope s_gap_from) (by decide +kernel)) (by rw [List.length_map]; omega) (fun x hx => ?_) (nodup_keys nd) (fun _ _ _ _ _ => pg_name sc_gap_from.nd rfl (.inl rfl)) (fun _ _ _ _ _ _ _ _ => ev_v 6) (fun _ _ _ _ _ _ _ _ => ev_b) (fun _ => by rfl) fun q fq => ?_
    · obtain ⟨s, hs, rfl⟩ := List.mem_map.mp hx
      exact ⟨⟨_, rfl⟩, okN_sit s, depth_sit s⟩
    let Mq : Cells := [(q, .nd (S.map encSit) (.bl true))]
    let DS : Slots := [some (yardD C y), some (encRow row), some (encSit (startM y.devs.length)), some (.lst (S.map encSit)), some (.ref q), none, none]
    refine gb_forE g T.enumerate (ev_v 3) (fun i ds M => ds = DS ∧ M = Mq) (fun ds M => ds = DS ∧ M = Mq) ⟨rfl, rfl⟩ ?_ (fun _ _ z => z) ?_
    · rintro ts' i z ds' M' hx ⟨rfl, rfl⟩
      obtain ⟨s, hs, rfl⟩ := map_get hx
      refine ⟨_, eg_t2 g (eg_n g 5) (eg_n g 6), ?_⟩
      refine gb_when (M1 := Mq) (t := false) (et_val (ev_call (Min := Mq) (Mr := []) g1 (hr.mono (by decide)) hw (ea_cons (ev_v 0) (ea_cons (ev_v 1) (ea_cons (ev_v 6) (ea_cons (ev_v 4) ea_nil)))) ⟨y, row, s, S, q, _, O, Cl, List.mem_of_getElem? hs, rfl, rfl, rfl⟩ (List.Perm.refl _))) (fun h => by cases h) fun _ => ?_
      refine gb_turn (ds' := DS) ?_ ⟨rfl, rfl, rfl, rfl, rfl, trivial⟩
      exact ⟨rfl, rfl⟩
    · rintro ds' M' ⟨rfl, rfl⟩
      refine gb_when (M1 := Mq) (t := false) ((et_ninN (j := 0) (z := .bl true) (pv1 hr) hw (ev_v 2) (ev_v 4) rfl (okN_sit _) (depth_sit _)).eq ?_) (fun h => by cases h) fun _ => gb_retD ev_n (N := Mq)
      show (!decide (toN (encSit (startM y.devs.length)) ∈ (S.map encSit).map toN)) = false
      rw [dec_sits, decide_eq_true Cl.start]
      rfl
def cFirstGap (C : Addr) : Ctr := fun args M Kx => ∃ (y : Yd) (row : List Int) (S : List Sit), Okk y row ∧ Closed y.devs y.links row S ∧ S.Nodup ∧ S.length ≤ 4000 ∧ args = [yardD C y, encRow row, .lst (S.map encSit)] ∧ M = [] ∧ Kx = KD .non []
theorem ok_firstgap (Fn : Fun K "first_gap" "first_gap" s_first_gap f fd) (g1 : GF P w K mg base "gap_from" 6 (cGapFrom C)) (g2 : GF P w K mg base "first_situation" 3 (cFirst C)) : FnOk P w K mg base CX0 7 f fd ["yard", "row", "situations"] (toSp w (cFirstGap C)) :=
  fn_ok Fn sc_first_gap (by rintro _ _ _ ⟨y, row, S, _, _, _, _, rfl, _⟩; rfl) fun b F args M Kx hw hP hc hr => by
    obtain ⟨y, row, S, O, Cl, nd, hS, rfl, rfl, rfl⟩ := hc
    exact gb_retD (ev_callP g1 (hr.mono (by decide)) hw (ea_cons (ev_v 0) (ea_cons (ev_v 1) (ea_cons (ev_callP g2 (hr.mono (by decide)) hw (ea_cons (ev_v 0) (ea_cons (ev_v 1) ea_nil)) ⟨y, row, O, rfl, rfl, rfl⟩) (ea_cons (ev_v 2) ea_nil)))) ⟨y, row, S, O, Cl, nd, hS, rfl, rfl, rfl⟩)
def cIsClosed (C : Addr) : Ctr := fun args M Kx => ∃ (y : Yd) (row : List Int) (S : List Sit), Okk y row ∧ Closed y.devs y.links row S ∧ S.Nodup ∧ S.length ≤ 4000 ∧ args = [yardD C y, encRow row, .lst (S.map encSit)] ∧ M = [] ∧ Kx = KD (.bl true) []
theorem ok_isclosed (Fn : Fun K "is_closed" "is_closed" s_is_closed f fd) (g1 : GF P w K mg base "first_gap" 7 (cFirstGap C)) : FnOk P w K mg base CX0 8 f fd ["yard", "row", "situations"] (toSp w (cIsClosed C)) :=
  fn_ok Fn sc_is_closed (by rintro _ _ _ ⟨y, row, S, _, _, _, _, rfl, _⟩; rfl) fun b F args M Kx hw hP hc hr => by
    obtain ⟨y, row, S, O, Cl, nd, hS, rfl, rfl, rfl⟩ := hc
    exact gb_retD (ev_isN (ev_callP g1 (hr.mono (by decide)) hw (ea_cons (ev_v 0) (ea_cons (ev_v 1) (ea_cons (ev_v 2) ea_nil))) ⟨y, row, S, O, Cl, nd, hS, rfl, rfl, rfl⟩))
end
end K23

set_option maxHeartbeats 4000000
/-! The search. -/
namespace K23
open PySem PySem.Spec PyProof.Rows L2

theorem SrInv.parent {devs : Devs} {links : List (Int × Int)} {row : List Int} {met : List Sit} {org : List (Option (Nat × Mv))} (I : SrInv devs links row met org) {i : Nat} {t : Sit} (h0 : 0 < i) (h : met[i]? = some t) :
    ∃ j m s, org[i]? = some (some (j, m)) ∧ j < i ∧ met[j]? = some s ∧ m ∈ rawMoves devs links row.length s ∧ t = afterM row s m ∧ Live t := by
  obtain ⟨j, m, s, t', e1, e2, e3, e4, e5, e6⟩ := I.par i h0 (List.getElem?_eq_some_iff.mp h).1
  rw [h] at e4
  cases e4
  exact ⟨j, m, s, e1, e2, e3, e5, e6, (I.ok t (List.mem_of_getElem? h)).2⟩
theorem SrInv.back {devs : Devs} {links : List (Int × Int)} {row : List Int} {met : List Sit} {org : List (Option (Nat × Mv))} (I : SrInv devs links row met org) : ∀ (n i : Nat) (s t : Sit) (ms : List Mv), i ≤ n → met[i]? = some s → Path devs links row s ms t → ∃ ms', Path devs links row (startM devs.length) ms' t
  | n, 0, s, t, ms, _, h, p => by
    rw [I.first] at h
    cases h
    exact ⟨ms, p⟩
  | 0, i + 1, s, t, ms, hn, h, p => absurd hn (by omega)
  | n + 1, i + 1, s, t, ms, hn, h, p => by
    obtain ⟨j, m, r, e1, e2, e3, e4, e5, e6⟩ := I.parent (Nat.succ_pos i) h
    subst e5
    exact SrInv.back I n j r t (m :: ms) (by omega) e3 (.cons e4 e6 p)
def Found (row : List Int) (met : List Sit) : Prop := ∃ t, met[met.length - 1]? = some t ∧ t.gone.length = row.length
theorem SrInv.way {devs : Devs} {links : List (Int × Int)} {row : List Int} {met : List Sit} {org : List (Option (Nat × Mv))} (I : SrInv devs links row met org) (h : Found row met) : ∃ ms, IsWay devs links row ms := by
  obtain ⟨t, h1, h2⟩ := h
  obtain ⟨ms, p⟩ := I.back _ _ t t [] (Nat.le_refl _) h1 (.nil t)
  exact ⟨ms, t, p, h2⟩
def NoGoal (row : List Int) (met : List Sit) : Prop := ∀ t ∈ met, t.gone.length ≠ row.length
def DoneAt (devs : Devs) (links : List (Int × Int)) (row : List Int) (met : List Sit) (s : Sit) : Prop := ∀ m ∈ rawMoves devs links row.length s, Live (afterM row s m) → afterM row s m ∈ met
/-- the outcome of a search -/
structure Out (devs : Devs) (links : List (Int × Int)) (row : List Int) (met : List Sit) (org : List (Option (Nat × Mv))) (fnd : Bool) : Prop where
  inv : SrInv devs links row met org
  yes : fnd = true → Found row met
  no : fnd = false → Closed devs links row met
structure Ts (K : PySem.W.Frag) (SC : Addr) : Prop where
  cls : Cls K SC
  yard : NoAttr K SC "yard"
  wagons : NoAttr K SC "wagons"
  met : NoAttr K SC "met"
  known : NoAttr K SC "known"
  origin : NoAttr K SC "origin"
  found : NoAttr K SC "found"
abbrev sN : List Str := ["yard", "wagons", "met", "known", "origin", "found"]
def encO : Option (Nat × Mv) → D
  | none => .non
  | some (j, m) => .tup [.int j, encMv m]
structure Ad where
  q : Addr
  m : Addr
  k : Addr
  o : Addr
abbrev sObj (C SC : Addr) (a : Ad) (y : Yd) (row : List Int) (fnd : Bool) : Addr × D := (a.q, .ins SC sN [yardD C y, encRow row, .ref a.m, .ref a.k, .ref a.o, .bl fnd])
abbrev sCells (C SC : Addr) (a : Ad) (y : Yd) (row : List Int) (met : List Sit) (org : List (Option (Nat × Mv))) (fnd : Bool) : Cells :=
  [sObj C SC a y row fnd, (a.o, .lst (org.map encO)), (a.k, .nd (met.map encSit) (.bl true)), (a.m, .lst (met.map encSit))]
section
variable {P : Program} {w : World} {K : PySem.W.Frag} {mg : Str → Option Value} {base : Heap} {f : Addr} {fd : FuncData} {C SC : Addr}
def cGoal (SC : Addr) : Ctr := fun args M Kx => ∃ (q : Addr) (ns : List Str) (xs : List D) (j : Nat) (row : List Int) (s : Sit), fix "wagons" ns = some j ∧ xs[j]? = some (encRow row) ∧ args = [.ref q, encSit s] ∧ M = [(q, .ins SC ns xs)] ∧ Kx = KD (.bl (decide (s.gone.length = row.length))) M
theorem deq {a b : Nat} : decide ((a : Int) = (b : Int)) = decide (a = b) := by
  by_cases h : a = b
  · rw [h, decide_eq_true rfl, decide_eq_true rfl]
  · rw [decide_eq_false h, decide_eq_false fun z => h (Int.ofNat_inj.mp z)]
theorem ok_goal (Fn : Fun K "is_goal" "Search.is_goal" s_Search_is_goal f fd) (T : Tx w K mg) (S : Ts K SC) : FnOk P w K mg base CX0 1 f fd ["self", "situation"] (toSp w (cGoal SC)) :=
  fn_ok Fn sc_Search_is_goal (by rintro _ _ _ ⟨q, ns, xs, j, row, s, _, _, rfl, _⟩; rfl) fun b F args M Kx hw hP hc hr => by
    obtain ⟨q, ns, xs, j, row, s, h1, h2, rfl, rfl, rfl⟩ := hc
    refine gb_retD (N := []) (ev_eqI (ev_lenT T.len (ev_ixT (d := encI s.gone) (ev_v 1) ev_i rfl)) (ev_lenL T.len (ev_fld (d := encRow row) S.cls S.wagons (ev_v 0) (.cell 0) h1 h2))) (hd := ?_)
    rw [ints_len, ints_len, deq]
theorem p4 {α : Type} {a b c d : α} : [a, b, c, d].Perm ([d] ++ [a, b, c]) := List.perm_append_comm (l₁ := [a, b, c]) (l₂ := [d])
def cSInit (C SC : Addr) : Ctr := fun args M Kx => ∃ (q : Addr) (y : Yd) (row : List Int) (s : Sit), args = [.ref q, yardD C y, encRow row, encSit s] ∧ M = [(q, .ins SC [] [])] ∧ Kx = fun d M' => d = .non ∧ ∃ m k o, M' = sCells C SC ⟨q, m, k, o⟩ y row [s] [none] (decide (s.gone.length = row.length))
theorem ok_sinit (Fn : Fun K "__init__" "Search.__init__" s_Search_init f fd) (T : Tx w K mg) (S : Ts K SC) (g1 : MF P w K mg base SC "is_goal" 1 (cGoal SC)) : FnOk P w K mg base CX0 2 f fd ["self", "yard", "row", "situation"] (toSp w (cSInit C SC)) :=
  fn_ok Fn sc_Search_init (by rintro _ _ _ ⟨q, y, row, s, rfl, _⟩; rfl) fun b F args M Kx hw hP hc hr => by
    obtain ⟨q, y, row, s, rfl, rfl, rfl⟩ := hc
    refine gb_fldNew (j := 0) (q := q) (C := SC) (ns := []) (xs := []) S.cls S.yard (ev_v 1) (ev_v 0) (gb_fldNew (j := 0) (q := q) (C := SC) (ns := ["yard"]) (xs := [yardD C y]) S.cls S.wagons (ev_list T.list (ev_v 2) (.inl rfl)) (ev_v 0) (gb_fldNewK (j := 1) (q := q) (C := SC) (ns := ["yard", "wagons"]) (xs := [yardD C y, encRow row]) S.cls S.met (ev_lstC (ea_cons (ev_v 3) ea_nil)) (fun d M1 h => ?_) (fun d M1 h => ?_)))
    · obtain ⟨p, fp, rfl, rfl⟩ := h
      exact ⟨ev_v 0, rfl⟩
    obtain ⟨am, fm, rfl, rfl⟩ := h
    refine gb_fldNewK (j := 2) (q := q) (C := SC) (ns := ["yard", "wagons", "met"]) (xs := [yardD C y, encRow row, .ref am]) S.cls S.known (ev_nd1 (z := .bl true) (pv1 hr) hw (fun _ => ev_v 3) (fun _ => ev_b) (okN_sit s) (depth_sit s)) (fun d M1 h => ?_) (fun d M1 h => ?_)
    · obtain ⟨p, fp, rfl, rfl⟩ := h
      exact ⟨ev_v 0, rfl⟩
    obtain ⟨ak, fk, rfl, rfl⟩ := h
    refine gb_fldNewK (j := 3) (q := q) (C := SC) (ns := ["yard", "wagons", "met", "known"]) (xs := [yardD C y, encRow row, .ref am, .ref ak]) S.cls S.origin (ev_lstC (ea_cons ev_n ea_nil)) (fun d M1 h => ?_) (fun d M1 h => ?_)
    · obtain ⟨p, fp, rfl, rfl⟩ := h
      exact ⟨ev_v 0, rfl⟩
    obtain ⟨ao, fo, rfl, rfl⟩ := h
    let O5 : Addr × D := (q, .ins SC ["yard", "wagons", "met", "known", "origin"] [yardD C y, encRow row, .ref am, .ref ak, .ref ao])
    let M3 : Cells := [(ao, .lst [.non]), (ak, .nd [encSit s] (.bl true)), (am, .lst [encSit s])]
    refine gb_fldNew (j := 0) (q := q) (C := SC) (ns := ["yard", "wagons", "met", "known", "origin"]) (xs := [yardD C y, encRow row, .ref am, .ref ak, .ref ao]) S.cls S.found (evk_meth (A0 := SC) (Min := [O5]) (Mr := M3) S.cls g1 hr hw (ev_v 0) (.cell 3) (ea_cons (ev_v 3) ea_nil) ⟨q, _, _, 1, row, s, by decide +kernel, rfl, rfl, rfl, rfl⟩ p4).one (ev_v 0) ?_
    refine gb_off (N := []) (Mo := sCells C SC ⟨q, am, ak, ao⟩ y row [s] [none] (decide (s.gone.length = row.length))) ?_ (List.Perm.refl _)
    exact ⟨rfl, am, ak, ao, rfl⟩
end
end K23

set_option maxHeartbeats 4000000
/-! look, finish, way. -/
namespace K23
open PySem PySem.Spec PyProof.Rows L2

section
variable {P : Program} {w : World} {K : PySem.W.Frag} {mg : Str → Option Value} {base : Heap} {f : Addr} {fd : FuncData} {C SC : Addr}
/-- what look finds -/
structure Lk (devs : Devs) (links : List (Int × Int)) (row : List Int) (s : Sit) (met met' : List Sit) (org' : List (Option (Nat × Mv))) (fnd : Bool) : Prop where
  inv : SrInv devs links row met' org'
  pre : ∃ e, met' = met ++ e
  yes : fnd = true → Found row met'
  no : fnd = false → NoGoal row met' ∧ DoneAt devs links row met' s
def cLook (C SC : Addr) : Ctr := fun args M Kx => ∃ (a : Ad) (y : Yd) (row : List Int) (met : List Sit) (org : List (Option (Nat × Mv))) (idx : Nat) (s : Sit), Okk y row ∧ Small y.devs.length row.length ∧ SrInv y.devs y.links row met org ∧ NoGoal row met ∧ met[idx]? = some s ∧
  args = [.ref a.q, .int idx] ∧ M = sCells C SC a y row met org false ∧ Kx = fun d M' => d = .non ∧ ∃ met' org' fnd, M' = sCells C SC a y row met' org' fnd ∧ Lk y.devs y.links row s met met' org' fnd
theorem ok_look (Fn : Fun K "look" "Search.look" s_Search_look f fd) (T : Tx w K mg) (S : Ts K SC) (g1 : GF P w K mg base "possible" 3 (cPoss C)) (g2 : GF P w K mg base "after" 2 cAfter) (g3 : GF P w K mg base "is_live" 1 cLive) (g4 : MF P w K mg base SC "is_goal" 1 (cGoal SC)) : FnOk P w K mg base CX0 4 f fd ["self", "index"] (toSp w (cLook C SC)) :=
  fn_ok Fn sc_Search_look (by rintro _ _ _ ⟨a, y, row, met, org, idx, s, _, _, _, _, _, rfl, _⟩; rfl) fun b F args M Kx hw hP hc hr => by
    obtain ⟨a, y, row, met, org, idx, s, O, Sm, I, NG, hs, rfl, rfl, rfl⟩ := hc
    have g := bx_good (P := P) (w := w) (K := K) (mg := mg) (base := base) (qual := "Search.look") (b := b) sc_Search_look
    have hfew := O.few
    have hidx := (List.getElem?_eq_some_iff.mp hs).1
    obtain ⟨V, _⟩ := I.ok s (List.mem_of_getElem? hs)
    refine gb_set g 2 (ev_ixC (j := 3) (ev_fld (d := .ref a.m) (j := 2) S.cls S.met (ev_v 0) (.cell 0)) (ev_v 1) rfl (d := encSit s) ?_) ?_
    · rw [atI_nat (by omega) (by rw [List.length_map]; omega), List.getElem?_map]
      show (met[idx]?).map encSit = _
      rw [hs]
      rfl
    let DS : Slots := [some (.ref a.q), some (.int idx), some (encSit s), none, none]
    let ms := mvs y.devs y.links row.length s
    let Iv : Nat → Slots → Cells → Prop := fun i ds M => ds = DS ∧ ∃ met' org', M = sCells C SC a y row met' org' false ∧ SrInv y.devs y.links row met' org' ∧ (∃ e, met' = met ++ e) ∧ NoGoal row met' ∧ ∀ j m, j < i → ms[j]? = some m → Live (afterM row s m) → afterM row s m ∈ met'
    refine gb_for g (ev_callP g1 (hr.mono (by decide)) hw (ea_cons (ev_fld (d := yardD C y) (j := 0) S.cls S.yard (ev_v 0) (.cell 0)) (ea_cons (ev_fld (d := encRow row) (j := 1) S.cls S.wagons (ev_v 0) (.cell 0)) (ea_cons (ev_v 2) ea_nil))) ⟨y, row, s, O, V, rfl, rfl, rfl⟩) Iv (Iv ms.length) ⟨rfl, met, org, rfl, I, ⟨[], by simp⟩, NG, fun j m h => absurd h (Nat.not_lt_zero _)⟩ ?_ ?_ ?_
    · rintro ts' i x ds' M' hx ⟨rfl, met', org', rfl, I', ⟨e, he⟩, NG', dn⟩
      obtain ⟨m, hm, rfl⟩ := map_get hx
      have hmr := mvs_mem.mp (List.mem_of_getElem? hm)
      have hmo := mv_ok O.links hmr
      have V2 := after_valid V O.links hmr
      have hsz := V2.sizes
      have hs' : met'[idx]? = some s := by rw [he, List.getElem?_append_left hidx]; exact hs
      have hfw := I'.few O.isrow Sm
      refine ⟨_, eg_n g 3, ?_⟩
      refine gb_set g 4 (ev_callP g2 (hr.mono (by decide)) hw (ea_cons (ev_fld (d := encRow row) (j := 1) S.cls S.wagons (ev_v 0) (.cell 0)) (ea_cons (ev_v 2) (ea_cons (ev_v 3) ea_nil))) ⟨y.devs, row, s, m, by omega, V, hmo, rfl, rfl, rfl⟩) ?_
      refine gb_when (t := decide (afterM row s m ∈ met') || !decide (Live (afterM row s m))) (M1 := sCells C SC a y row met' org' false) (et_or ((et_inN (j := 2) (z := .bl true) (pv1 hr) hw (ev_v 4) (ev_fld (d := .ref a.k) (j := 3) S.cls S.known (ev_v 0) (.cell 0)) rfl (okN_sit _) (depth_sit _)).eq (dec_sits _ _)) fun _ => et_not (et_val (ev_callP g3 (hr.mono (by decide)) hw (ea_cons (ev_v 4) ea_nil) ⟨afterM row s m, by omega, rfl, rfl, rfl⟩))) (fun h => ?_) fun h => ?_
      · refine gb_cont (ds' := DS) ?_ ⟨rfl, rfl, rfl, trivial⟩
        refine ⟨rfl, met', org', rfl, I', ⟨e, he⟩, NG', fun j m' hj hjm hl => ?_⟩
        by_cases hji : j < i
        · exact dn j m' hji hjm hl
        · have hje : j = i := by omega
          subst hje
          rw [hm] at hjm
          cases hjm
          rw [Bool.or_eq_true] at h
          rcases h with h | h
          · exact of_decide_eq_true h
          · rw [decide_eq_true hl] at h
            cases h
      · rw [Bool.or_eq_false_iff] at h
        have hnew : afterM row s m ∉ met' := of_decide_eq_false h.1
        have hlv : Live (afterM row s m) := by
          by_cases hl : Live (afterM row s m)
          · exact hl
          · have := h.2
            rw [decide_eq_false hl] at this
            cases this
        have I2 := I'.push O.links hs' hmr hnew hlv
        refine gb_when (M1 := sCells C SC a y row met' org' false) (t := false) ((et_eqI (ev_lenC (j := 3) T.len (ev_fld (d := .ref a.m) (j := 2) S.cls S.met (ev_v 0) (.cell 0)) rfl) (ev_g T.mostSits)).eq ?_) (fun h => by cases h) fun _ => ?_
        · rw [List.length_map]
          exact decide_eq_false (by omega)
        refine gb_itemN (j := 2) (xs := met'.map encSit) (x := .bl true) (pv1 hr) hw ev_b (ev_fld (d := .ref a.k) (j := 3) S.cls S.known (ev_v 0) (.cell 0)) (ev_v 4) rfl (by rw [List.length_map]; omega) (okN_sit _) (depth_sit _) (fun hin => hnew ((mem_sits _ _).mp hin)) ?_
        refine gb_expr (ev_app (j := 3) (xs := met'.map encSit) (ys := met'.map encSit) (ev_fld (d := .ref a.m) (j := 2) S.cls S.met (ev_v 0) (.cell 0)) rfl (ev_v 4) rfl (by rw [List.length_map]; omega)) ?_
        refine gb_expr (ev_app (j := 1) (xs := org'.map encO) (ys := org'.map encO) (ev_fld (d := .ref a.o) (j := 4) S.cls S.origin (ev_v 0) (.cell 0)) rfl (ev_tup (ea_cons (ev_v 1) (ea_cons (ev_v 3) ea_nil))) rfl (by rw [List.length_map, I'.olen]; omega)) ?_
        let met2 := met' ++ [afterM row s m]
        let org2 := org' ++ [some (idx, m)]
        have eM : ∀ fn : Bool, [sObj C SC a y row fn, (a.o, D.lst (org'.map encO ++ [.tup [.int idx, encMv m]])), (a.k, .nd (met'.map encSit ++ [encSit (afterM row s m)]) (.bl true)), (a.m, .lst (met'.map encSit ++ [encSit (afterM row s m)]))] = sCells C SC a y row met2 org2 fn := fun fn => by
          show _ = [_, (a.o, D.lst ((org' ++ [some (idx, m)]).map encO)), (a.k, .nd ((met' ++ [afterM row s m]).map encSit) _), (a.m, .lst ((met' ++ [afterM row s m]).map encSit))]
          rw [List.map_append, List.map_append]
          rfl
        have hpre : ∃ e, met2 = met ++ e := ⟨e ++ [afterM row s m], by show met' ++ _ = _; rw [he, List.append_assoc]⟩
        let Mr : Cells := [(a.o, D.lst (org'.map encO ++ [.tup [.int idx, encMv m]])), (a.k, .nd (met'.map encSit ++ [encSit (afterM row s m)]) (.bl true)), (a.m, .lst (met'.map encSit ++ [encSit (afterM row s m)]))]
        refine gb_when (M1 := [sObj C SC a y row false] ++ Mr) (et_val (evk_meth (A0 := SC) (Min := [sObj C SC a y row false]) (Mr := Mr) S.cls g4 (hr.mono (by decide)) hw (ev_v 0) (.cell 0) (ea_cons (ev_v 4) ea_nil) ⟨a.q, _, _, 1, row, afterM row s m, by decide +kernel, rfl, rfl, rfl, rfl⟩ (List.Perm.refl _)).one) (fun h => ?_) fun h => ?_
        · refine gb_fldOld (j := 0) (i := 5) (q := a.q) (C := SC) (ns := sN) (xs := [yardD C y, encRow row, .ref a.m, .ref a.k, .ref a.o, .bl false]) S.cls S.found ev_b (ev_v 0) (gb_retN (N := []) (Mo := sCells C SC a y row met2 org2 true) ?_ ?_)
          · refine ⟨rfl, met2, org2, true, rfl, I2, hpre, fun _ => ⟨afterM row s m, ?_, of_decide_eq_true h⟩, fun h => by cases h⟩
            show (met' ++ [afterM row s m])[(met' ++ [afterM row s m]).length - 1]? = _
            simp
          · rw [← eM]
            exact List.Perm.refl _
        · refine gb_turn (ds' := DS) ?_ ⟨rfl, rfl, rfl, trivial⟩
          refine ⟨rfl, met2, org2, eM false, I2, hpre, fun t ht => ?_, fun j m' hj hjm hl => ?_⟩
          · rcases List.mem_append.mp ht with h1 | h1
            · exact NG' t h1
            · rw [List.mem_singleton.mp h1]
              exact of_decide_eq_false h
          · by_cases hji : j < i
            · exact List.mem_append_left _ (dn j m' hji hjm hl)
            · have hje : j = i := by omega
              subst hje
              rw [hm] at hjm
              cases hjm
              exact List.mem_append_right _ List.mem_cons_self
    · intro ds' M' h
      rw [List.length_map] at h
      exact h
    · rintro ds' M' ⟨rfl, met', org', rfl, I', hpre, NG', dn⟩
      refine gb_off (N := []) (Mo := sCells C SC a y row met' org' false) ?_ (List.Perm.refl _)
      refine ⟨rfl, met', org', false, rfl, I', hpre, (fun h => by cases h), fun _ => ⟨NG', fun m hm hl => ?_⟩⟩
      obtain ⟨j, hj⟩ := List.mem_iff_getElem?.mp (mvs_mem.mpr hm)
      exact dn j m (List.getElem?_eq_some_iff.mp hj).1 hj hl

/-- where finish stands -/
structure Fi (devs : Devs) (links : List (Int × Int)) (row : List Int) (met : List Sit) (org : List (Option (Nat × Mv))) (fnd : Bool) (idx : Nat) : Prop where
  inv : SrInv devs links row met org
  yes : fnd = true → Found row met
  no : fnd = false → idx ≤ met.length ∧ NoGoal row met ∧ ∀ j s, j < idx → met[j]? = some s → DoneAt devs links row met s
theorem Fi.out {devs : Devs} {links : List (Int × Int)} {row : List Int} {met : List Sit} {org : List (Option (Nat × Mv))} {fnd : Bool} {idx : Nat} (I : Fi devs links row met org fnd idx) (h : (!fnd && decide (idx < met.length)) = false) : Out devs links row met org fnd := by
  refine ⟨I.inv, I.yes, fun hf => ?_⟩
  obtain ⟨h1, h2, h3⟩ := I.no hf
  subst hf
  have hle : ¬ idx < met.length := of_decide_eq_false h
  have e : idx = met.length := by omega
  refine ⟨List.mem_of_getElem? I.inv.first, h2, I.inv.ok, fun s hs m hm hl => ?_⟩
  obtain ⟨j, hj⟩ := List.mem_iff_getElem?.mp hs
  exact h3 j s (by rw [e]; exact (List.getElem?_eq_some_iff.mp hj).1) hj m hm hl
def cFinish (C SC : Addr) : Ctr := fun args M Kx => ∃ (a : Ad) (y : Yd) (row : List Int) (met : List Sit) (org : List (Option (Nat × Mv))) (fnd : Bool), Okk y row ∧ Small y.devs.length row.length ∧ Fi y.devs y.links row met org fnd 0 ∧
  args = [.ref a.q] ∧ M = sCells C SC a y row met org fnd ∧ Kx = fun d M' => d = .non ∧ ∃ met' org' fnd', M' = sCells C SC a y row met' org' fnd' ∧ Out y.devs y.links row met' org' fnd'
theorem ok_finish (Fn : Fun K "finish" "Search.finish" s_Search_finish f fd) (T : Tx w K mg) (S : Ts K SC) (g1 : MF P w K mg base SC "look" 4 (cLook C SC)) : FnOk P w K mg base CX0 5 f fd ["self"] (toSp w (cFinish C SC)) :=
  fn_ok Fn sc_Search_finish (by rintro _ _ _ ⟨a, y, row, met, org, fnd, _, _, _, rfl, _⟩; rfl) fun b F args M Kx hw hP hc hr => by
    obtain ⟨a, y, row, met0, org0, fnd0, O, Sm, I0, rfl, rfl, rfl⟩ := hc
    have g := bx_good (P := P) (w := w) (K := K) (mg := mg) (base := base) (qual := "Search.finish") (b := b) sc_Search_finish
    let W : Nat → Slots → Cells → Prop := fun n ds M => ∃ (idx : Nat) (met : List Sit) (org : List (Option (Nat × Mv))) (fnd : Bool), n = 4001 - idx ∧ idx ≤ 4000 ∧ ds = [some (.ref a.q), some (.int idx)] ∧ M = sCells C SC a y row met org fnd ∧ Fi y.devs y.links row met org fnd idx
    let J : Slots → Cells → Prop := fun ds M => ∃ (met : List Sit) (org : List (Option (Nat × Mv))) (fnd : Bool), M = sCells C SC a y row met org fnd ∧ Out y.devs y.links row met org fnd
    refine gb_set g 1 ev_i (gb_while g W J 4001 ⟨0, met0, org0, fnd0, rfl, Nat.zero_le _, rfl, rfl, I0⟩ ?_ ?_)
    · rintro n ds' M' ⟨idx, met, org, fnd, rfl, hle, rfl, rfl, I⟩
      refine ⟨!fnd && decide (idx < met.length), sCells C SC a y row met org fnd, et_and (et_not (et_val (ev_fld (d := .bl fnd) (j := 5) S.cls S.found (ev_v 0) (.cell 0)))) fun _ => ((et_lt (ev_v 1) (ev_lenC (j := 3) T.len (ev_fld (d := .ref a.m) (j := 2) S.cls S.met (ev_v 0) (.cell 0)) rfl)).eq (by rw [List.length_map]; exact dlt)), fun ht ts' => ?_, fun hf => ⟨met, org, fnd, rfl, I.out hf⟩⟩
      rw [Bool.and_eq_true] at ht
      obtain ⟨h1, h2⟩ := ht
      have hf : fnd = false := by
        cases fnd
        · rfl
        · cases h1
      subst hf
      have hlt : idx < met.length := of_decide_eq_true h2
      obtain ⟨i1, i2, i3⟩ := I.no rfl
      have hfw := I.inv.few O.isrow Sm
      have hs : met[idx]? = some met[idx] := List.getElem?_eq_getElem hlt
      refine gb_exprK (evk_meth (A0 := SC) (Min := sCells C SC a y row met org false) (Mr := []) S.cls g1 (hr.mono (by decide)) hw (ev_v 0) (.cell 0) (ea_cons (ev_v 1) ea_nil) ⟨a, y, row, met, org, idx, met[idx], O, Sm, I.inv, i2, hs, rfl, rfl, rfl⟩ (List.Perm.of_eq (List.append_nil _).symm)) fun d M1 hk => ?_
      obtain ⟨Mo, ⟨rfl, met', org', fnd', rfl, L⟩, rfl⟩ := hk
      obtain ⟨e, he⟩ := L.pre
      refine gb_aug g 1 ev_i (gb_turn (ds' := [some (.ref a.q), some (.int ((idx : Int) + 1))]) ?_ (Le.refl _))
      refine ⟨4001 - (idx + 1), by omega, idx + 1, met', org', fnd', rfl, by omega, rfl, rfl, L.inv, L.yes, fun hf => ?_⟩
      obtain ⟨n1, n2⟩ := L.no hf
      refine ⟨by rw [he, List.length_append]; omega, n1, fun j s hj hjs => ?_⟩
      by_cases hji : j < idx
      · have hjs2 : met[j]? = some s := by
          rw [he, List.getElem?_append_left (by omega)] at hjs
          exact hjs
        intro m hm hl
        rw [he]
        exact List.mem_append_left _ (i3 j s hji hjs2 m hm hl)
      · have hje : j = idx := by omega
        subst hje
        rw [he, List.getElem?_append_left hlt, hs] at hjs
        cases hjs
        exact n2
    · rintro ds' M' ⟨met, org, fnd, rfl, o⟩
      refine gb_off (N := []) (Mo := sCells C SC a y row met org fnd) ?_ (List.Perm.refl _)
      exact ⟨rfl, met, org, fnd, rfl, o⟩
def cWay (C SC : Addr) : Ctr := fun args M Kx => ∃ (a : Ad) (y : Yd) (row : List Int) (met : List Sit) (org : List (Option (Nat × Mv))) (fnd : Bool), met.length ≤ 4000 ∧ SrInv y.devs y.links row met org ∧ Found row met ∧
  args = [.ref a.q] ∧ M = sCells C SC a y row met org fnd ∧ Kx = fun d M' => ∃ ms, d = .lst (ms.map encMv) ∧ ms.length ≤ 4000 ∧ IsWay y.devs y.links row ms ∧ M' = sCells C SC a y row met org fnd
theorem ok_way (Fn : Fun K "way" "Search.way" s_Search_way f fd) (T : Tx w K mg) (S : Ts K SC) : FnOk P w K mg base CX0 1 f fd ["self"] (toSp w (cWay C SC)) :=
  fn_ok Fn sc_Search_way (by rintro _ _ _ ⟨a, y, row, met, org, fnd, _, _, _, rfl, _⟩; rfl) fun b F args M Kx hw hP hc hr => by
    obtain ⟨a, y, row, met, org, fnd, hm, I, ⟨t, h1, h2⟩, rfl, rfl, rfl⟩ := hc
    have g := bx_good (P := P) (w := w) (K := K) (mg := mg) (base := base) (qual := "Search.way") (b := b) sc_Search_way
    have hpos : 0 < met.length := (List.getElem?_eq_some_iff.mp I.first).1
    refine gb_setK g 1 (ev_lstC ea_nil) fun d M1 hd0 => ?_
    obtain ⟨p, fp, rfl, rfl⟩ := hd0
    refine gb_set g 2 ((ev_sub (ev_lenC (j := 4) T.len (ev_fld (d := .ref a.m) (j := 2) S.cls S.met (ev_v 0) (.cell 1)) rfl) ev_i).eq (d1 := .int ((met.length - 1 : Nat) : Int)) (by rw [List.length_map, Int.ofNat_sub hpos]; rfl)) ?_
    let W : Nat → Slots → Cells → Prop := fun n ds M => ∃ (s : Sit) (acc : List Mv), n + acc.length ≤ 4000 ∧ ds = [some (.ref a.q), some (.ref p), some (.int n), none] ∧ M = (p, .lst (acc.map encMv)) :: sCells C SC a y row met org fnd ∧ met[n]? = some s ∧ Path y.devs y.links row s acc.reverse t
    let J : Slots → Cells → Prop := fun ds M => ∃ (acc : List Mv), acc.length ≤ 4000 ∧ ds = [some (.ref a.q), some (.ref p), none, none] ∧ M = (p, .lst (acc.map encMv)) :: sCells C SC a y row met org fnd ∧ Path y.devs y.links row (startM y.devs.length) acc.reverse t
    refine gb_while g W (fun ds M => ∃ n, n = 0 ∧ W n ds M) (met.length - 1) ⟨t, [], by simp; omega, rfl, rfl, h1, .nil t⟩ ?_ ?_
    · rintro n ds' M' ⟨s, acc, hle, rfl, rfl, hs, pth⟩
      refine ⟨decide ((0 : Int) < (n : Int)), (p, .lst (acc.map encMv)) :: sCells C SC a y row met org fnd, et_gt (ev_v 2) ev_i, fun ht ts' => ?_, fun hf => ⟨n, ?_, s, acc, hle, rfl, rfl, hs, pth⟩⟩
      · have hn : 0 < n := by have := of_decide_eq_true ht; omega
        obtain ⟨j, m, r, e1, e2, e3, e4, e5, e6⟩ := I.parent hn hs
        subst e5
        have hno : n < org.length := (List.getElem?_eq_some_iff.mp e1).1
        refine gb_asg (ev_ixC (j := 2) (ev_fld (d := .ref a.o) (j := 4) S.cls S.origin (ev_v 0) (.cell 1)) (ev_v 2) rfl (d := .tup [.int j, encMv m]) ?_) (eg_t2 g (eg_n g 2) (eg_n g 3)) ?_
        · rw [atI_nat (by omega) (by rw [List.length_map]; omega), List.getElem?_map]
          show (org[n]?).map encO = _
          rw [e1]
          rfl
        refine gb_expr (ev_app (j := 0) (xs := acc.map encMv) (ys := acc.map encMv) (ev_v 1) rfl (ev_v 3) rfl (by rw [List.length_map]; omega)) (gb_turn (ds' := [some (.ref a.q), some (.ref p), some (.int j), none]) ?_ ⟨rfl, rfl, rfl, trivial⟩)
        refine ⟨j, e2, r, acc ++ [m], by simp; omega, rfl, ?_, e3, ?_⟩
        · rw [List.map_append]
          rfl
        · rw [List.reverse_append]
          exact .cons e4 e6 pth
      · have := of_decide_eq_false hf
        omega
    · rintro ds' M' ⟨n, rfl, s, acc, hle, rfl, rfl, hs, pth⟩
      rw [I.first] at hs
      cases hs
      refine gb_expr (ev_rev (j := 0) (xs := acc.map encMv) (ev_v 1) rfl) (gb_ret (Mo := sCells C SC a y row met org fnd) (N := []) (ev_frz (i := 0) (d := .lst (acc.map encMv).reverse) (ev_v 1)) ?_ (List.Perm.of_eq (List.append_nil _).symm))
      refine ⟨acc.reverse, by rw [List.map_reverse], by rw [List.length_reverse]; omega, ⟨t, pth, h2⟩, rfl⟩
end
end K23

set_option maxHeartbeats 4000000
/-! search_from, solve, closed_list. -/
namespace K23
open PySem PySem.Spec PyProof.Rows L2

/-- a cell of a def that was handed none becomes data -/
theorem ev_frzP {X : Cx} {F : Fm} {ds : Slots} {M M1 : Cells} {d : D} {e : Expr} {q : Addr} {i : Nat} (h : EV X F ds M e (.ref q) M1) (hP : F.P = []) (hi : M1[i]? = some (q, d) := by rfl) (hd : ∀ xs x, d ≠ .nd xs x := by exact fun _ _ z => nomatch z) : EV X F ds M e d (M1.eraseIdx i) :=
  fun ts σ H A Q k => h ts σ H A _ fun v H1 A1 => by
    have e1 := A1.val List.mem_cons_self
    subst e1
    have fq : F.H q = none := by
      obtain ⟨G, W, S, T, C⟩ := A1.ex
      rcases (C.ok _ (List.mem_of_getElem? hi)).2.2 with z | z
      · rw [hP] at z
        cases z
      · exact z
    exact k _ _ ((A1.freeze hi fq hd).sub fun t ht => by
      rcases List.mem_cons.mp ht with h | h
      · rw [h]; exact List.mem_cons_self
      · exact List.mem_cons_of_mem _ (List.mem_cons_of_mem _ h))
theorem srt_nodup {S : List Sit} (h : S.Nodup) : (srt encSit S).Nodup := (srt_perm _ _).nodup_iff.mpr h
theorem Closed.perm {devs : Devs} {links : List (Int × Int)} {row : List Int} {S S' : List Sit} (C : Closed devs links row S) (p : S'.Perm S) : Closed devs links row S' :=
  ⟨p.mem_iff.mpr C.start, fun s hs => C.nogoal s (p.mem_iff.mp hs), fun s hs => C.ok s (p.mem_iff.mp hs), fun s hs m hm hl => p.mem_iff.mpr (C.next s (p.mem_iff.mp hs) m hm hl)⟩
section
variable {P : Program} {w : World} {K : PySem.W.Frag} {mg : Str → Option Value} {base : Heap} {f : Addr} {fd : FuncData} {C SC : Addr}
def cFrom (C SC : Addr) : Ctr := fun args M Kx => ∃ (y : Yd) (row : List Int), Okk y row ∧ Small y.devs.length row.length ∧ args = [yardD C y, encRow row, encSit (startM y.devs.length)] ∧ M = [] ∧
  Kx = fun d M' => ∃ (a : Ad) (met : List Sit) (org : List (Option (Nat × Mv))) (fnd : Bool), d = .ref a.q ∧ M' = sCells C SC a y row met org fnd ∧ Out y.devs y.links row met org fnd
theorem fi_start {y : Yd} {row : List Int} : Fi y.devs y.links row [startM y.devs.length] [none] (decide ((startM y.devs.length).gone.length = row.length)) 0 := by
  refine ⟨SrInv.init, fun h => ⟨startM y.devs.length, rfl, of_decide_eq_true h⟩, fun h => ⟨Nat.zero_le _, fun t ht => ?_, fun j s hj => absurd hj (Nat.not_lt_zero _)⟩⟩
  rw [List.mem_singleton.mp ht]
  exact of_decide_eq_false h
theorem ok_from (Fn : Fun K "search_from" "search_from" s_search_from f fd) (g1 : KF P w K mg base "Search" SC 2 (cSInit C SC)) (S : Ts K SC) (g2 : MF P w K mg base SC "finish" 5 (cFinish C SC)) : FnOk P w K mg base CX0 6 f fd ["yard", "row", "situation"] (toSp w (cFrom C SC)) :=
  fn_ok Fn sc_search_from (by rintro _ _ _ ⟨y, row, _, _, rfl, _⟩; rfl) fun b F args M Kx hw hP hc hr => by
    obtain ⟨y, row, O, Sm, rfl, rfl, rfl⟩ := hc
    have g := bx_good (P := P) (w := w) (K := K) (mg := mg) (base := base) (qual := "search_from") (b := b) sc_search_from
    refine gb_setK g 3 (evk_make (A0 := SC) (Min := []) (Mr := []) (K := fun q d M' => d = .non ∧ ∃ m k o, M' = sCells C SC ⟨q, m, k, o⟩ y row [startM y.devs.length] [none] (decide ((startM y.devs.length).gone.length = row.length))) g1 (hr.mono (by decide)) hw (ea_cons (ev_v 0) (ea_cons (ev_v 1) (ea_cons (ev_v 2) ea_nil))) (List.Perm.refl _) (fun q => ⟨q, y, row, _, rfl, rfl, rfl⟩) fun q d Mo h => h.1) fun d M1 hk => ?_
    obtain ⟨q, Mo, fq, rfl, ⟨_, am, ak, ao, rfl⟩, rfl⟩ := hk
    refine gb_exprK (evk_meth0 (A0 := SC) (Min := sCells C SC ⟨q, am, ak, ao⟩ y row [startM y.devs.length] [none] (decide ((startM y.devs.length).gone.length = row.length))) (Mr := []) S.cls g2 (hr.mono (by decide)) hw (ev_v 3) (.cell 0) ⟨⟨q, am, ak, ao⟩, y, row, _, _, _, O, Sm, fi_start, rfl, rfl, rfl⟩ (List.Perm.refl _)) fun d M1 hk => ?_
    obtain ⟨Mo, ⟨rfl, met, org, fnd, rfl, o⟩, rfl⟩ := hk
    refine gb_ret (Mo := sCells C SC ⟨q, am, ak, ao⟩ y row met org fnd) (N := []) (ev_v 3) ?_ (List.Perm.refl _)
    exact ⟨⟨q, am, ak, ao⟩, met, org, fnd, rfl, rfl, o⟩
def cSolve (C : Addr) : Ctr := fun args M Kx => ∃ (y : Yd) (row : List Int), Okk y row ∧ Small y.devs.length row.length ∧ args = [yardD C y, encRow row] ∧ M = [] ∧
  Kx = fun d M' => M' = [] ∧ ((∃ ms, d = .lst (ms.map encMv) ∧ ms.length ≤ 4000 ∧ IsWay y.devs y.links row ms) ∨ (d = .non ∧ ∃ S, Closed y.devs y.links row S))
theorem ok_solve (Fn : Fun K "solve" "solve" s_solve f fd) (g1 : GF P w K mg base "search_from" 6 (cFrom C SC)) (g2 : GF P w K mg base "first_situation" 3 (cFirst C)) (S : Ts K SC) (g3 : MF P w K mg base SC "way" 1 (cWay C SC)) : FnOk P w K mg base CX0 7 f fd ["yard", "row"] (toSp w (cSolve C)) :=
  fn_ok Fn sc_solve (by rintro _ _ _ ⟨y, row, _, _, rfl, _⟩; rfl) fun b F args M Kx hw hP hc hr => by
    obtain ⟨y, row, O, Sm, rfl, rfl, rfl⟩ := hc
    have g := bx_good (P := P) (w := w) (K := K) (mg := mg) (base := base) (qual := "solve") (b := b) sc_solve
    refine gb_setK g 2 (evk_call (Min := []) (Mr := []) g1 (hr.mono (by decide)) hw (ea_cons (ev_v 0) (ea_cons (ev_v 1) (ea_cons (ev_callP g2 (hr.mono (by decide)) hw (ea_cons (ev_v 0) (ea_cons (ev_v 1) ea_nil)) ⟨y, row, O, rfl, rfl, rfl⟩) ea_nil))) ⟨y, row, O, Sm, rfl, rfl, rfl⟩ (List.Perm.refl _)) fun d M1 hk => ?_
    obtain ⟨Mo, ⟨a, met, org, fnd, rfl, rfl, o⟩, rfl⟩ := hk
    have hfw := o.inv.few O.isrow Sm
    refine gb_when (t := fnd) (et_val (ev_fld (d := .bl fnd) (j := 5) S.cls S.found (ev_v 2) (.cell 0))) (fun h => ?_) fun h => ?_
    · refine gb_retK (evk_meth0 (A0 := SC) (Min := sCells C SC a y row met org fnd) (Mr := []) S.cls g3 (hr.mono (by decide)) hw (ev_v 2) (.cell 0) ⟨a, y, row, met, org, fnd, by omega, o.inv, o.yes h, rfl, rfl, rfl⟩ (List.Perm.refl _)) fun d M1 hk => ?_
      obtain ⟨Mo, ⟨ms, rfl, hl, hw2, rfl⟩, rfl⟩ := hk
      exact ⟨[], _, ⟨rfl, .inl ⟨ms, rfl, hl, hw2⟩⟩, List.Perm.refl _⟩
    · refine gb_ret (Mo := []) (N := sCells C SC a y row met org fnd) ev_n ?_ (List.Perm.refl _)
      exact ⟨rfl, .inr ⟨rfl, met, o.no h⟩⟩
def cClosedList (C : Addr) : Ctr := fun args M Kx => ∃ (y : Yd) (row : List Int), Okk y row ∧ Small y.devs.length row.length ∧ args = [yardD C y, encRow row] ∧ M = [] ∧
  Kx = fun d M' => M' = [] ∧ ((d = .non ∧ ∃ ms, IsWay y.devs y.links row ms) ∨ (∃ S, d = .lst (S.map encSit) ∧ S.Nodup ∧ S.length ≤ 4000 ∧ Closed y.devs y.links row S))
theorem ok_closedlist (Fn : Fun K "closed_list" "closed_list" s_closed_list f fd) (T : Tx w K mg) (g1 : GF P w K mg base "search_from" 6 (cFrom C SC)) (g2 : GF P w K mg base "first_situation" 3 (cFirst C)) (S : Ts K SC) : FnOk P w K mg base CX0 7 f fd ["yard", "row"] (toSp w (cClosedList C)) :=
  fn_ok Fn sc_closed_list (by rintro _ _ _ ⟨y, row, _, _, rfl, _⟩; rfl) fun b F args M Kx hw hP hc hr => by
    obtain ⟨y, row, O, Sm, rfl, rfl, rfl⟩ := hc
    have g := bx_good (P := P) (w := w) (K := K) (mg := mg) (base := base) (qual := "closed_list") (b := b) sc_closed_list
    refine gb_setK g 2 (evk_call (Min := []) (Mr := []) g1 (hr.mono (by decide)) hw (ea_cons (ev_v 0) (ea_cons (ev_v 1) (ea_cons (ev_callP g2 (hr.mono (by decide)) hw (ea_cons (ev_v 0) (ea_cons (ev_v 1) ea_nil)) ⟨y, row, O, rfl, rfl, rfl⟩) ea_nil))) ⟨y, row, O, Sm, rfl, rfl, rfl⟩ (List.Perm.refl _)) fun d M1 hk => ?_
    obtain ⟨Mo, ⟨a, met, org, fnd, rfl, rfl, o⟩, rfl⟩ := hk
    have hfw := o.inv.few O.isrow Sm
    refine gb_when (t := fnd) (et_val (ev_fld (d := .bl fnd) (j := 5) S.cls S.found (ev_v 2) (.cell 0))) (fun h => ?_) fun h => ?_
    · refine gb_ret (Mo := []) (N := sCells C SC a y row met org fnd) ev_n ?_ (List.Perm.refl _)
      exact ⟨rfl, .inl ⟨rfl, o.inv.way (o.yes h)⟩⟩
    · refine gb_ret (Mo := []) (N := (sCells C SC a y row met org fnd).eraseIdx 3) (ev_sorted (enc := encSit) (xs := met) (pv1 hr) T.sorted (ev_frzP (i := 3) (d := .lst (met.map encSit)) (ev_fld (d := .ref a.m) (j := 2) S.cls S.met (ev_v 2) (.cell 0)) hP) (fun s _ => okD_sit s) (fun s _ t _ => alike_S s t) (.inl fun s _ => ⟨_, _, rfl⟩) fun s _ => depthP_sit s) ?_ (List.Perm.refl _)
      exact ⟨rfl, .inr ⟨srt encSit met, rfl, srt_nodup o.inv.nd, by rw [(srt_perm _ _).length_eq]; omega, (o.no h).perm (srt_perm _ _)⟩⟩
end
end K23

set_option maxHeartbeats 600000
/-! The law's own outs, ins, moves, behind, live, start. -/
namespace K23
open PySem PySem.Spec PyProof.Rows L2

def encDv (x : Kd × Nat) : D := .lst [.str x.1.str, .int x.2]
/-- the plan of a net -/
def netD (e0 e1 e2 : D) (y : Yd) : D := .lst [e0, e1, e2, .lst (y.devs.map encDv), .lst (y.links.map encL)]
def kix : Kd → Nat
  | .s => 0 | .q => 1 | .d => 2 | .i => 3 | .o => 4
abbrev kz : List Str := ["s", "q", "d", "i", "o"]
theorem kz_get (k : Kd) : kz[kix k]? = some k.str := by cases k <;> rfl
theorem atI_dev {devs : Devs} {i : Int} (h0 : 0 ≤ i) (h : i < devs.length) : atI (devs.map encDv) i = some (encDv (dv devs i)) := by
  rw [atI_nat h0 (by rw [List.length_map]; exact h), List.getElem?_map, dv_get h0 h]
  rfl
section
variable {P : Program} {w : World} {K : PySem.W.Frag} {mg : Str → Option Value} {base : Heap} {f : Addr} {fd : FuncData}
def cLOuts : Ctr := fun args M Kx => ∃ (e0 e1 e2 : D) (y : Yd) (row : List Int) (s : Sit) (a : Int), Valid y.devs row s ∧ (-1 ≤ a ∧ a < y.devs.length) ∧ args = [netD e0 e1 e2 y, encRow row, encSit s, .int a] ∧ M = [] ∧ Kx = KD (.lst (dI (srcEnds y.devs row.length s a))) []
theorem ok_louts (Fn : Fun K "_law_outs" "_law_outs" s_law_outs f fd) (T : Tx w K mg) : FnOk P w K mg base CX0 1 f fd ["_law_net_here", "_law_row_here", "_law_situation", "_law_source"] (toSp w cLOuts) :=
  fn_ok Fn sc_law_outs (by rintro _ _ _ ⟨e0, e1, e2, y, row, s, a, _, _, rfl, _⟩; rfl) fun b F args M Kx hw hP hc hr => by
    obtain ⟨e0, e1, e2, y, row, s, a, V, ⟨h0, h1⟩, rfl, rfl, rfl⟩ := hc
    have hcm := V.came
    refine gb_when (et_lt (ev_v 3) ev_i) (fun h => ?_) fun h => ?_
    · have ha := of_decide_eq_true h
      refine gb_retD (ev_slL (xs := [.int 0]) po_none (po_some pe_s) (ev_lst (ea_cons ev_i ea_nil)) eo_none (eo_some ((ev_sub (ev_lenL T.len (ev_v 1)) (ev_ixT (d := .int s.came) (ev_v 2) ev_i rfl)).eq (d1 := .int ((row.length - s.came : Nat) : Int)) (by rw [ints_len, Int.ofNat_sub hcm])))) (hd := ?_)
      rw [cut_to]
      unfold srcEnds
      rw [if_pos ha]
      by_cases h2 : s.came < row.length
      · rw [if_pos h2]
        have : ∃ n, row.length - s.came = n + 1 := ⟨row.length - s.came - 1, by omega⟩
        obtain ⟨n, hn⟩ := this
        rw [hn]
        simp [dI]
      · rw [if_neg h2]
        have : row.length - s.came = 0 := by omega
        rw [this]
        rfl
    · have ha := of_decide_eq_false h
      have h2 : 0 ≤ a := by omega
      have hat := atI_held V h2 h1
      refine gb_when (et_not (et_truT (ev_ixT (ev_ixT (d := .tup (s.held.map encI)) (ev_v 2) ev_i rfl) (ev_v 3) hat))) (fun h3 => ?_) fun h3 => ?_
      · refine gb_retD (ev_lst ea_nil) (hd := ?_)
        unfold srcEnds
        have h5 : (hd s a).isEmpty = true := by
          cases e : hd s a with
          | nil => rfl
          | cons x r => rw [e] at h3; exact absurd h3 (by simp [dI])
        rw [if_neg (by omega), if_pos h5]
        rfl
      · refine gb_retD (ev_ixD (j := kix (dv y.devs a).1) (zs := kz) (xs := [.lst [.int 1], .lst [.int 0], .lst [.int 0, .int 1], .lst [.int 0, .int 1], .lst [.int 1]]) (d := .lst (dI (outsK (dv y.devs a).1))) (pv1 hr) (ev_disp fun F M => evp_cons ev_s (ev_lst (ea_cons ev_i ea_nil)) (evp_cons ev_s (ev_lst (ea_cons ev_i ea_nil)) (evp_cons ev_s (ev_lst (ea_cons ev_i (ea_cons ev_i ea_nil))) (evp_cons ev_s (ev_lst (ea_cons ev_i (ea_cons ev_i ea_nil))) (evp_cons ev_s (ev_lst (ea_cons ev_i ea_nil)) evp_nil)))))
          (ev_ixL (ev_ixL (ev_ixL (d := .lst (y.devs.map encDv)) (ev_v 0) ev_i rfl) (ev_v 3) (atI_dev h2 h1)) ev_i rfl) (kz_get _) ?_) (hd := ?_)
        · cases (dv y.devs a).1 <;> rfl
        · unfold srcEnds
          rw [if_neg (by omega), if_neg]
          intro h4
          have h5 : hd s a = [] := List.isEmpty_iff.mp h4
          rw [h5] at h3
          exact absurd h3 (by decide)
def cLIns : Ctr := fun args M Kx => ∃ (e0 e1 e2 : D) (y : Yd) (row : List Int) (s : Sit) (a : Int), Valid y.devs row s ∧ (-1 ≤ a ∧ a < y.devs.length) ∧ args = [netD e0 e1 e2 y, encSit s, .int a] ∧ M = [] ∧ Kx = KD (.lst (dI (tgtEnds y.devs s a))) []
theorem ok_lins (Fn : Fun K "_law_ins" "_law_ins" s_law_ins f fd) (T : Tx w K mg) : FnOk P w K mg base CX0 1 f fd ["_law_net_here", "_law_situation", "_law_target"] (toSp w cLIns) :=
  fn_ok Fn sc_law_ins (by rintro _ _ _ ⟨e0, e1, e2, y, row, s, a, _, _, rfl, _⟩; rfl) fun b F args M Kx hw hP hc hr => by
    obtain ⟨e0, e1, e2, y, row, s, a, V, ⟨h0, h1⟩, rfl, rfl, rfl⟩ := hc
    have g := bx_good (P := P) (w := w) (K := K) (mg := mg) (base := base) (qual := "_law_ins") (b := b) sc_law_ins
    refine gb_when (et_lt (ev_v 2) ev_i) (fun h => ?_) fun h => ?_
    · have ha := of_decide_eq_true h
      refine gb_retD (ev_lst (ea_cons ev_i ea_nil)) (hd := ?_)
      unfold tgtEnds
      rw [if_pos ha]
      rfl
    · have ha := of_decide_eq_false h
      have h2 : 0 ≤ a := by omega
      have hat := atI_held V h2 h1
      refine gb_asg (ev_ixL (ev_ixL (d := .lst (y.devs.map encDv)) (ev_v 0) ev_i rfl) (ev_v 2) (atI_dev h2 h1)) (eg_l2 g (eg_n g 3) (eg_n g 4)) (gb_when (et_and (et_gt (ev_v 4) ev_i) fun _ => et_ge (ev_lenT T.len (ev_ixT (ev_ixT (d := .tup (s.held.map encI)) (ev_v 1) ev_i rfl) (ev_v 2) hat)) (ev_v 4)) (fun h3 => ?_) fun h3 => ?_)
      · refine gb_retD (ev_lst ea_nil) (hd := ?_)
        rw [Bool.and_eq_true, decide_eq_true_eq, decide_eq_true_eq, ints_len] at h3
        unfold tgtEnds roomy
        rw [if_neg (by omega), if_neg]
        · rfl
        · rw [Bool.or_eq_true, decide_eq_true_eq, decide_eq_true_eq]
          omega
      · refine gb_retD (ev_ixD (j := kix (dv y.devs a).1) (zs := kz) (xs := [.lst [.int 1], .lst [.int 1], .lst [.int 0, .int 1], .lst [.int 1], .lst [.int 0, .int 1]]) (d := .lst (dI (insK (dv y.devs a).1))) (pv1 hr) (ev_disp fun F M => evp_cons ev_s (ev_lst (ea_cons ev_i ea_nil)) (evp_cons ev_s (ev_lst (ea_cons ev_i ea_nil)) (evp_cons ev_s (ev_lst (ea_cons ev_i (ea_cons ev_i ea_nil))) (evp_cons ev_s (ev_lst (ea_cons ev_i ea_nil)) (evp_cons ev_s (ev_lst (ea_cons ev_i (ea_cons ev_i ea_nil))) evp_nil))))) (ev_v 3) (kz_get _) ?_) (hd := ?_)
        · cases (dv y.devs a).1 <;> rfl
        · have h4 : roomy y.devs s a = true := by
            rw [Bool.and_eq_false_iff, decide_eq_false_iff_not, decide_eq_false_iff_not, ints_len] at h3
            unfold roomy
            rw [Bool.or_eq_true, decide_eq_true_eq, decide_eq_true_eq]
            omega
          unfold tgtEnds
          rw [if_neg (by omega), if_pos h4]
def cLMoves : Ctr := fun args M Kx => ∃ (e0 e1 e2 : D) (y : Yd) (row : List Int) (s : Sit), Okk y row ∧ Valid y.devs row s ∧ args = [netD e0 e1 e2 y, encRow row, encSit s] ∧ M = [] ∧ Kx = KD (.lst ((mvs y.devs y.links row.length s).map encMv)) []
theorem ok_lmoves (Fn : Fun K "_law_moves" "_law_moves" s_law_moves f fd) (T : Tx w K mg) (g1 : GF P w K mg base "_law_outs" 1 cLOuts) (g2 : GF P w K mg base "_law_ins" 1 cLIns) : FnOk P w K mg base CX0 3 f fd ["_law_net_here", "_law_row_here", "_law_situation"] (toSp w cLMoves) :=
  fn_ok Fn sc_law_moves (by rintro _ _ _ ⟨e0, e1, e2, y, row, s, _, _, rfl, _⟩; rfl) fun b F args M Kx hw hP hc hr => by
    obtain ⟨e0, e1, e2, y, row, s, O, V, rfl, rfl, rfl⟩ := hc
    have g := bx_good (P := P) (w := w) (K := K) (mg := mg) (base := base) (qual := "_law_moves") (b := b) sc_law_moves
    have hll := O.ll
    refine gb_setK g 3 (ev_lstC ea_nil) fun d M1 hd => ?_
    obtain ⟨p, fp, rfl, rfl⟩ := hd
    let DS : Slots := [some (netD e0 e1 e2 y), some (encRow row), some (encSit s), some (.ref p), none, none, none, none]
    let A0 : Nat → List Mv := fun i => (y.links.take i).flatMap fun l => lkM y.devs row.length s l (srcEnds y.devs row.length s l.1)
    have hA0 : ∀ i, (A0 i).length ≤ 4 * 100 := fun i => by
      have := raw_len y.devs (y.links.take i) row.length s
      rw [raw_eq] at this
      have h2 : (y.links.take i).length ≤ 100 := by rw [List.length_take]; omega
      exact Nat.le_trans this (by omega)
    refine gb_for g (ev_ixL (d := .lst (y.links.map encL)) (ev_v 0) ev_i rfl) (fun i ds M => ds = DS ∧ M = [(p, .lst ((A0 i).map encMv))]) (fun ds M => ds = DS ∧ M = [(p, .lst ((A0 y.links.length).map encMv))]) ⟨rfl, rfl⟩ ?_ ?_ ?_
    · rintro ts' i x ds' M' hx ⟨rfl, rfl⟩
      obtain ⟨l, hl, rfl⟩ := map_get hx
      obtain ⟨L1, L2⟩ := O.links l (List.mem_of_getElem? hl)
      refine ⟨_, eg_t2 g (eg_n g 4) (eg_n g 5), ?_⟩
      let DS1 : Slots := [some (netD e0 e1 e2 y), some (encRow row), some (encSit s), some (.ref p), some (.int l.1), some (.int l.2), none, none]
      let A1 : Nat → List Mv := fun j => A0 i ++ lkM y.devs row.length s l ((srcEnds y.devs row.length s l.1).take j)
      have hA1 : ∀ j, (A1 j).length ≤ 404 := fun j => by
        have h1 := lkM_len y.devs row.length s l ((srcEnds y.devs row.length s l.1).take j)
        have h2 := src2 y.devs row.length s l.1
        have h3 : ((srcEnds y.devs row.length s l.1).take j).length ≤ 2 := by rw [List.length_take]; omega
        have h4 := hA0 i
        show (A0 i ++ _).length ≤ 404
        rw [List.length_append]
        omega
      refine gb_for g (ev_callP g1 (hr.mono (by decide)) hw (ea_cons (ev_v 0) (ea_cons (ev_v 1) (ea_cons (ev_v 2) (ea_cons (ev_v 4) ea_nil)))) ⟨e0, e1, e2, y, row, s, l.1, V, L1, rfl, rfl, rfl⟩) (fun j ds M => ds = DS1 ∧ M = [(p, .lst ((A1 j).map encMv))]) (fun ds M => ds = DS1 ∧ M = [(p, .lst ((A1 (srcEnds y.devs row.length s l.1).length).map encMv))]) ⟨rfl, by simp [A1, lkM]⟩ ?_ ?_ ?_
      · rintro ts2 j x ds' M' hx ⟨rfl, rfl⟩
        obtain ⟨o, ho, rfl⟩ := map_get hx
        refine ⟨_, eg_n g 6, ?_⟩
        let DS2 : Slots := [some (netD e0 e1 e2 y), some (encRow row), some (encSit s), some (.ref p), some (.int l.1), some (.int l.2), some (.int o), none]
        let A2 : Nat → List Mv := fun k => A1 j ++ ((tgtEnds y.devs s l.2).take k).map fun e => ⟨l.1, o, l.2, e⟩
        have hA2 : ∀ k, (A2 k).length ≤ 406 := fun k => by
          have h2 := tgt2 y.devs s l.2
          have h4 := hA1 j
          show (A1 j ++ _).length ≤ 406
          rw [List.length_append, List.length_map, List.length_take]
          omega
        refine gb_for g (ev_callP g2 (hr.mono (by decide)) hw (ea_cons (ev_v 0) (ea_cons (ev_v 2) (ea_cons (ev_v 5) ea_nil))) ⟨e0, e1, e2, y, row, s, l.2, V, L2, rfl, rfl, rfl⟩) (fun k ds M => ds = DS2 ∧ M = [(p, .lst ((A2 k).map encMv))]) (fun ds M => ds = DS2 ∧ M = [(p, .lst ((A2 (tgtEnds y.devs s l.2).length).map encMv))]) ⟨rfl, by simp [A2]⟩ ?_ ?_ ?_
        · rintro ts3 k x ds' M' hx ⟨rfl, rfl⟩
          obtain ⟨e, he, rfl⟩ := map_get hx
          refine ⟨_, eg_n g 7, ?_⟩
          refine gb_expr (ev_app (j := 0) (ev_v 3) rfl (ev_tup (ea_cons (ev_v 4) (ea_cons (ev_v 6) (ea_cons (ev_v 5) (ea_cons (ev_v 7) ea_nil))))) rfl (by rw [List.length_map]; have := hA2 k; omega)) (gb_turn (ds' := DS2) ?_ ?_)
          · refine ⟨rfl, ?_⟩
            have e1 : A2 (k + 1) = A2 k ++ [⟨l.1, o, l.2, e⟩] := by
              show A1 j ++ _ = _
              rw [take_snoc he, List.map_append, ← List.append_assoc]
              rfl
            rw [e1]
            exact congrArg (fun z => [(p, D.lst z)]) (List.map_append (f := encMv) (l₁ := A2 k) (l₂ := [⟨l.1, o, l.2, e⟩])).symm
          · exact ⟨rfl, rfl, rfl, rfl, rfl, rfl, rfl, trivial⟩
        · rintro ds' M' ⟨rfl, rfl⟩
          exact ⟨rfl, by rw [ints_len]⟩
        · rintro ds' M' ⟨rfl, rfl⟩
          refine gb_turn (ds' := DS1) ?_ ⟨rfl, rfl, rfl, rfl, rfl, rfl, trivial⟩
          refine ⟨rfl, ?_⟩
          have e1 : A1 (j + 1) = A2 (tgtEnds y.devs s l.2).length := by
            show A0 i ++ lkM _ _ _ _ _ = (A0 i ++ lkM _ _ _ _ _) ++ _
            rw [take_snoc ho, List.take_length]
            unfold lkM
            rw [List.flatMap_append, List.append_assoc]
            simp
          rw [e1]
      · rintro ds' M' ⟨rfl, rfl⟩
        exact ⟨rfl, by rw [ints_len]⟩
      · rintro ds' M' ⟨rfl, rfl⟩
        refine gb_turn (ds' := DS) ?_ ⟨rfl, rfl, rfl, rfl, trivial⟩
        refine ⟨rfl, ?_⟩
        have e1 : A0 (i + 1) = A1 (srcEnds y.devs row.length s l.1).length := by
          show (y.links.take (i + 1)).flatMap _ = A0 i ++ lkM _ _ _ _ _
          rw [take_snoc hl, List.take_length, List.flatMap_append]
          simp [A0]
        rw [e1]
    · rintro ds' M' ⟨rfl, rfl⟩
      exact ⟨rfl, by rw [List.length_map]⟩
    · rintro ds' M' ⟨rfl, rfl⟩
      have e1 : A0 y.links.length = rawMoves y.devs y.links row.length s := by
        show (y.links.take _).flatMap _ = _
        rw [List.take_length]
        rfl
      rw [e1]
      exact gb_retD (ev_sorted (enc := encMv) (pv1 hr) T.sorted (ev_frz (i := 0) (d := .lst ((rawMoves y.devs y.links row.length s).map encMv)) (ev_v 3)) (fun _ _ => rfl) (fun _ _ _ _ => rfl) (.inl fun m _ => ⟨_, _, rfl⟩) fun m _ => by show (PyData.tuple [.int m.src, .int m.so, .int m.tgt, .int m.te]).depth ≤ 32; simp [PyData.depth, PyData.depthAll])
end
end K23

set_option maxHeartbeats 1000000
/-! The law's behind, live, start. -/
namespace K23
open PySem PySem.Spec PyProof.Rows L2

theorem cut_m {xs : List D} (h : 0 < xs.length) : cutD xs none (some ((xs.length : Int) - 1)) = xs.dropLast ∧ ¬ (HT.sIx xs.length 0 none = 0 ∧ HT.sIx xs.length xs.length (some ((xs.length : Int) - 1)) = xs.length) := by
  have e0 : (xs.length : Int) - 1 = ((xs.length - 1 : Nat) : Int) := by omega
  rw [e0]
  have e1 : HT.sIx xs.length xs.length (some ((xs.length - 1 : Nat) : Int)) = xs.length - 1 := by
    rw [HT.sIx_nat]
    omega
  refine ⟨by rw [cut_to, List.dropLast_eq_take], fun z => ?_⟩
  rw [e1] at z
  omega
section
variable {P : Program} {w : World} {K : PySem.W.Frag} {mg : Str → Option Value} {base : Heap} {f : Addr} {fd : FuncData}
theorem ok_lbehind (Fn : Fun K "_law_behind" "_law_behind" s_law_behind f fd) (T : Tx w K mg) : FnOk P w K mg base CX0 1 f fd ["_law_row_here", "_law_situation", "_law_move"] (toSp w cAfter) :=
  fn_ok Fn sc_law_behind (by rintro _ _ _ ⟨devs, row, s, m, _, _, _, rfl, _⟩; rfl) fun b F args M Kx hw hP hc hr => by
    obtain ⟨devs, row, s, m, hrl, V, O, rfl, rfl, rfl⟩ := hc
    have g := bx_good (P := P) (w := w) (K := K) (mg := mg) (base := base) (qual := "_law_behind") (b := b) sc_law_behind
    have hsz := V.sizes
    refine gb_asg (ev_v 1) (eg_t3 g (eg_n g 3) (eg_n g 4) (eg_n g 5)) (gb_setK g 6 (evk_list T.list (d := .tup (s.held.map encI)) (ev_v 4) (.inr rfl)) fun d M1 hd0 => ?_)
    obtain ⟨p, fp, rfl, rfl⟩ := hd0
    refine gb_asg (ev_v 2) (eg_t4 g (eg_n g 7) (eg_n g 8) (eg_n g 9) (eg_n g 10)) ?_
    let came' : Nat := if m.src < 0 then s.came + 1 else s.came
    let DS (c : Nat) (gn : List Int) : Slots := [some (encRow row), some (encSit s), some (encMv m), some (.int c), some (.tup (s.held.map encI)), some (encI gn), some (.ref p), some (.int m.src), some (.int m.so), some (.int m.tgt), some (.int m.te), some (.int (wagonM row s m))]
    refine gb_ifJ (fun ds M => ds = DS came' s.gone ∧ M = [(p, .lst ((takenM s m).map encI))]) (et_lt (ev_v 7) ev_i) (fun h => ?_) (fun h => ?_) ?_
    · have hs : m.src < 0 := of_decide_eq_true h
      have hlt := O.out hs
      refine gb_set g 11 (ev_ixL (d := .int (wagonM row s m)) (ev_v 0) (ev_v 3) ?_) (gb_set g 3 (ev_add (ev_v 3) ev_i) (gb_turn (ds' := DS came' s.gone) ?_ ?_))
      · rw [atI_ints (by omega) (by omega)]
        unfold wagonM
        rw [if_pos hs]
        rfl
      · refine ⟨rfl, ?_⟩
        unfold takenM
        rw [if_pos hs]
      · have e : came' = s.came + 1 := if_pos hs
        refine ⟨rfl, rfl, rfl, ?_, rfl, rfl, rfl, rfl, rfl, rfl, rfl, rfl, trivial⟩
        rw [e]
        rfl
    · have hs : ¬ m.src < 0 := of_decide_eq_false h
      have hl := O.ne hs
      have e : came' = s.came := if_neg hs
      have hix : ixN (s.held.map encI).length m.src = some m.src.toNat := ixN_ok (by omega) (by rw [List.length_map, V.len]; exact O.src.2)
      have hat := atI_held V (by omega) O.src.2
      have hl' : 0 < (dI (hd s m.src)).length := by rw [ints_len]; exact hl
      refine gb_if (et_eqI (ev_v 8) ev_i) (fun h2 => ?_) fun h2 => ?_
      · have h3 := of_decide_eq_true h2
        refine gb_set g 11 (ev_ixT (d := .int (wagonM row s m)) (ev_ixC (j := 0) (ev_v 6) (ev_v 7) rfl hat) ev_i ?_) (gb_item (j := 0) (ev_slT (po_some pe_s) po_none (ev_ixC (j := 0) (ev_v 6) (ev_v 7) rfl hat) (eo_some ev_i) eo_none (cut_1 hl').2) (ev_v 6) (ev_v 7) rfl hix (gb_end (ds' := DS came' s.gone) ?_ ?_))
        · rw [atI_ints (by decide) (by omega)]
          unfold wagonM
          rw [if_neg hs, if_pos h3]
          rfl
        · refine gb_turn (ds' := DS came' s.gone) ?_ (Le.refl _)
          refine ⟨rfl, ?_⟩
          rw [(cut_1 hl').1]
          unfold takenM
          rw [if_neg hs, if_pos h3, List.map_set]
          show [(p, D.lst (List.set _ _ (.tup ((dI (hd s m.src)).drop 1))))] = _
          unfold dI encI dI
          rw [List.map_drop]
        · rw [e]
          exact Le.refl _
      · have h3 := of_decide_eq_false h2
        refine gb_set g 11 (ev_ixT (d := .int (wagonM row s m)) (ev_ixC (j := 0) (ev_v 6) (ev_v 7) rfl hat) (ev_sub (ev_lenT T.len (ev_ixC (j := 0) (ev_v 6) (ev_v 7) rfl hat)) ev_i) ?_) (gb_item (j := 0) (ev_slT po_none (po_some pe_s) (ev_ixC (j := 0) (ev_v 6) (ev_v 7) rfl hat) eo_none (eo_some (ev_sub (ev_lenT T.len (ev_ixC (j := 0) (ev_v 6) (ev_v 7) rfl hat)) ev_i)) (cut_m hl').2) (ev_v 6) (ev_v 7) rfl hix (gb_end (ds' := DS came' s.gone) ?_ ?_))
        · rw [ints_len, atI_ints (by omega) (by omega)]
          unfold wagonM
          rw [if_neg hs, if_neg h3]
          have : (((hd s m.src).length : Int) - 1).toNat = (hd s m.src).length - 1 := by omega
          rw [this]
        · refine gb_turn (ds' := DS came' s.gone) ?_ (Le.refl _)
          refine ⟨rfl, ?_⟩
          rw [(cut_m hl').1]
          unfold takenM
          rw [if_neg hs, if_neg h3, List.map_set]
          show [(p, D.lst (List.set _ _ (.tup ((dI (hd s m.src)).dropLast))))] = _
          unfold dI encI dI
          rw [List.map_dropLast]
        · rw [e]
          exact Le.refl _
    · rintro ds' M' ⟨rfl, rfl⟩
      let gone' : List Int := if m.tgt < 0 then s.gone ++ [wagonM row s m] else s.gone
      let held' : List (List Int) := (afterM row s m).held
      have htl : (takenM s m).length = devs.length := by rw [taken_len, V.len]
      have hle := taken_le V m m.tgt.toNat
      refine gb_ifJ (fun ds M => ds = DS came' gone' ∧ M = [(p, .lst (held'.map encI))]) (et_lt (ev_v 9) ev_i) (fun h => ?_) (fun h => ?_) ?_
      · have hs : m.tgt < 0 := of_decide_eq_true h
        refine gb_set g 5 (ev_catT (xs := dI s.gone) (ev_v 5) (ev_tup (ea_cons (ev_v 11) ea_nil)) ?_) (gb_turn (ds' := DS came' gone') ?_ ?_)
        · rw [ints_len]
          show s.gone.length + 1 ≤ 100000
          omega
        · refine ⟨rfl, ?_⟩
          show [(p, D.lst ((takenM s m).map encI))] = [(p, D.lst ((afterM row s m).held.map encI))]
          unfold afterM
          rw [if_pos hs]
        · have e : gone' = s.gone ++ [wagonM row s m] := if_pos hs
          refine ⟨rfl, rfl, rfl, rfl, rfl, ?_, rfl, rfl, rfl, rfl, rfl, rfl, trivial⟩
          rw [e]
          show D.tup (dI (s.gone ++ [wagonM row s m])) = .tup (dI s.gone ++ [.int (wagonM row s m)])
          unfold dI
          rw [List.map_append]
          rfl
      · have hs : ¬ m.tgt < 0 := of_decide_eq_false h
        have e : gone' = s.gone := if_neg hs
        have hix : ixN ((takenM s m).map encI).length m.tgt = some m.tgt.toNat := ixN_ok (by omega) (by rw [List.length_map, htl]; exact O.tgt.2)
        have hat : atI ((takenM s m).map encI) m.tgt = some (encI ((takenM s m).getD m.tgt.toNat [])) := atI_heldL (by omega) (by rw [htl]; exact O.tgt.2)
        refine gb_if (et_eqI (ev_v 10) ev_i) (fun h2 => ?_) fun h2 => ?_
        · have h3 := of_decide_eq_true h2
          refine gb_item (j := 0) (ev_catT (ev_tup (ea_cons (ev_v 11) ea_nil)) (ev_ixC (j := 0) (ev_v 6) (ev_v 9) rfl hat) ?_) (ev_v 6) (ev_v 9) rfl hix (gb_end (ds' := DS came' gone') ?_ ?_)
          · rw [ints_len]
            show 1 + _ ≤ 100000
            omega
          · refine gb_turn (ds' := DS came' gone') ?_ (Le.refl _)
            refine ⟨rfl, ?_⟩
            show _ = [(p, D.lst ((afterM row s m).held.map encI))]
            unfold afterM
            rw [if_neg hs, if_pos h3, List.map_set]
            rfl
          · rw [e]
            exact Le.refl _
        · have h3 := of_decide_eq_false h2
          refine gb_item (j := 0) (ev_catT (ev_ixC (j := 0) (ev_v 6) (ev_v 9) rfl hat) (ev_tup (ea_cons (ev_v 11) ea_nil)) ?_) (ev_v 6) (ev_v 9) rfl hix (gb_end (ds' := DS came' gone') ?_ ?_)
          · rw [ints_len]
            show _ + 1 ≤ 100000
            omega
          · refine gb_turn (ds' := DS came' gone') ?_ (Le.refl _)
            refine ⟨rfl, ?_⟩
            show _ = [(p, D.lst ((afterM row s m).held.map encI))]
            unfold afterM
            rw [if_neg hs, if_neg h3, List.map_set]
            show [(p, D.lst (List.set _ _ (.tup (dI ((takenM s m).getD m.tgt.toNat []) ++ [.int (wagonM row s m)]))))] = _
            unfold encI dI
            rw [List.map_append]
            rfl
          · rw [e]
            exact Le.refl _
      · rintro ds' M' ⟨rfl, rfl⟩
        exact gb_retD (ev_tup (ea_cons (ev_v 3) (ea_cons (ev_tupleC (j := 0) T.tuple (ev_v 6) rfl) (ea_cons (ev_v 5) ea_nil)))) (N := [(p, .lst (held'.map encI))])
theorem ok_llive (Fn : Fun K "_law_live" "_law_live" s_law_live f fd) (T : Tx w K mg) : FnOk P w K mg base CX0 1 f fd ["_law_situation"] (toSp w cLive) :=
  fn_ok Fn sc_law_live (by rintro _ _ _ ⟨s, _, rfl, _⟩; rfl) fun b F args M Kx hw hP hc hr => by
    obtain ⟨s, hl, rfl, rfl, rfl⟩ := hc
    refine gb_retD (ev_eqD (pv1 hr) (ev_list T.list (ev_ixT (d := encI s.gone) (ev_v 0) ev_i rfl) (.inr rfl)) (ev_range2 rfl T.list T.range ev_i (ev_add (ev_lenT T.len (ev_ixT (d := encI s.gone) (ev_v 0) ev_i rfl)) ev_i) (by decide) (by decide) (by omega) (by rw [ints_len]; omega)) ?_ ?_) (hd := ?_)
    · exact good_ints _
    · rw [ints_len, rg_iota]
      exact good_ints _
    · rw [ints_len, rg_iota]
      show D.bl (PyData.eqv (toP (encRow s.gone)) (toP (encRow (iota s.gone.length)))) = _
      rw [live_eqv]
def cLStart : Ctr := fun args M Kx => ∃ (e0 e1 e2 : D) (y : Yd), y.devs.length ≤ 100 ∧ args = [netD e0 e1 e2 y] ∧ M = [] ∧ Kx = KD (encSit (startM y.devs.length)) []
theorem ok_lstart (Fn : Fun K "_law_start" "_law_start" s_law_start f fd) (T : Tx w K mg) : FnOk P w K mg base CX0 1 f fd ["_law_net_here"] (toSp w cLStart) :=
  fn_ok Fn sc_law_start (by rintro _ _ _ ⟨e0, e1, e2, y, _, rfl, _⟩; rfl) fun b F args M Kx hw hP hc hr => by
    obtain ⟨e0, e1, e2, y, hl, rfl, rfl, rfl⟩ := hc
    have g := bx_good (P := P) (w := w) (K := K) (mg := mg) (base := base) (qual := "_law_start") (b := b) sc_law_start
    refine gb_retD (ev_tup (ea_cons ev_i (ea_cons (ev_tuple T.tuple (lc_it (i := 1) (xs := y.devs.map encDv) (f := fun _ => .tup []) g (pi_list pe_s) (hw_list (ev_ixL (d := .lst (y.devs.map encDv)) (ev_v 0) ev_i rfl)) (blkOk_by (N := n_law_start) (sc := defScope s_law_start) (by decide +kernel)) (by rw [List.length_map]; omega) (fun _ _ _ _ _ => pg_name sc_law_start.nd rfl (.inl rfl)) fun _ _ _ _ _ _ _ _ => ev_tup ea_nil)) (ea_cons (ev_tup ea_nil) ea_nil)))) (hd := ?_)
    show D.tup [.int 0, .tup ((y.devs.map encDv).map fun _ => D.tup []), .tup []] = .tup [.int (0 : Nat), .tup ((List.replicate y.devs.length []).map encI), encI []]
    have e : (y.devs.map encDv).map (fun _ => D.tup []) = (List.replicate y.devs.length []).map encI := by
      rw [List.map_map, List.map_replicate]
      refine List.ext_getElem (by simp) fun i h1 h2 => ?_
      simp [encI, dI]
    rw [e]
    rfl
end
end K23

set_option maxHeartbeats 1000000
/-! The law's walks and closed. -/
namespace K23
open PySem PySem.Spec PyProof.Rows L2

theorem okDs_mvs : ∀ ms : List Mv, okDs (ms.map encMv) = true
  | [] => rfl
  | m :: ms => by
    show (okD (encMv m) && okDs (ms.map encMv)) = true
    rw [okDs_mvs ms]
    rfl
theorem lay_mvs : ∀ ms : List Mv, PyData.canLayAll0 (toPs (ms.map encMv)) = true
  | [] => by simp [toPs, PyData.canLayAll0]
  | m :: ms => by
    show PyData.canLayAll0 (.tuple [.int m.src, .int m.so, .int m.tgt, .int m.te] :: toPs (ms.map encMv)) = true
    have ih := lay_mvs ms
    simp [PyData.canLayAll0, PyData.canLay0, ih]
theorem deep_mvs : ∀ ms : List Mv, PyData.depthAll (toPs (ms.map encMv)) ≤ 1
  | [] => by simp [toPs, PyData.depthAll]
  | m :: ms => by
    have ih := deep_mvs ms
    show PyData.depthAll (.tuple [.int m.src, .int m.so, .int m.tgt, .int m.te] :: toPs (ms.map encMv)) ≤ 1
    simp only [PyData.depthAll, PyData.depth]
    omega
theorem good_mv (m : Mv) : good (encMv m) := by
  refine ⟨rfl, shaped_of ?_ ?_⟩
  · show (PyData.tuple [.int m.src, .int m.so, .int m.tgt, .int m.te]).canLay0 = true
    simp [PyData.canLayAll0, PyData.canLay0]
  · show (PyData.tuple [.int m.src, .int m.so, .int m.tgt, .int m.te]).depth ≤ 64
    simp [PyData.depth, PyData.depthAll]
theorem good_mvs (ms : List Mv) : good (.lst (ms.map encMv)) := by
  refine ⟨okDs_mvs ms, shaped_of ?_ ?_⟩
  · show (PyData.list (toPs (ms.map encMv))).canLay0 = true
    simp [PyData.canLay0, lay_mvs]
  · have := deep_mvs ms
    show (PyData.list (toPs (ms.map encMv))).depth ≤ 64
    simp only [PyData.depth]
    omega
theorem eqv_mv (m : Mv) : PyData.eqv (toP (encMv m)) (toP (encMv m)) = true := by
  show PyData.eqv (.tuple [.int m.src, .int m.so, .int m.tgt, .int m.te]) (.tuple [.int m.src, .int m.so, .int m.tgt, .int m.te]) = true
  simp [PyData.eqv, PyData.eqvAll]
theorem any_mv {m : Mv} {ms : List Mv} (h : m ∈ ms) : ((toPs (ms.map encMv)).any fun z => PyData.eqv z (toP (encMv m))) = true := by
  rw [toPs_map, List.any_eq_true]
  exact ⟨toP (encMv m), List.mem_map.mpr ⟨encMv m, List.mem_map.mpr ⟨m, h, rfl⟩, rfl⟩, eqv_mv m⟩
section
variable {P : Program} {w : World} {K : PySem.W.Frag} {mg : Str → Option Value} {base : Heap} {f : Addr} {fd : FuncData}
def cWalks : Ctr := fun args M Kx => ∃ (e0 e1 e2 : D) (y : Yd) (row : List Int) (ms : List Mv), Okk y row ∧ IsWay y.devs y.links row ms ∧ args = [netD e0 e1 e2 y, encRow row, .lst (ms.map encMv)] ∧ M = [] ∧ Kx = KD (.bl true) []
theorem ok_walks (Fn : Fun K "_law_walks" "_law_walks" s_law_walks f fd) (T : Tx w K mg) (g1 : GF P w K mg base "_law_start" 1 cLStart) (g2 : GF P w K mg base "_law_moves" 3 cLMoves) (g3 : GF P w K mg base "_law_behind" 1 cAfter) (g4 : GF P w K mg base "_law_live" 1 cLive) : FnOk P w K mg base CX0 4 f fd ["_law_net_here", "_law_row_here", "_law_way"] (toSp w cWalks) :=
  fn_ok Fn sc_law_walks (by rintro _ _ _ ⟨e0, e1, e2, y, row, ms, _, _, rfl, _⟩; rfl) fun b F args M Kx hw hP hc hr => by
    obtain ⟨e0, e1, e2, y, row, ms, O, ⟨t, pth, ht⟩, rfl, rfl, rfl⟩ := hc
    have g := bx_good (P := P) (w := w) (K := K) (mg := mg) (base := base) (qual := "_law_walks") (b := b) sc_law_walks
    have hdl := O.dl
    have hfew := O.few
    let DS (s : Sit) : Slots := [some (netD e0 e1 e2 y), some (encRow row), some (.lst (ms.map encMv)), some (encSit s), none]
    refine gb_set g 3 (ev_callP g1 (hr.mono (by decide)) hw (ea_cons (ev_v 0) ea_nil) ⟨e0, e1, e2, y, by omega, rfl, rfl, rfl⟩) ?_
    refine gb_for g (ev_v 2) (fun i ds M => ∃ s, ds = DS s ∧ M = [] ∧ Valid y.devs row s ∧ Path y.devs y.links row s (ms.drop i) t) (fun ds M => ds = DS t ∧ M = []) ⟨startM y.devs.length, rfl, rfl, Valid.start _ _, pth⟩ ?_ ?_ ?_
    · rintro ts' i x ds' M' hx ⟨s, rfl, rfl, V, p⟩
      obtain ⟨m, hm, rfl⟩ := map_get hx
      have hi := (List.getElem?_eq_some_iff.mp hm).1
      have hdrop : ms.drop i = m :: ms.drop (i + 1) := by
        rw [List.drop_eq_getElem_cons hi]
        rw [List.getElem?_eq_getElem hi] at hm
        cases hm
        rfl
      rw [hdrop] at p
      cases p with
      | cons h1 h2 h3 =>
        have hmo := mv_ok O.links h1
        have V2 := after_valid V O.links h1
        have hsz := V2.sizes
        refine ⟨_, eg_n g 4, ?_⟩
        refine gb_when (M1 := []) (t := false) ((et_ninD (pv2 hr) (ev_v 4) (ev_callP g2 (hr.mono (by decide)) hw (ea_cons (ev_v 0) (ea_cons (ev_v 1) (ea_cons (ev_v 3) ea_nil))) ⟨e0, e1, e2, y, row, s, O, V, rfl, rfl, rfl⟩) (good_mv m) (good_mvs _)).eq ?_) (fun h => by cases h) fun _ => ?_
        · rw [any_mv (mvs_mem.mpr h1)]
          rfl
        refine gb_set g 3 (ev_callP g3 (hr.mono (by decide)) hw (ea_cons (ev_v 1) (ea_cons (ev_v 3) (ea_cons (ev_v 4) ea_nil))) ⟨y.devs, row, s, m, by omega, V, hmo, rfl, rfl, rfl⟩) ?_
        refine gb_when (M1 := []) (t := false) ((et_not (et_val (ev_callP g4 (hr.mono (by decide)) hw (ea_cons (ev_v 3) ea_nil) ⟨afterM row s m, by omega, rfl, rfl, rfl⟩))).eq (by rw [decide_eq_true h2]; rfl)) (fun h => by cases h) fun _ => ?_
        refine gb_turn (ds' := DS (afterM row s m)) ?_ ⟨rfl, rfl, rfl, rfl, trivial⟩
        exact ⟨_, rfl, rfl, V2, h3⟩
    · rintro ds' M' ⟨s, rfl, rfl, V, p⟩
      rw [List.length_map, List.drop_length] at p
      cases p
      exact ⟨rfl, rfl⟩
    · rintro ds' M' ⟨rfl, rfl⟩
      refine gb_retD (ev_eqI (ev_lenT T.len (ev_ixT (d := encI t.gone) (ev_v 3) ev_i rfl)) (ev_lenL T.len (ev_v 1))) (hd := ?_)
      rw [ints_len, ints_len, ht, decide_eq_true rfl]
def cLClosed : Ctr := fun args M Kx => ∃ (e0 e1 e2 : D) (y : Yd) (row : List Int) (S : List Sit), Okk y row ∧ Closed y.devs y.links row S ∧ S.Nodup ∧ S.length ≤ 4000 ∧ args = [netD e0 e1 e2 y, encRow row, .lst (S.map encSit)] ∧ M = [] ∧ Kx = KD (.bl true) []
theorem ok_lclosed (Fn : Fun K "_law_closed" "_law_closed" s_law_closed f fd) (T : Tx w K mg) (g1 : GF P w K mg base "_law_start" 1 cLStart) (g2 : GF P w K mg base "_law_moves" 3 cLMoves) (g3 : GF P w K mg base "_law_behind" 1 cAfter) (g4 : GF P w K mg base "_law_live" 1 cLive) : FnOk P w K mg base CX0 4 f fd ["_law_net_here", "_law_row_here", "_law_situations"] (toSp w cLClosed) :=
  fn_ok Fn sc_law_closed (by rintro _ _ _ ⟨e0, e1, e2, y, row, S, _, _, _, _, rfl, _⟩; rfl) fun b F args M Kx hw hP hc hr => by
    obtain ⟨e0, e1, e2, y, row, S, O, Cl, nd, hS, rfl, rfl, rfl⟩ := hc
    have g := bx_good (P := P) (w := w) (K := K) (mg := mg) (base := base) (qual := "_law_closed") (b := b) sc_law_closed
    have hdl := O.dl
    have hfew := O.few
    refine gb_setK g 3 (ev_nd0 (.int 1) hw) fun d M1 hd0 => ?_
    obtain ⟨p, fp, rfl, rfl⟩ := hd0
    let DS : Slots := [some (netD e0 e1 e2 y), some (encRow row), some (.lst (S.map encSit)), some (.ref p), none, none, none]
    let Ms (n : Nat) : Cells := [(p, .nd ((S.take n).map encSit) (.int 1))]
    refine gb_for g (ev_v 2) (fun i ds M => ds = DS ∧ M = Ms i) (fun ds M => ds = DS ∧ M = Ms S.length) ⟨rfl, rfl⟩ ?_ ?_ ?_
    · rintro ts' i x ds' M' hx ⟨rfl, rfl⟩
      obtain ⟨s, hs, rfl⟩ := map_get hx
      have hsm := List.mem_of_getElem? hs
      obtain ⟨V, hl⟩ := Cl.ok s hsm
      have hsz := V.sizes
      refine ⟨_, eg_n g 4, ?_⟩
      refine gb_when (M1 := Ms i) (t := false) ((et_or3 (et_not (et_val (ev_isiT T.isinstance T.tuple (ev_v 4)))) (fun _ => et_not (et_val (ev_callP g4 (hr.mono (by decide)) hw (ea_cons (ev_v 4) ea_nil) ⟨s, by omega, rfl, rfl, rfl⟩))) fun _ _ => et_eqI (ev_lenT T.len (ev_ixT (d := encI s.gone) (ev_v 4) ev_i rfl)) (ev_lenL T.len (ev_v 1))).eq ?_) (fun h => by cases h) fun _ => ?_
      · rw [ints_len, ints_len, deq, decide_eq_true hl, decide_eq_false (Cl.nogoal s hsm)]
        rfl
      refine gb_itemN (j := 0) (xs := (S.take i).map encSit) (x := .int 1) (pv1 hr) hw ev_i (ev_v 3) (ev_v 4) rfl (by rw [List.length_map, List.length_take]; omega) (okN_sit s) (depth_sit s) (fun hin => ?_) (gb_turn (ds' := DS) ?_ ⟨rfl, rfl, rfl, rfl, trivial⟩)
      · have h1 := (mem_sits s (S.take i)).mp hin
        obtain ⟨j, hj⟩ := List.mem_iff_getElem?.mp h1
        have hji : j < i := by
          have := (List.getElem?_eq_some_iff.mp hj).1
          rw [List.length_take] at this
          omega
        rw [List.getElem?_take_of_lt hji] at hj
        have := nd_ix nd hj hs
        omega
      · refine ⟨rfl, ?_⟩
        show [(p, D.nd ((S.take i).map encSit ++ [encSit s]) (.int 1))] = [(p, D.nd ((S.take (i + 1)).map encSit) (.int 1))]
        rw [take_snoc hs, List.map_append]
        rfl
    · rintro ds' M' ⟨rfl, rfl⟩
      exact ⟨rfl, by rw [List.length_map]⟩
    · rintro ds' M' ⟨rfl, rfl⟩
      have eM : Ms S.length = [(p, .nd (S.map encSit) (.int 1))] := by
        show [(p, D.nd ((S.take S.length).map encSit) (.int 1))] = _
        rw [List.take_length]
      rw [eM]
      let Mq : Cells := [(p, .nd (S.map encSit) (.int 1))]
      refine gb_for g (ev_v 2) (fun i ds M => ds = DS ∧ M = Mq) (fun ds M => ds = DS ∧ M = Mq) ⟨rfl, rfl⟩ ?_ (fun _ _ z => z) ?_
      · rintro ts' i x ds' M' hx ⟨rfl, rfl⟩
        obtain ⟨s, hs, rfl⟩ := map_get hx
        have hsm := List.mem_of_getElem? hs
        obtain ⟨V, hl⟩ := Cl.ok s hsm
        refine ⟨_, eg_n g 4, ?_⟩
        let DS1 : Slots := [some (netD e0 e1 e2 y), some (encRow row), some (.lst (S.map encSit)), some (.ref p), some (encSit s), none, none]
        refine gb_for g (ev_callP g2 (hr.mono (by decide)) hw (ea_cons (ev_v 0) (ea_cons (ev_v 1) (ea_cons (ev_v 4) ea_nil))) ⟨e0, e1, e2, y, row, s, O, V, rfl, rfl, rfl⟩) (fun i ds M => ds = DS1 ∧ M = Mq) (fun ds M => ds = DS1 ∧ M = Mq) ⟨rfl, rfl⟩ ?_ (fun _ _ z => z) ?_
        · rintro ts2 j x ds' M' hx ⟨rfl, rfl⟩
          obtain ⟨m, hm, rfl⟩ := map_get hx
          have hmr := mvs_mem.mp (List.mem_of_getElem? hm)
          have hmo := mv_ok O.links hmr
          have V2 := after_valid V O.links hmr
          have hsz := V2.sizes
          refine ⟨_, eg_n g 5, ?_⟩
          refine gb_set g 6 (ev_callP g3 (hr.mono (by decide)) hw (ea_cons (ev_v 1) (ea_cons (ev_v 4) (ea_cons (ev_v 5) ea_nil))) ⟨y.devs, row, s, m, by omega, V, hmo, rfl, rfl, rfl⟩) ?_
          refine gb_when (M1 := Mq) (t := false) ((et_and (et_val (ev_callP g4 (hr.mono (by decide)) hw (ea_cons (ev_v 6) ea_nil) ⟨afterM row s m, by omega, rfl, rfl, rfl⟩)) fun _ => (et_ninN (j := 0) (z := .int 1) (pv1 hr) hw (ev_v 6) (ev_v 3) rfl (okN_sit (afterM row s m)) (depth_sit (afterM row s m))).eq (congrArg (!·) (dec_sits (afterM row s m) S))).eq ?_) (fun h => by cases h) fun _ => ?_
          · by_cases h2 : Live (afterM row s m)
            · rw [decide_eq_true (Cl.next s hsm m hmr h2)]
              simp
            · rw [decide_eq_false h2]
              rfl
          · refine gb_turn (ds' := DS1) ?_ ⟨rfl, rfl, rfl, rfl, rfl, trivial⟩
            exact ⟨rfl, rfl⟩
        · rintro ds' M' ⟨rfl, rfl⟩
          refine gb_turn (ds' := DS) ?_ ⟨rfl, rfl, rfl, rfl, trivial⟩
          exact ⟨rfl, rfl⟩
      · rintro ds' M' ⟨rfl, rfl⟩
        refine gb_retD (N := Mq) (ev_inN (j := 0) (z := .int 1) (pv1 hr) hw (ev_callP g1 (hr.mono (by decide)) hw (ea_cons (ev_v 0) ea_nil) ⟨e0, e1, e2, y, by omega, rfl, rfl, rfl⟩) (ev_v 3) rfl (okN_sit (startM y.devs.length)) (depth_sit (startM y.devs.length))) (hd := ?_)
        show D.bl (decide (toN (encSit (startM y.devs.length)) ∈ (S.map encSit).map toN)) = _
        rw [dec_sits, decide_eq_true Cl.start]
end
end K23

set_option maxHeartbeats 1000000
/-! Trees of a yard, told as text. -/
namespace K23
open PySem PySem.Spec PyProof.Rows L2

inductive Tr where
  | dev (k : Kd) (b : Nat)
  | pair (s : Bool) (l r : Tr)
def Tr.size : Tr → Nat
  | .dev _ _ => 1
  | .pair _ l r => l.size + r.size
def Tr.ok : Tr → Prop
  | .dev _ b => b ≤ 4
  | .pair _ l r => l.ok ∧ r.ok
def Tr.dep : Tr → Nat
  | .dev _ _ => 0
  | .pair _ l r => max l.dep r.dep + 1
theorem Tr.pos : ∀ t : Tr, 1 ≤ t.size
  | .dev _ _ => Nat.le_refl _
  | .pair _ l r => by
    have := Tr.pos l
    show 1 ≤ l.size + r.size
    omega
theorem Tr.dep_lt : ∀ t : Tr, t.dep < t.size
  | .dev _ _ => Nat.zero_lt_one
  | .pair _ l r => by
    have h1 := Tr.dep_lt l
    have h2 := Tr.dep_lt r
    have h3 := Tr.pos l
    have h4 := Tr.pos r
    show max l.dep r.dep + 1 < l.size + r.size
    omega
def dvT : Tr → Devs
  | .dev k b => [(k, b)]
  | .pair _ l r => dvT l ++ dvT r
theorem dvT_len : ∀ t : Tr, (dvT t).length = t.size
  | .dev _ _ => rfl
  | .pair _ l r => by
    show (dvT l ++ dvT r).length = l.size + r.size
    rw [List.length_append, dvT_len l, dvT_len r]
def enT : Tr → Nat → List Int
  | .dev _ _, n => [(n : Int)]
  | .pair true l r, n => enT l n ++ enT r (n + l.size)
  | .pair false l _, n => enT l n
def exT : Tr → Nat → List Int
  | .dev _ _, n => [(n : Int)]
  | .pair true l r, n => exT l n ++ exT r (n + l.size)
  | .pair false l r, n => exT r (n + l.size)
def jn (xs ys : List Int) : List (Int × Int) := xs.flatMap fun o => ys.map fun e => (o, e)
def lkT : Tr → Nat → List (Int × Int)
  | .dev _ _, _ => []
  | .pair true l r, n => lkT l n ++ lkT r (n + l.size)
  | .pair false l r, n => lkT l n ++ lkT r (n + l.size) ++ jn (exT l n) (enT r (n + l.size))
theorem en_in : ∀ (t : Tr) (n : Nat) (x : Int), x ∈ enT t n → (n : Int) ≤ x ∧ x < n + t.size
  | .dev _ _, n, x, h => by
    rw [List.mem_singleton.mp h]
    show (n : Int) ≤ n ∧ (n : Int) < n + (1 : Nat)
    omega
  | .pair true l r, n, x, h => by
    show (n : Int) ≤ x ∧ x < n + ((l.size + r.size : Nat) : Int)
    rcases List.mem_append.mp h with h | h
    · have := en_in l n x h
      omega
    · have := en_in r _ x h
      omega
  | .pair false l r, n, x, h => by
    have := en_in l n x h
    show (n : Int) ≤ x ∧ x < n + ((l.size + r.size : Nat) : Int)
    omega
theorem ex_in : ∀ (t : Tr) (n : Nat) (x : Int), x ∈ exT t n → (n : Int) ≤ x ∧ x < n + t.size
  | .dev _ _, n, x, h => by
    rw [List.mem_singleton.mp h]
    show (n : Int) ≤ n ∧ (n : Int) < n + (1 : Nat)
    omega
  | .pair true l r, n, x, h => by
    show (n : Int) ≤ x ∧ x < n + ((l.size + r.size : Nat) : Int)
    rcases List.mem_append.mp h with h | h
    · have := ex_in l n x h
      omega
    · have := ex_in r _ x h
      omega
  | .pair false l r, n, x, h => by
    have := ex_in r _ x h
    show (n : Int) ≤ x ∧ x < n + ((l.size + r.size : Nat) : Int)
    omega
theorem en_len : ∀ (t : Tr) (n : Nat), (enT t n).length ≤ t.size
  | .dev _ _, n => Nat.le_refl _
  | .pair true l r, n => by
    have h1 := en_len l n
    have h2 := en_len r (n + l.size)
    show (enT l n ++ enT r (n + l.size)).length ≤ l.size + r.size
    rw [List.length_append]
    omega
  | .pair false l r, n => by
    have h1 := en_len l n
    show (enT l n).length ≤ l.size + r.size
    omega
theorem ex_len : ∀ (t : Tr) (n : Nat), (exT t n).length ≤ t.size
  | .dev _ _, n => Nat.le_refl _
  | .pair true l r, n => by
    have h1 := ex_len l n
    have h2 := ex_len r (n + l.size)
    show (exT l n ++ exT r (n + l.size)).length ≤ l.size + r.size
    rw [List.length_append]
    omega
  | .pair false l r, n => by
    have h1 := ex_len r (n + l.size)
    show (exT r (n + l.size)).length ≤ l.size + r.size
    omega
theorem jn_mem {xs ys : List Int} {l : Int × Int} (h : l ∈ jn xs ys) : l.1 ∈ xs ∧ l.2 ∈ ys := by
  obtain ⟨o, ho, h⟩ := List.mem_flatMap.mp h
  obtain ⟨e, he, h⟩ := List.mem_map.mp h
  subst h
  exact ⟨ho, he⟩
theorem jn_len (xs ys : List Int) : (jn xs ys).length = xs.length * ys.length := by
  unfold jn
  induction xs with
  | nil => simp
  | cons x xs ih =>
    rw [List.flatMap_cons, List.length_append, ih, List.length_map, List.length_cons, Nat.add_mul]
    omega
theorem lk_in : ∀ (t : Tr) (n : Nat) (l : Int × Int), l ∈ lkT t n → ((n : Int) ≤ l.1 ∧ l.1 < n + t.size) ∧ ((n : Int) ≤ l.2 ∧ l.2 < n + t.size)
  | .dev _ _, _, _, h => by cases h
  | .pair true a b, n, l, h => by
    show ((n : Int) ≤ l.1 ∧ l.1 < n + ((a.size + b.size : Nat) : Int)) ∧ ((n : Int) ≤ l.2 ∧ l.2 < n + ((a.size + b.size : Nat) : Int))
    rcases List.mem_append.mp h with h | h
    · have := lk_in a n l h
      omega
    · have := lk_in b _ l h
      omega
  | .pair false a b, n, l, h => by
    show ((n : Int) ≤ l.1 ∧ l.1 < n + ((a.size + b.size : Nat) : Int)) ∧ ((n : Int) ≤ l.2 ∧ l.2 < n + ((a.size + b.size : Nat) : Int))
    rcases List.mem_append.mp h with h | h
    · rcases List.mem_append.mp h with h | h
      · have := lk_in a n l h
        omega
      · have := lk_in b _ l h
        omega
    · obtain ⟨h1, h2⟩ := jn_mem h
      have h3 := ex_in a n _ h1
      have h4 := en_in b _ _ h2
      omega
theorem mul3 {a b c d : Nat} (h1 : a ≤ c) (h2 : b ≤ d) : a * b ≤ c * d := Nat.mul_le_mul h1 h2
theorem lk_len : ∀ (t : Tr) (n : Nat), (lkT t n).length ≤ t.size * t.size
  | .dev _ _, _ => Nat.zero_le _
  | .pair true a b, n => by
    have h1 := lk_len a n
    have h2 := lk_len b (n + a.size)
    show (lkT a n ++ lkT b (n + a.size)).length ≤ (a.size + b.size) * (a.size + b.size)
    rw [List.length_append, Nat.add_mul, Nat.mul_add, Nat.mul_add]
    omega
  | .pair false a b, n => by
    have h1 := lk_len a n
    have h2 := lk_len b (n + a.size)
    have h3 := mul3 (ex_len a n) (en_len b (n + a.size))
    show (lkT a n ++ lkT b (n + a.size) ++ jn _ _).length ≤ (a.size + b.size) * (a.size + b.size)
    rw [List.length_append, List.length_append, jn_len, Nat.add_mul, Nat.mul_add, Nat.mul_add]
    omega
def outerL (en ex : List Int) : List (Int × Int) := en.map (fun e => (-1, e)) ++ ex.map fun o => (o, -1)
def planL (t : Tr) : List (Int × Int) := lkT t 0 ++ outerL (enT t 0) (exT t 0)
theorem plan_ok (t : Tr) : LinksOk t.size (planL t) := by
  intro l hl
  have hp := t.pos
  rcases List.mem_append.mp hl with h | h
  · have := lk_in t 0 l h
    omega
  · rcases List.mem_append.mp h with h | h
    · obtain ⟨e, he, rfl⟩ := List.mem_map.mp h
      have := en_in t 0 e he
      omega
    · obtain ⟨e, he, rfl⟩ := List.mem_map.mp h
      have := ex_in t 0 e he
      omega
theorem outer_len (t : Tr) (n : Nat) : (outerL (enT t n) (exT t n)).length ≤ 2 * t.size := by
  have h1 := en_len t n
  have h2 := ex_len t n
  unfold outerL
  rw [List.length_append, List.length_map, List.length_map]
  omega
theorem dv_ok : ∀ (t : Tr), t.ok → ∀ x ∈ dvT t, x.2 ≤ 4
  | .dev k b, h, x, hx => by
    rw [List.mem_singleton.mp hx]
    exact h
  | .pair _ l r, h, x, hx => by
    rcases List.mem_append.mp hx with h1 | h1
    · exact dv_ok l h.1 x h1
    · exact dv_ok r h.2 x h1

/-! ### text -/
def kc : Kd → Nat
  | .s => 115 | .q => 113 | .d => 100 | .i => 105 | .o => 111
def opc (s : Bool) : Nat := if s then 91 else 40
def clc (s : Bool) : Nat := if s then 93 else 41
def bdL (b : Nat) : List Nat := if b = 0 then [] else [48 + b]
def toldL : Tr → List Nat
  | .dev k b => kc k :: bdL b
  | .pair s l r => opc s :: (toldL l ++ 32 :: (toldL r ++ [clc s]))
def told (t : Tr) : Str := ⟨(toldL t).toArray⟩
theorem told_len : ∀ t : Tr, (toldL t).length + 3 ≤ 5 * t.size
  | .dev k b => by
    show (kc k :: bdL b).length + 3 ≤ 5
    unfold bdL
    split <;> simp
  | .pair s l r => by
    have h1 := told_len l
    have h2 := told_len r
    have h3 := l.pos
    have h4 := r.pos
    show (opc s :: (toldL l ++ 32 :: (toldL r ++ [clc s]))).length + 3 ≤ 5 * (l.size + r.size)
    simp only [List.length_cons, List.length_append, List.length_nil]
    omega
/-- what stands at a place -/
def sgn (l : List Nat) : Str := ⟨(l.take 1).toArray⟩
theorem cut_sgn (z : Str) (n : Nat) : cutS z (some (n : Int)) (some ((n : Int) + 1)) = sgn (z.cps.toList.drop n) := by
  have e0 : (n : Int) + 1 = ((n + 1 : Nat) : Int) := by omega
  have hl : z.length = z.cps.toList.length := rfl
  unfold cutS sgn
  rw [e0, HT.sIx_nat, HT.sIx_nat, hl]
  congr 2
  by_cases h : n < z.cps.toList.length
  · rw [Nat.min_eq_left (by omega), Nat.min_eq_left (by omega)]
    congr 1
    omega
  · rw [Nat.min_eq_right (by omega), Nat.min_eq_right (by omega), Nat.sub_self, List.drop_of_length_le (Nat.le_refl _), List.drop_of_length_le (by omega)]
    rfl
theorem str_app (a b : Str) : (a ++ b).cps.toList = a.cps.toList ++ b.cps.toList := by
  show (a.cps ++ b.cps).toList = _
  exact Array.toList_append
end K23

set_option maxHeartbeats 1000000
/-! The law's draws, tree, text. -/
namespace K23
open PySem PySem.Spec PyProof.Rows L2

theorem ev_iX {X : Cx} {F : Fm} {ds : Slots} {M : Cells} {pos : Pos} (i : Int) {j : Nat} : EV X F ds M (.Constant (.int i) j pos) (.int i) M := ev_i
section
variable {P : Program} {w : World} {K : PySem.W.Frag} {mg : Str → Option Value} {base : Heap} {f : Addr} {fd : FuncData}
def cNumber : Ctr := fun args M Kx => ∃ i : Int, args = [.int i] ∧ M = [] ∧ Kx = KD (.int (if i < 0 then 0 - i else i)) []
theorem ok_number (Fn : Fun K "_law_number" "_law_number" s_law_number f fd) : FnOk P w K mg base CX0 1 f fd ["_law_cell"] (toSp w cNumber) :=
  fn_ok Fn sc_law_number (by rintro _ _ _ ⟨i, rfl, _⟩; rfl) fun b F args M Kx hw hP hc hr => by
    obtain ⟨i, rfl, rfl, rfl⟩ := hc
    refine gb_when (et_lt (ev_v 0) ev_i) (fun h => gb_retD (ev_sub ev_i (ev_v 0)) (hd := ?_)) fun h => gb_retD (ev_v 0) (hd := ?_)
    · rw [if_pos (of_decide_eq_true h)]
    · rw [if_neg (of_decide_eq_false h)]
/-- a list of ints of ours -/
def IntsK : D → Cells → Prop := fun d M' => ∃ (p : Addr) (ds : List Int), d = .ref p ∧ M' = [(p, encRow ds)]
def cDraws (K : PySem.W.Frag) : Ctr := fun args M Kx => ∃ sc : List Int, sc.length ≤ 100 ∧ args = [.scr K (sc.map V.int)] ∧ M = [] ∧ Kx = IntsK
theorem dI_snoc (ds : List Int) (i : Int) : dI ds ++ [.int i] = dI (ds ++ [i]) := by
  unfold dI
  rw [List.map_append]
  rfl
theorem ok_draws (Fn : Fun K "_law_draws" "_law_draws" s_law_draws f fd) (T : Tx w K mg) (g1 : GF P w K mg base "_law_number" 1 cNumber) : FnOk P w K mg base CX0 2 f fd ["_law_script"] (toSp w (cDraws K)) :=
  fn_ok Fn sc_law_draws (by rintro _ _ _ ⟨sc, _, rfl, _⟩; rfl) fun b F args M Kx hw hP hc hr => by
    obtain ⟨sc, hsc, rfl, rfl, rfl⟩ := hc
    have g := bx_good (P := P) (w := w) (K := K) (mg := mg) (base := base) (qual := "_law_draws") (b := b) sc_law_draws
    refine gb_setK g 1 (ev_lstC ea_nil) fun d M1 hd0 => ?_
    obtain ⟨p, fp, rfl, rfl⟩ := hd0
    let DS : Slots := [some (.scr K (sc.map V.int)), some (.ref p), none, none, none, none, none]
    refine for_it g (xs := (sc.map V.int).map D.v) (pi_list pe_s) (hw_scr (ev_v 0)) (fun i ds M => ds = DS ∧ ∃ xs : List Int, xs.length ≤ 60 * i ∧ M = [(p, encRow xs)]) (fun ds M => ds = DS ∧ ∃ xs : List Int, M = [(p, encRow xs)]) ⟨rfl, [], Nat.le_refl _, rfl⟩ ?_ ?_ ?_
    · rintro ts' i x ds' M' hx ⟨rfl, xs, hxs, rfl⟩
      obtain ⟨c0, hc0, rfl⟩ := map_get hx
      obtain ⟨c, hc, rfl⟩ := map_get hc0
      have hi : i < 100 := by
        have := (List.getElem?_eq_some_iff.mp hc).1
        omega
      refine ⟨_, eg_n g 2, ?_⟩
      refine gb_set g 3 (ev_callP g1 (hr.mono (by decide)) hw (ea_cons (ev_v 2) ea_nil) ⟨c, rfl, rfl, rfl⟩) ?_
      generalize (if c < 0 then 0 - c else c) = r0
      refine gb_if (et_ge (ev_v 3) ev_i) (fun h => ?_) fun h => ?_
      · refine gb_forR1 g (n := 60) T.range ev_i (by decide) (fun n ds M => ∃ (r : Int) (ys : List Int), ds = [some (.scr K (sc.map V.int)), some (.ref p), some (.int c), some (.int r), none, none, none] ∧ ys.length ≤ 60 * i + n ∧ M = [(p, encRow ys)]) (fun ds M => ∃ (r : Int) (ys : List Int), ds = [some (.scr K (sc.map V.int)), some (.ref p), some (.int c), some (.int r), none, none, none] ∧ ys.length ≤ 60 * i + 60 ∧ M = [(p, encRow ys)]) ?_ ?_ ?_ ?_
        · exact ⟨r0, xs, rfl, by omega, rfl⟩
        · rintro ts2 n ds' M' hn ⟨r, ys, rfl, hy, rfl⟩
          refine ⟨_, eg_x g 4, ?_⟩
          refine gb_when (M1 := [(p, encRow ys)]) (et_eqI (ev_v 3) ev_i) (fun h2 => ?_) fun h2 => ?_
          · refine gb_break (ds' := [some (.scr K (sc.map V.int)), some (.ref p), some (.int c), some (.int r), none, none, none]) ?_ (Le.refl _)
            exact ⟨r, ys, rfl, by omega, rfl⟩
          · refine gb_expr (ev_app (j := 0) (xs := dI ys) (ys := dI ys) (ev_v 1) rfl (ev_mod (ev_int T.int (ev_v 3)) ev_i) rfl (by rw [ints_len]; omega)) (gb_set g 3 (ev_fdiv (ev_v 3) ev_i) (gb_turn (ds' := [some (.scr K (sc.map V.int)), some (.ref p), some (.int c), some (.int (r / 1000)), none, none, none]) ?_ (Le.refl _)))
            refine ⟨r / 1000, ys ++ [r % 1000], rfl, by rw [List.length_append]; show ys.length + 1 ≤ _; omega, ?_⟩
            exact congrArg (fun z => [(p, D.lst z)]) (dI_snoc ys _)
        · rintro ds' M' ⟨r, ys, rfl, hy, rfl⟩
          exact ⟨r, ys, rfl, hy, rfl⟩
        · rintro ds' M' ⟨r, ys, rfl, hy, rfl⟩
          refine gb_end (ds' := DS) ?_ ⟨rfl, rfl, trivial⟩
          refine gb_turn (ds' := DS) ?_ (Le.refl _)
          exact ⟨rfl, ys, by omega, rfl⟩
      · refine gb_set g 5 (ev_mod (ev_int T.int (ev_add (ev_mul (.inr ⟨by decide, by decide⟩) (ev_v 3) ev_i) ev_i)) ev_i) (gb_set g 6 (ev_mod (ev_int T.int (ev_add (ev_mul (.inr ⟨by decide, by decide⟩) (ev_v 5) ev_i) (ev_v 3))) ev_i) (gb_expr (ev_ext (j := 0) (xs := dI xs) (ys := dI xs) (ev_v 1) rfl (ev_lst (ea_cons (ev_mod (ev_int T.int (ev_v 3)) ev_i) (ea_cons (ev_mod (ev_int T.int (ev_v 5)) ev_i) (ea_cons (ev_mod (ev_int T.int (ev_v 6)) ev_i) ea_nil)))) rfl ?_) (gb_end (ds' := DS) ?_ ⟨rfl, rfl, trivial⟩)))
        · rw [ints_len]
          show xs.length + 3 < 100000
          omega
        · refine gb_turn (ds' := DS) ?_ (Le.refl _)
          refine ⟨rfl, xs ++ [r0 % 1000, (r0 * 48271 + 11) % 2147483647 % 1000, ((r0 * 48271 + 11) % 2147483647 * 69621 + r0) % 2147483629 % 1000], ?_, ?_⟩
          · rw [List.length_append]
            show xs.length + 3 ≤ _
            omega
          · exact congrArg (fun z => [(p, D.lst z)]) (List.map_append (f := D.int) (l₁ := xs) (l₂ := [_, _, _])).symm
    · rintro ds' M' ⟨rfl, xs, _, rfl⟩
      exact ⟨rfl, xs, rfl⟩
    · rintro ds' M' ⟨rfl, xs, rfl⟩
      refine gb_ret (Mo := [(p, encRow xs)]) (N := []) (ev_v 1) ?_ (List.Perm.refl _)
      exact ⟨p, xs, rfl, rfl⟩
def nextI (ds : List Int) : Int := ds.getD (ds.length - 1) 0
def cNext : Ctr := fun args M Kx => ∃ (q : Addr) (ds : List Int), args = [.ref q] ∧ M = [(q, encRow ds)] ∧ Kx = KD (.int (nextI ds)) [(q, encRow ds.dropLast)]
theorem ok_next (Fn : Fun K "_law_next" "_law_next" s_law_next f fd) : FnOk P w K mg base CX0 1 f fd ["_law_draws_here"] (toSp w cNext) :=
  fn_ok Fn sc_law_next (by rintro _ _ _ ⟨q, ds, rfl, _⟩; rfl) fun b F args M Kx hw hP hc hr => by
    obtain ⟨q, ds, rfl, rfl, rfl⟩ := hc
    refine gb_when (M1 := [(q, encRow ds)]) (et_truC (j := 0) (xs := dI ds) (ev_v 0) rfl) (fun h => ?_) fun h => ?_
    · have hl : 0 < ds.length := by
        cases ds with
        | nil => cases h
        | cons x r => simp
      refine gb_ret (Mo := [(q, encRow ds.dropLast)]) (N := []) (ev_pop (j := 0) (xs := dI ds) (d := .int (nextI ds)) (ev_v 0) rfl ?_) ?_ ?_
      · show (dI ds)[(dI ds).length - 1]? = _
        rw [ints_len]
        show (ds.map D.int)[ds.length - 1]? = _
        rw [List.getElem?_map, get_lt (by omega) 0]
        rfl
      · exact ⟨rfl, rfl⟩
      · have e : (dI ds).dropLast = dI ds.dropLast := by
          unfold dI
          rw [List.map_dropLast]
        show [(q, D.lst (dI ds).dropLast)].Perm _
        rw [e]
        exact List.Perm.refl _
    · have hl : ds = [] := by
        cases ds with
        | nil => rfl
        | cons x r => cases h
      subst hl
      refine gb_ret (Mo := [(q, encRow [])]) (N := []) ev_i ?_ (List.Perm.refl _)
      exact ⟨rfl, rfl⟩

/-! the tree -/
def opS : Bool → Str
  | true => "["
  | false => "("
def clS : Bool → Str
  | true => "]"
  | false => ")"
def encT : Tr → D
  | .dev k b => .lst [.str "device", .str k.str, .int b]
  | .pair s l r => .lst [.str (opS s), encT l, encT r]
def netR (en ex : List Int) (lk : List (Int × Int)) (dv : Devs) : D := .lst [.lst (dI en), .lst (dI ex), .lst (lk.map encL), .lst (dv.map encDv)]
def netT (t : Tr) (n : Nat) : D := netR (enT t n) (exT t n) (lkT t n) (dvT t)
def strT : Tr → Str
  | .dev k b => if b = 0 then k.str else k.str ++ toString (b : Int)
  | .pair s l r => opS s ++ strT l ++ " " ++ strT r ++ clS s
theorem bd_str {b : Nat} (h : b ≤ 4) (h0 : b ≠ 0) : (toString (b : Int) : Str) = ⟨#[48 + b]⟩ := by
  have : b = 1 ∨ b = 2 ∨ b = 3 ∨ b = 4 := by omega
  rcases this with e | e | e | e <;> subst e <;> decide +kernel
theorem kd_str (k : Kd) : k.str = ⟨#[kc k]⟩ := by cases k <;> decide +kernel
theorem op_str (s : Bool) : opS s = ⟨#[opc s]⟩ := by cases s <;> decide +kernel
theorem cl_str (s : Bool) : clS s = ⟨#[clc s]⟩ := by cases s <;> decide +kernel
theorem sp_str : (" " : Str) = ⟨#[32]⟩ := by decide +kernel
theorem str_ext {a b : Str} (h : a.cps.toList = b.cps.toList) : a = b := by
  obtain ⟨x⟩ := a
  obtain ⟨y⟩ := b
  have h' : x.toList = y.toList := h
  rw [Array.toList_inj.mp h']
theorem strT_cps : ∀ t : Tr, t.ok → (strT t).cps.toList = toldL t
  | .dev k b, h => by
    unfold strT toldL bdL
    by_cases h0 : b = 0
    · rw [if_pos h0, if_pos h0, kd_str]
    · rw [if_neg h0, if_neg h0, str_app, kd_str, bd_str h h0]
      rfl
  | .pair s l r, h => by
    have h1 := strT_cps l h.1
    have h2 := strT_cps r h.2
    show (opS s ++ strT l ++ " " ++ strT r ++ clS s : Str).cps.toList = _
    rw [str_app, str_app, str_app, str_app, h1, h2, op_str, cl_str, sp_str]
    show [opc s] ++ toldL l ++ [32] ++ toldL r ++ [clc s] = opc s :: (toldL l ++ 32 :: (toldL r ++ [clc s]))
    simp
theorem strT_told {t : Tr} (h : t.ok) : strT t = told t := str_ext (strT_cps t h)
theorem strT_len {t : Tr} (h : t.ok) : (strT t).length ≤ 5 * t.size := by
  have h1 := strT_cps t h
  have h2 := told_len t
  show (strT t).cps.size ≤ _
  have h3 : (strT t).cps.toList.length = (strT t).cps.size := Array.length_toList
  rw [← h3, h1]
  omega
def cTold (n : Nat) : Ctr := fun args M Kx => ∃ t : Tr, t.ok ∧ t.dep ≤ n ∧ t.size ≤ 1000 ∧ args = [encT t] ∧ M = [] ∧ Kx = KD (.str (strT t)) []
end
theorem encT_dev {t : Tr} {h : D} (e : encT t = .lst [.str "device", h]) : False := by cases t <;> (unfold encT at e; injection e with e; injection e with e1 e2; injection e2 with e3 e4; cases e4)
theorem op_ne (s : Bool) : ¬ opS s = "device" := by cases s <;> decide +kernel
section
variable {P : Program} {w : World} {K : PySem.W.Frag} {mg : Str → Option Value} {base : Heap} {f : Addr} {fd : FuncData}
theorem ok_told0 (Fn : Fun K "_law_told" "_law_told" s_law_told f fd) (T : Tx w K mg) (n k : Nat) (hk : 1 ≤ k) (g1 : ∀ m, m + 1 = n → GF P w K mg base "_law_told" k (cTold m)) : FnOk P w K mg base CX0 (k + 1) f fd ["_law_tree_here"] (toSp w (cTold n)) :=
  fn_ok Fn sc_law_told (by rintro _ _ _ ⟨t, _, _, _, rfl, _⟩; rfl) fun b F args M Kx hw hP hc hr => by
    obtain ⟨t, hok, hd, hz, rfl, rfl, rfl⟩ := hc
    cases t with
    | dev kd bd =>
      refine gb_when (M1 := []) (et_eqS (i := "device") (ev_ixL (xs := [.str "device", .str kd.str, .int bd]) (ev_v 0) ev_i rfl) ev_s) (fun h => ?_) fun h => absurd h (by decide +kernel)
      refine gb_when (M1 := []) (et_eqI (i := (bd : Int)) (ev_ixL (xs := [.str "device", .str kd.str, .int bd]) (ev_v 0) ev_i rfl) ev_i) (fun h2 => ?_) fun h2 => ?_
      · refine gb_retD (ev_ixL (d := .str kd.str) (xs := [.str "device", .str kd.str, .int bd]) (ev_v 0) ev_i rfl) (hd := ?_)
        have : bd = 0 := by have := of_decide_eq_true h2; omega
        unfold strT
        rw [if_pos this]
      · refine gb_retD (ev_addS (i := kd.str) (j := toString (bd : Int)) (ev_ixL (xs := [.str "device", .str kd.str, .int bd]) (ev_v 0) ev_i rfl) (ev_strI T.str (ev_ixL (xs := [.str "device", .str kd.str, .int bd]) (ev_v 0) ev_i rfl) ?_) ?_) (hd := ?_)
        · have hb : bd ≤ 4 := hok
          have : bd = 0 ∨ bd = 1 ∨ bd = 2 ∨ bd = 3 ∨ bd = 4 := by omega
          rcases this with e | e | e | e | e <;> subst e <;> decide
        · have hb : bd ≤ 4 := hok
          have : bd = 0 ∨ bd = 1 ∨ bd = 2 ∨ bd = 3 ∨ bd = 4 := by omega
          rcases this with e | e | e | e | e <;> subst e <;> cases kd <;> decide +kernel
        · have : ¬ bd = 0 := by have := of_decide_eq_false h2; omega
          unfold strT
          rw [if_neg this]
    | pair s l r =>
      have hd1 : max l.dep r.dep + 1 ≤ n := hd
      have hz1 : l.size + r.size ≤ 1000 := hz
      obtain ⟨m, rfl⟩ : ∃ m, n = m + 1 := ⟨n - 1, by omega⟩
      have g := g1 m rfl
      have hl := strT_len hok.1
      have hrl := strT_len hok.2
      have eop : (opS s).length = 1 := by cases s <;> decide +kernel
      have esp : (" " : Str).length = 1 := by decide +kernel
      have ecl : (clS s).length = 1 := by cases s <;> decide +kernel
      have sla : ∀ a b : Str, (a ++ b).length = a.length + b.length := fun a b => by
        show (a.cps ++ b.cps).size = _
        exact Array.size_append
      have ap : l.size + r.size ≤ 1000 := hz
      refine gb_when (M1 := []) (et_eqS (i := opS s) (ev_ixL (xs := [.str (opS s), encT l, encT r]) (ev_v 0) ev_i rfl) ev_s) (fun h => absurd (of_decide_eq_true h) (op_ne s)) fun _ => ?_
      refine gb_retD (ev_addS (ev_addS (ev_addS (ev_addS (ev_ixL (d := .str (opS s)) (xs := [.str (opS s), encT l, encT r]) (ev_v 0) ev_i rfl) (ev_callP g (hr.mono (by omega)) hw (ea_cons (ev_ixL (d := encT l) (xs := [.str (opS s), encT l, encT r]) (ev_v 0) ev_i rfl) ea_nil) ⟨l, hok.1, by omega, by omega, rfl, rfl, rfl⟩) ?_) ev_s ?_) (ev_callP g (hr.mono (by omega)) hw (ea_cons (ev_ixL (d := encT r) (xs := [.str (opS s), encT l, encT r]) (ev_v 0) ev_i rfl) ea_nil) ⟨r, hok.2, by omega, by omega, rfl, rfl, rfl⟩) ?_)
        (ev_ixD (j := if s then 1 else 0) (zs := ["(", "["]) (xs := [.str ")", .str "]"]) (z := opS s) (d := .str (clS s)) (pv1 hr) (ev_disp fun F M => evp_cons ev_s ev_s (evp_cons ev_s ev_s evp_nil)) (ev_ixL (d := .str (opS s)) (xs := [.str (opS s), encT l, encT r]) (ev_v 0) ev_i rfl) ?_ ?_) ?_) (hd := ?_)
      · omega
      · rw [sla]; omega
      · rw [sla, sla]; omega
      · cases s <;> rfl
      · cases s <;> rfl
      · rw [sla, sla, sla]; omega
      · rfl
end
end K23

set_option maxHeartbeats 1000000
/-! The law's net, plan, tree, row, drawn. -/
namespace K23
open PySem PySem.Spec PyProof.Rows L2

/-! a list whose last item is of several kinds -/
def EvAK (F : Fm) (ds : Slots) (M : Cells) (ta : TA) (K : List D → Cells → Prop) : Prop :=
  ∀ (ts : List (V × D)) (σ : St) (H : Hp), At F ds M ts σ H → ∀ Q : List V → Hp → Prop, (∀ xs M' vs H', K xs M' → vs.length = xs.length → At F ds M' (vs.zip xs ++ ts) σ H' → Q vs H') → ta σ H Q
section
variable {X : Cx} {F : Fm} {ds : Slots} {M M1 : Cells} {d : D} {e : Expr} {es : List Expr} {pos : Pos} {K : D → Cells → Prop} {KL : List D → Cells → Prop}
theorem eak_last (h : EVK X F ds M e K) (hs : starEach [e] X.env = (false, eval e X.env) :: starEach [] X.env := by rfl) : EvAK F ds M (sA X [e]) (fun xs M' => ∃ d, xs = [d] ∧ K d M') := fun ts σ H A Q k => sA_of (pa_cons pe_s pa_nil hs) (h ts σ H A _ fun d M' v H' hK A' => k [d] M' [v] H' ⟨d, rfl, hK⟩ rfl A')
theorem eak_cons (h : EV X F ds M e d M1) (hr : EvAK F ds M1 (sA X es) KL) (hs : starEach (e :: es) X.env = (false, eval e X.env) :: starEach es X.env := by rfl) : EvAK F ds M (sA X (e :: es)) (fun xs M' => ∃ ys, xs = d :: ys ∧ KL ys M') :=
  fun ts σ H A Q k => sA_of (pa_cons pe_s pa_s hs) (h ts σ H A _ fun v H1 A1 => hr _ σ H1 A1 _ fun ys M' vs H2 hK hl A2 => k (d :: ys) M' (v :: vs) H2 ⟨ys, rfl, hK⟩ (by simp [hl]) (A2.sub fun t ht => by
    simp only [List.zip_cons_cons, List.cons_append, List.mem_cons, List.mem_append] at ht ⊢
    rcases ht with h | h | h
    · exact .inr (.inl h)
    · exact .inl h
    · exact .inr (.inr h)))
theorem evk_lstA (h : EvAK F ds M (sA X es) KL) (hl : ∀ xs M', KL xs M' → xs.length ≤ 100000) : EVK X F ds M (.List es pos) (fun d M' => ∃ xs, d = .lst xs ∧ KL xs M') :=
  evk_of (pe_lst pa_s) fun ts σ H A Q k => h ts σ H A _ fun xs M' vs H1 hK el A1 => ⟨by rw [el]; exact Nat.le_trans (hl xs M' hK) (by decide), fun p hp => k _ _ _ _ ⟨xs, rfl, hK⟩ ((A1.alloc (d := .lst xs) hp fun G' r e => .lst e (RpA.of el fun t ht => r t (List.mem_append_left _ ht))).sub fun t ht => by
    rcases List.mem_cons.mp ht with h | h
    · subst h; exact List.mem_cons_self
    · exact List.mem_cons_of_mem _ (List.mem_append_right _ h))⟩
end
section
variable {P : Program} {w : World} {K : PySem.W.Frag} {mg : Str → Option Value} {base : Heap} {f : Addr} {fd : FuncData}
def cNet (n : Nat) : Ctr := fun args M Kx => ∃ (t : Tr) (k : Nat), t.dep ≤ n ∧ k + t.size ≤ 10 ∧ args = [encT t, .int k] ∧ M = [] ∧ Kx = KD (netT t k) []
theorem cat_dI (xs ys : List Int) : dI xs ++ dI ys = dI (xs ++ ys) := by
  unfold dI
  rw [List.map_append]
theorem cat_L (xs ys : List (Int × Int)) : xs.map encL ++ ys.map encL = (xs ++ ys).map encL := (List.map_append ..).symm
theorem cat_dv (xs ys : Devs) : xs.map encDv ++ ys.map encDv = (xs ++ ys).map encDv := (List.map_append ..).symm
theorem ok_net0 (Fn : Fun K "_law_net" "_law_net" s_law_net f fd) (T : Tx w K mg) (n k : Nat) (g1 : ∀ m, m + 1 = n → GF P w K mg base "_law_net" k (cNet m)) : FnOk P w K mg base CX0 (k + 1) f fd ["_law_tree_here", "_law_first"] (toSp w (cNet n)) :=
  fn_ok Fn sc_law_net (by rintro _ _ _ ⟨t, j, _, _, rfl, _⟩; rfl) fun b F args M Kx hw hP hc hr => by
    obtain ⟨t, i, hd, hz, rfl, rfl, rfl⟩ := hc
    have g := bx_good (P := P) (w := w) (K := K) (mg := mg) (base := base) (qual := "_law_net") (b := b) sc_law_net
    cases t with
    | dev kd bd =>
      refine gb_when (M1 := []) (et_eqS (i := "device") (ev_ixL (xs := [.str "device", .str kd.str, .int bd]) (ev_v 0) ev_i rfl) ev_s) (fun h => ?_) fun h => absurd h (by decide +kernel)
      exact gb_retD (ev_lst (ea_cons (ev_lst (ea_cons (ev_v 1) ea_nil)) (ea_cons (ev_lst (ea_cons (ev_v 1) ea_nil)) (ea_cons (ev_lst ea_nil) (ea_cons (ev_lst (ea_cons (ev_lst (ea_cons (ev_ixL (d := .str kd.str) (xs := [.str "device", .str kd.str, .int bd]) (ev_v 0) ev_i rfl) (ea_cons (ev_ixL (d := .int bd) (xs := [.str "device", .str kd.str, .int bd]) (ev_v 0) ev_i rfl) ea_nil))) ea_nil)) ea_nil)))))
    | pair s l r =>
      have hd1 : max l.dep r.dep + 1 ≤ n := hd
      have hz1 : i + (l.size + r.size) ≤ 10 := hz
      have hp1 := l.pos
      have hp2 := r.pos
      obtain ⟨m, rfl⟩ : ∃ m, n = m + 1 := ⟨n - 1, by omega⟩
      have g2 := g1 m rfl
      have a1 := en_len l i
      have a2 := ex_len l i
      have a3 := lk_len l i
      have b1 := en_len r (i + l.size)
      have b2 := ex_len r (i + l.size)
      have b3 := lk_len r (i + l.size)
      have c1 := mul3 (show l.size ≤ 10 by omega) (show l.size ≤ 10 by omega)
      have c2 := mul3 (show r.size ≤ 10 by omega) (show r.size ≤ 10 by omega)
      refine gb_when (M1 := []) (et_eqS (i := opS s) (ev_ixL (xs := [.str (opS s), encT l, encT r]) (ev_v 0) ev_i rfl) ev_s) (fun h => absurd (of_decide_eq_true h) (op_ne s)) fun _ => ?_
      refine gb_set g 2 (ev_callP g2 (hr.mono (by omega)) hw (ea_cons (ev_ixL (d := encT l) (xs := [.str (opS s), encT l, encT r]) (ev_v 0) ev_i rfl) (ea_cons (ev_v 1) ea_nil)) ⟨l, i, by omega, by omega, rfl, rfl, rfl⟩) ?_
      refine gb_set g 3 (ev_callP g2 (hr.mono (by omega)) hw (ea_cons (ev_ixL (d := encT r) (xs := [.str (opS s), encT l, encT r]) (ev_v 0) ev_i rfl) (ea_cons ((ev_add (ev_v 1) (ev_lenL T.len (ev_ixL (d := .lst ((dvT l).map encDv)) (ev_v 2) ev_i rfl))).eq (d1 := .int ((i + l.size : Nat) : Int)) (by rw [List.length_map, dvT_len]; rfl)) ea_nil)) ⟨r, i + l.size, by omega, by omega, rfl, rfl, rfl⟩) ?_
      refine gb_setK g 4 (evk_catL (ev_ixL (d := .lst ((lkT l i).map encL)) (ev_v 2) ev_i rfl) (ev_ixL (d := .lst ((lkT r (i + l.size)).map encL)) (ev_v 3) ev_i rfl) (by rw [List.length_map, List.length_map]; omega)) fun d M1 hd0 => ?_
      obtain ⟨p, fp, rfl, rfl⟩ := hd0
      rw [cat_L]
      let base0 := lkT l i ++ lkT r (i + l.size)
      cases s with
      | true =>
        refine gb_when (M1 := [(p, .lst (base0.map encL))]) (et_eqS (i := opS true) (ev_ixL (xs := [.str (opS true), encT l, encT r]) (ev_v 0) ev_i rfl) ev_s) (fun _ => ?_) fun h => absurd h (by decide +kernel)
        refine gb_retD (N := []) (ev_lst (ea_cons (ev_catL (ev_ixL (d := .lst (dI (enT l i))) (ev_v 2) ev_i rfl) (ev_ixL (d := .lst (dI (enT r (i + l.size)))) (ev_v 3) ev_i rfl) (by rw [ints_len, ints_len]; omega)) (ea_cons (ev_catL (ev_ixL (d := .lst (dI (exT l i))) (ev_v 2) ev_i rfl) (ev_ixL (d := .lst (dI (exT r (i + l.size)))) (ev_v 3) ev_i rfl) (by rw [ints_len, ints_len]; omega)) (ea_cons (ev_frz (i := 0) (d := .lst (base0.map encL)) (ev_v 4)) (ea_cons (ev_catL (ev_ixL (d := .lst ((dvT l).map encDv)) (ev_v 2) ev_i rfl) (ev_ixL (d := .lst ((dvT r).map encDv)) (ev_v 3) ev_i rfl) (by rw [List.length_map, List.length_map, dvT_len, dvT_len]; omega)) ea_nil))))) (hd := ?_)
        rw [cat_dI, cat_dI, cat_dv]
        rfl
      | false =>
        refine gb_when (M1 := [(p, .lst (base0.map encL))]) (et_eqS (i := opS false) (ev_ixL (xs := [.str (opS false), encT l, encT r]) (ev_v 0) ev_i rfl) ev_s) (fun h => absurd h (by decide +kernel)) fun _ => ?_
        let DS : Slots := [some (encT (.pair false l r)), some (.int i), some (netT l i), some (netT r (i + l.size)), some (.ref p), none, none]
        let xs := exT l i
        let ys := enT r (i + l.size)
        let A0 : Nat → List (Int × Int) := fun j => base0 ++ jn (xs.take j) ys
        have hys : ys.length ≤ 10 := by show (enT r _).length ≤ 10; omega
        have hA0 : ∀ j, (A0 j).length ≤ 300 := fun j => by
          have h1 := mul3 (show (xs.take j).length ≤ 10 by rw [List.length_take]; show min j (exT l i).length ≤ 10; omega) hys
          show (base0 ++ _).length ≤ 300
          rw [List.length_append, jn_len]
          show (lkT l i ++ lkT r (i + l.size)).length + _ ≤ 300
          rw [List.length_append]
          omega
        refine gb_for g (ev_ixL (d := .lst (dI xs)) (ev_v 2) ev_i rfl) (fun j ds M => ds = DS ∧ M = [(p, .lst ((A0 j).map encL))]) (fun ds M => ds = DS ∧ M = [(p, .lst ((A0 xs.length).map encL))]) ⟨rfl, by simp [A0, jn, base0]⟩ ?_ ?_ ?_
        · rintro ts' j x ds' M' hx ⟨rfl, rfl⟩
          obtain ⟨o, ho, rfl⟩ := map_get hx
          refine ⟨_, eg_n g 5, ?_⟩
          let DS1 : Slots := [some (encT (.pair false l r)), some (.int i), some (netT l i), some (netT r (i + l.size)), some (.ref p), some (.int o), none]
          let A1 : Nat → List (Int × Int) := fun q => A0 j ++ (ys.take q).map fun e => (o, e)
          have hA1 : ∀ q, (A1 q).length ≤ 400 := fun q => by
            have := hA0 j
            show (A0 j ++ _).length ≤ 400
            rw [List.length_append, List.length_map, List.length_take]
            omega
          refine gb_for g (ev_ixL (d := .lst (dI ys)) (ev_v 3) ev_i rfl) (fun q ds M => ds = DS1 ∧ M = [(p, .lst ((A1 q).map encL))]) (fun ds M => ds = DS1 ∧ M = [(p, .lst ((A1 ys.length).map encL))]) ⟨rfl, by simp [A1]⟩ ?_ ?_ ?_
          · rintro ts2 q x ds' M' hx ⟨rfl, rfl⟩
            obtain ⟨e, he, rfl⟩ := map_get hx
            refine ⟨_, eg_n g 6, ?_⟩
            refine gb_expr (ev_app (j := 0) (xs := (A1 q).map encL) (ys := (A1 q).map encL) (ev_v 4) rfl (ev_tup (ea_cons (ev_v 5) (ea_cons (ev_v 6) ea_nil))) rfl (by rw [List.length_map]; have := hA1 q; omega)) (gb_turn (ds' := DS1) ?_ ⟨rfl, rfl, rfl, rfl, rfl, rfl, trivial⟩)
            refine ⟨rfl, ?_⟩
            have e1 : A1 (q + 1) = A1 q ++ [(o, e)] := by
              show A0 j ++ _ = _
              rw [take_snoc he, List.map_append, ← List.append_assoc]
              rfl
            rw [e1]
            exact congrArg (fun z => [(p, D.lst z)]) (List.map_append (f := encL) (l₁ := A1 q) (l₂ := [(o, e)])).symm
          · rintro ds' M' ⟨rfl, rfl⟩
            exact ⟨rfl, by rw [ints_len]⟩
          · rintro ds' M' ⟨rfl, rfl⟩
            refine gb_turn (ds' := DS) ?_ ⟨rfl, rfl, rfl, rfl, rfl, trivial⟩
            refine ⟨rfl, ?_⟩
            have e1 : A0 (j + 1) = A1 ys.length := by
              show base0 ++ jn (xs.take (j + 1)) ys = (base0 ++ jn (xs.take j) ys) ++ (ys.take ys.length).map _
              have e2 : jn (xs.take j ++ [o]) ys = jn (xs.take j) ys ++ ys.map fun e => (o, e) := by
                unfold jn
                rw [List.flatMap_append]
                simp
              rw [take_snoc ho, List.take_length, e2]
              exact (List.append_assoc _ _ _).symm
            rw [e1]
        · rintro ds' M' ⟨rfl, rfl⟩
          exact ⟨rfl, by rw [ints_len]⟩
        · rintro ds' M' ⟨rfl, rfl⟩
          have e1 : A0 xs.length = lkT (.pair false l r) i := by
            show base0 ++ jn (xs.take _) ys = _
            rw [List.take_length]
            rfl
          rw [e1]
          refine gb_retD (N := []) (ev_lst (ea_cons (ev_ixL (d := .lst (dI (enT l i))) (ev_v 2) ev_i rfl) (ea_cons (ev_ixL (d := .lst (dI (exT r (i + l.size)))) (ev_v 3) ev_i rfl) (ea_cons (ev_frz (i := 0) (d := .lst ((lkT (.pair false l r) i).map encL)) (ev_v 4)) (ea_cons (ev_catL (ev_ixL (d := .lst ((dvT l).map encDv)) (ev_v 2) ev_i rfl) (ev_ixL (d := .lst ((dvT r).map encDv)) (ev_v 3) ev_i rfl) (by rw [List.length_map, List.length_map, dvT_len, dvT_len]; omega)) ea_nil))))) (hd := ?_)
          rw [cat_dv]
          rfl

/-- the plan as a yard -/
def planY (t : Tr) : Yd := ⟨"", dvT t, srt encL (planL t)⟩
def cPlan : Ctr := fun args M Kx => ∃ t : Tr, t.size ≤ 3 ∧ args = [encT t] ∧ M = [] ∧ Kx = KD (netD (.lst (dI (enT t 0))) (.lst (dI (exT t 0))) (.lst ((lkT t 0).map encL)) (planY t)) []
theorem ok_plan0 (Fn : Fun K "_law_plan" "_law_plan" s_law_plan f fd) (T : Tx w K mg) (k : Nat) (g1 : GF P w K mg base "_law_net" k (cNet 3)) : FnOk P w K mg base CX0 (k + 1) f fd ["_law_tree_here"] (toSp w cPlan) :=
  fn_ok Fn sc_law_plan (by rintro _ _ _ ⟨t, _, rfl, _⟩; rfl) fun b F args M Kx hw hP hc hr => by
    obtain ⟨t, hz, rfl, rfl, rfl⟩ := hc
    have g := bx_good (P := P) (w := w) (K := K) (mg := mg) (base := base) (qual := "_law_plan") (b := b) sc_law_plan
    have hdep := t.dep_lt
    have a1 := en_len t 0
    have a2 := ex_len t 0
    have a3 := lk_len t 0
    have c1 := mul3 hz hz
    refine gb_set g 1 (ev_callP g1 (hr.mono (by omega)) hw (ea_cons (ev_v 0) (ea_cons ev_i ea_nil)) ⟨t, 0, by omega, by omega, rfl, rfl, rfl⟩) (gb_setK g 2 (evk_list T.list (d := .lst ((lkT t 0).map encL)) (ev_ixL (ev_v 1) ev_i rfl) (.inl rfl)) fun d M1 hd0 => ?_)
    obtain ⟨p, fp, rfl, rfl⟩ := hd0
    let DS : Slots := [some (encT t), some (netT t 0), some (.ref p), none, none]
    let A0 : Nat → List (Int × Int) := fun i => lkT t 0 ++ ((enT t 0).take i).map fun e => (-1, e)
    have hA0 : ∀ i, (A0 i).length ≤ 20 := fun i => by
      show (lkT t 0 ++ _).length ≤ 20
      rw [List.length_append, List.length_map, List.length_take]
      omega
    refine gb_for g (ev_ixL (d := .lst (dI (enT t 0))) (ev_v 1) ev_i rfl) (fun i ds M => ds = DS ∧ M = [(p, .lst ((A0 i).map encL))]) (fun ds M => ds = DS ∧ M = [(p, .lst ((A0 (enT t 0).length).map encL))]) ⟨rfl, by simp [A0]⟩ ?_ ?_ ?_
    · rintro ts' i x ds' M' hx ⟨rfl, rfl⟩
      obtain ⟨e, he, rfl⟩ := map_get hx
      refine ⟨_, eg_n g 3, ?_⟩
      refine gb_expr (ev_app (j := 0) (xs := (A0 i).map encL) (ys := (A0 i).map encL) (ev_v 2) rfl (ev_tup (ea_cons (ev_neg ev_i) (ea_cons (ev_v 3) ea_nil))) rfl (by rw [List.length_map]; have := hA0 i; omega)) (gb_turn (ds' := DS) ?_ ⟨rfl, rfl, rfl, trivial⟩)
      refine ⟨rfl, ?_⟩
      have e1 : A0 (i + 1) = A0 i ++ [(-1, e)] := by
        show lkT t 0 ++ _ = _
        rw [take_snoc he, List.map_append, ← List.append_assoc]
        rfl
      rw [e1]
      exact congrArg (fun z => [(p, D.lst z)]) (List.map_append (f := encL) (l₁ := A0 i) (l₂ := [(-1, e)])).symm
    · rintro ds' M' ⟨rfl, rfl⟩
      exact ⟨rfl, by rw [ints_len]⟩
    · rintro ds' M' ⟨rfl, rfl⟩
      let A1 : Nat → List (Int × Int) := fun i => A0 (enT t 0).length ++ ((exT t 0).take i).map fun o => (o, -1)
      have hA1 : ∀ i, (A1 i).length ≤ 40 := fun i => by
        have := hA0 (enT t 0).length
        show (A0 _ ++ _).length ≤ 40
        rw [List.length_append, List.length_map, List.length_take]
        omega
      refine gb_for g (ev_ixL (d := .lst (dI (exT t 0))) (ev_v 1) ev_i rfl) (fun i ds M => ds = DS ∧ M = [(p, .lst ((A1 i).map encL))]) (fun ds M => ds = DS ∧ M = [(p, .lst ((A1 (exT t 0).length).map encL))]) ⟨rfl, by simp [A1]⟩ ?_ ?_ ?_
      · rintro ts' i x ds' M' hx ⟨rfl, rfl⟩
        obtain ⟨o, ho, rfl⟩ := map_get hx
        refine ⟨_, eg_n g 4, ?_⟩
        refine gb_expr (ev_app (j := 0) (xs := (A1 i).map encL) (ys := (A1 i).map encL) (ev_v 2) rfl (ev_tup (ea_cons (ev_v 4) (ea_cons (ev_neg ev_i) ea_nil))) rfl (by rw [List.length_map]; have := hA1 i; omega)) (gb_turn (ds' := DS) ?_ ⟨rfl, rfl, rfl, trivial⟩)
        refine ⟨rfl, ?_⟩
        have e1 : A1 (i + 1) = A1 i ++ [(o, -1)] := by
          show A0 _ ++ _ = _
          rw [take_snoc ho, List.map_append, ← List.append_assoc]
          rfl
        rw [e1]
        exact congrArg (fun z => [(p, D.lst z)]) (List.map_append (f := encL) (l₁ := A1 i) (l₂ := [(o, -1)])).symm
      · rintro ds' M' ⟨rfl, rfl⟩
        exact ⟨rfl, by rw [ints_len]⟩
      · rintro ds' M' ⟨rfl, rfl⟩
        have e1 : A1 (exT t 0).length = planL t := by
          show (lkT t 0 ++ ((enT t 0).take _).map _) ++ ((exT t 0).take _).map _ = lkT t 0 ++ (_ ++ _)
          rw [List.take_length, List.take_length, List.append_assoc]
        rw [e1]
        exact gb_retD (N := []) (ev_catL (xs := [.lst (dI (enT t 0)), .lst (dI (exT t 0)), .lst ((lkT t 0).map encL), .lst ((dvT t).map encDv)]) ((ev_slL po_none (po_some pe_s) (ev_v 1) eo_none (eo_some ev_i)).eq rfl) (ev_lst (ea_cons (ev_sorted (enc := encL) (xs := planL t) (pv1 hr) T.sorted (ev_frz (i := 0) (d := .lst ((planL t).map encL)) (ev_v 2)) (fun _ _ => rfl) (fun _ _ _ _ => rfl) (.inl fun l _ => ⟨_, _, rfl⟩) fun l _ => by show (PyData.tuple [.int l.1, .int l.2]).depth ≤ 32; simp [PyData.depth, PyData.depthAll]) ea_nil)) (Nat.le_of_ble_eq_true rfl))
end
end K23

set_option maxHeartbeats 1000000
/-! The law's tree, row, drawn. -/
namespace K23
open PySem PySem.Spec PyProof.Rows L2

def ltr (i : Int) : Kd := ([.s, .s, .q, .d, .i, .o] : List Kd).getD i.toNat .s
theorem Ev.perm {F : Fm} {ds : Slots} {M M1 M2 : Cells} {d : D} {te : TE} (h : Ev F ds M te d M1) (p : M1.Perm M2) : Ev F ds M te d M2 := fun ts σ H A Q k => h ts σ H A Q fun v H' A' => k v H' (A'.perm p)
theorem ltr_at {i : Int} (h0 : 0 ≤ i) (h : i < 6) : atI [D.str "s", .str "s", .str "q", .str "d", .str "i", .str "o"] i = some (.str (ltr i).str) := by
  have : i = 0 ∨ i = 1 ∨ i = 2 ∨ i = 3 ∨ i = 4 ∨ i = 5 := by omega
  rcases this with e | e | e | e | e | e <;> subst e <;> rfl
def treeM : Nat → List Int → Nat → Tr × List Int
  | 0, ds, _ => (.dev .s 0, ds)
  | n + 1, ds, room =>
    if room < 2 ∨ nextI ds % 7 < 4 then (.dev (ltr (nextI ds.dropLast % 6)) (nextI ds.dropLast.dropLast % 5).toNat, ds.dropLast.dropLast.dropLast)
    else (.pair (decide (nextI ds % 7 % 2 = 1)) (treeM n ds.dropLast (room - 1)).1 (treeM n (treeM n ds.dropLast (room - 1)).2 (room - (treeM n ds.dropLast (room - 1)).1.size)).1, (treeM n (treeM n ds.dropLast (room - 1)).2 (room - (treeM n ds.dropLast (room - 1)).1.size)).2)
theorem tree_fits : ∀ (n : Nat) (ds : List Int) (room : Nat), 1 ≤ room → (treeM n ds room).1.ok ∧ (treeM n ds room).1.size ≤ room
  | 0, ds, room, h => ⟨Nat.zero_le _, h⟩
  | n + 1, ds, room, h => by
    unfold treeM
    by_cases hc : room < 2 ∨ nextI ds % 7 < 4
    · rw [if_pos hc]
      refine ⟨?_, h⟩
      show (nextI ds.dropLast.dropLast % 5).toNat ≤ 4
      omega
    · rw [if_neg hc]
      have h1 := tree_fits n ds.dropLast (room - 1) (by omega)
      have h2 := tree_fits n (treeM n ds.dropLast (room - 1)).2 (room - (treeM n ds.dropLast (room - 1)).1.size) (by omega)
      refine ⟨⟨h1.1, h2.1⟩, ?_⟩
      show _ + _ ≤ room
      omega
section
variable {P : Program} {w : World} {K : PySem.W.Frag} {mg : Str → Option Value} {base : Heap} {f : Addr} {fd : FuncData}
def cTree (n : Nat) : Ctr := fun args M Kx => ∃ (q : Addr) (ds : List Int) (room : Nat), 1 ≤ room ∧ room ≤ n ∧ room ≤ 3 ∧ args = [.ref q, .int room] ∧ M = [(q, encRow ds)] ∧ Kx = KD (encT (treeM n ds room).1) [(q, encRow (treeM n ds room).2)]
theorem ok_tree0 (Fn : Fun K "_law_tree" "_law_tree" s_law_tree f fd) (T : Tx w K mg) (n k k2 : Nat) (hk : 1 ≤ k) (hk2 : k2 ≤ k) (g0 : GF P w K mg base "_law_next" 1 cNext) (gn : GF P w K mg base "_law_net" k2 (cNet 3)) (g1 : ∀ m, m + 1 = n → GF P w K mg base "_law_tree" k (cTree m)) :
    FnOk P w K mg base CX0 (k + 1) f fd ["_law_draws_here", "_law_room"] (toSp w (cTree n)) :=
  fn_ok Fn sc_law_tree (by rintro _ _ _ ⟨q, ds, room, _, _, _, rfl, _⟩; rfl) fun b F args M Kx hw hP hc hr => by
    obtain ⟨q, ds, room, h1, h2, h3, rfl, rfl, rfl⟩ := hc
    have g := bx_good (P := P) (w := w) (K := K) (mg := mg) (base := base) (qual := "_law_tree") (b := b) sc_law_tree
    obtain ⟨m, rfl⟩ : ∃ m, n = m + 1 := ⟨n - 1, by omega⟩
    have gt := g1 m rfl
    refine gb_set g 2 (ev_mod (ev_int T.int (ev_call (Min := [(q, encRow ds)]) (Mr := []) g0 (hr.mono (by omega)) hw (ea_cons (ev_v 0) ea_nil) ⟨q, ds, rfl, rfl, rfl⟩ (List.Perm.refl _))) ev_i) ?_
    refine gb_when (M1 := [(q, encRow ds.dropLast)]) (et_or (et_lt (ev_v 1) ev_i) fun _ => et_lt (ev_v 2) ev_i) (fun h => ?_) fun h => ?_
    · have hc : room < 2 ∨ nextI ds % 7 < 4 := by
        rw [Bool.or_eq_true, decide_eq_true_eq, decide_eq_true_eq] at h
        omega
      refine gb_set g 3 (ev_ixL (d := .str (ltr (nextI ds.dropLast % 6)).str) (ev_lst (ea_cons ev_s (ea_cons ev_s (ea_cons ev_s (ea_cons ev_s (ea_cons ev_s (ea_cons ev_s ea_nil))))))) (ev_mod (ev_int T.int (ev_call (Min := [(q, encRow ds.dropLast)]) (Mr := []) g0 (hr.mono (by omega)) hw (ea_cons (ev_v 0) ea_nil) ⟨q, ds.dropLast, rfl, rfl, rfl⟩ (List.Perm.refl _))) ev_i) (ltr_at (by omega) (by omega))) ?_
      refine gb_retD (N := []) (ev_lst (ea_cons ev_s (ea_cons (ev_v 3) (ea_cons (ev_mod (ev_int T.int (ev_call (Min := [(q, encRow ds.dropLast.dropLast)]) (Mr := []) g0 (hr.mono (by omega)) hw (ea_cons (ev_v 0) ea_nil) ⟨q, ds.dropLast.dropLast, rfl, rfl, rfl⟩ (List.Perm.refl _))) ev_i) ea_nil)))) (hd := ?_) (hp := ?_)
      · unfold treeM
        rw [if_pos hc]
        show D.lst [.str "device", .str (ltr (nextI ds.dropLast % 6)).str, .int (nextI ds.dropLast.dropLast % 5)] = .lst [.str "device", .str (ltr (nextI ds.dropLast % 6)).str, .int (((nextI ds.dropLast.dropLast % 5).toNat : Nat) : Int)]
        rw [Int.toNat_of_nonneg (by omega)]
      · unfold treeM
        rw [if_pos hc]
    · have hc : ¬ (room < 2 ∨ nextI ds % 7 < 4) := by
        rw [Bool.or_eq_false_iff, decide_eq_false_iff_not, decide_eq_false_iff_not] at h
        omega
      have f1 := tree_fits m ds.dropLast (room - 1) (by omega)
      have f2 := (treeM m ds.dropLast (room - 1)).1.dep_lt
      let t1 := (treeM m ds.dropLast (room - 1)).1
      let ds1 := (treeM m ds.dropLast (room - 1)).2
      have f3 : t1.size ≤ room - 1 := f1.2
      have f4 := t1.pos
      have f5 : t1.dep < t1.size := f2
      refine gb_set g 4 (ev_call (Min := [(q, encRow ds.dropLast)]) (Mr := []) gt (hr.mono (by omega)) hw (ea_cons (ev_v 0) (ea_cons ((ev_sub (ev_v 1) ev_i).eq (d1 := .int ((room - 1 : Nat) : Int)) (by rw [Int.ofNat_sub h1]; rfl)) ea_nil)) ⟨q, ds.dropLast, room - 1, by omega, by omega, by omega, rfl, rfl, rfl⟩ (List.Perm.refl _)) ?_
      refine gb_set g 5 ((ev_sub (ev_v 1) (ev_lenL T.len (ev_ixL (d := .lst ((dvT t1).map encDv)) (ev_callP gn (hr.mono (by omega)) hw (ea_cons (ev_v 4) (ea_cons ev_i ea_nil)) ⟨t1, 0, by omega, by omega, rfl, rfl, rfl⟩) ev_i rfl))).eq (d1 := .int ((room - t1.size : Nat) : Int)) (by rw [List.length_map, dvT_len, Int.ofNat_sub (by omega)])) ?_
      refine gb_retD (N := []) (ev_lst (ea_cons (ev_ixL (d := .str (opS (decide (nextI ds % 7 % 2 = 1)))) (xs := [.str "(", .str "["]) (ev_lst (ea_cons ev_s (ea_cons ev_s ea_nil))) (ev_mod (ev_int T.int (ev_v 2)) ev_i) ?_) (ea_cons (ev_v 4) (ea_cons (ev_call (Min := [(q, encRow ds1)]) (Mr := []) gt (hr.mono (by omega)) hw (ea_cons (ev_v 0) (ea_cons (ev_v 5) ea_nil)) ⟨q, ds1, room - t1.size, by omega, by omega, by omega, rfl, rfl, rfl⟩ (List.Perm.refl _)) ea_nil)))) (hd := ?_) (hp := ?_)
      · have : nextI ds % 7 % 2 = 0 ∨ nextI ds % 7 % 2 = 1 := by omega
        rcases this with e | e <;> rw [e] <;> rfl
      · show _ = encT (treeM (m + 1) ds room).1
        conv => rhs; unfold treeM; rw [if_neg hc]
        rfl
      · show List.Perm _ (_ ++ _)
        have e : (treeM (m + 1) ds room).2 = (treeM m ds1 (room - t1.size)).2 := by
          conv => lhs; unfold treeM; rw [if_neg hc]
        rw [e]
def cRow : Ctr := fun args M Kx => ∃ (q : Addr) (ds : List Int) (n : Nat), n ≤ 5 ∧ args = [.ref q, .int n] ∧ M = [(q, encRow ds)] ∧ Kx = fun d M' => ∃ (row ds' : List Int), d = encRow row ∧ IsRow row ∧ row.length = n ∧ M' = [(q, encRow ds')]
theorem ok_row (Fn : Fun K "_law_row" "_law_row" s_law_row f fd) (T : Tx w K mg) (g0 : GF P w K mg base "_law_next" 1 cNext) : FnOk P w K mg base CX0 2 f fd ["_law_draws_here", "_law_size"] (toSp w cRow) :=
  fn_ok Fn sc_law_row (by rintro _ _ _ ⟨q, ds, n, _, rfl, _⟩; rfl) fun b F args M Kx hw hP hc hr => by
    obtain ⟨q, ds, n, hn, rfl, rfl, rfl⟩ := hc
    have g := bx_good (P := P) (w := w) (K := K) (mg := mg) (base := base) (qual := "_law_row") (b := b) sc_law_row
    refine gb_setK g 2 (ev_lstC ea_nil) fun d M1 hd0 => ?_
    obtain ⟨p, fp, rfl, rfl⟩ := hd0
    let DS : Slots := [some (.ref q), some (.int n), some (.ref p), none]
    refine gb_forR2 g (lo := 1) (hi := n + 1) T.range ev_i ((ev_add (ev_v 1) ev_i).eq (by rfl)) (by decide) (by omega) (fun i ds M => ds = DS ∧ ∃ row ds', M = [(p, encRow row), (q, encRow ds')] ∧ row.Perm (iota i)) (fun ds M => ds = DS ∧ ∃ row ds', M = [(p, encRow row), (q, encRow ds')] ∧ row.Perm (iota n)) ⟨rfl, [], ds, rfl, List.Perm.refl _⟩ ?_ ?_ ?_
    · rintro ts' i ds' M' hi ⟨rfl, row, ds1, rfl, hp⟩
      have hl : row.length = i := by rw [hp.length_eq, iota_len]
      refine ⟨_, eg_n g 3, ?_⟩
      have hpos : 0 < row.length + 1 := by omega
      let j : Int := nextI ds1 % (row.length + 1)
      have hj0 : 0 ≤ j := Int.emod_nonneg _ (by omega)
      have hj1 : j < row.length + 1 := Int.emod_lt_of_pos _ (by omega)
      refine gb_expr (ev_insert (j := 0) (i := j) (xs := dI row) (ys := dI row) (ev_v 2) rfl ((ev_mod (ev_int T.int ((evk_call (Min := [(q, encRow ds1)]) (Mr := [(p, encRow row)]) g0 (hr.mono (by decide)) hw (ea_cons (ev_v 0) ea_nil) ⟨q, ds1, rfl, rfl, rfl⟩ (List.Perm.swap _ _ _)).one.perm (List.Perm.swap _ _ _))) (ev_add (ev_lenC (j := 0) (xs := dI row) T.len (ev_v 2) rfl) ev_i) (by rw [ints_len]; omega)).eq (by rw [ints_len])) (ev_v 3) rfl (by rw [ints_len]; omega) hj0 (by omega)) (gb_turn (ds' := DS) ?_ ⟨rfl, rfl, rfl, trivial⟩)
      refine ⟨rfl, row.take j.toNat ++ [((1 : Nat) : Int) + (i : Nat)] ++ row.drop j.toNat, ds1.dropLast, ?_, ?_⟩
      · have e : (dI row).take j.toNat ++ [D.int (((1 : Nat) : Int) + (i : Nat))] ++ (dI row).drop j.toNat = dI (row.take j.toNat ++ [((1 : Nat) : Int) + (i : Nat)] ++ row.drop j.toNat) := by
          unfold dI
          rw [List.map_append, List.map_append, List.map_take, List.map_drop]
          rfl
        show [(p, D.lst _), (q, encRow ds1.dropLast)] = _
        rw [e]
        rfl
      · rw [iota_succ]
        have e0 : row.take j.toNat ++ row.drop j.toNat = row := List.take_append_drop _ _
        have h1 : (row.take j.toNat ++ [((1 : Nat) : Int) + (i : Nat)] ++ row.drop j.toNat).Perm (row ++ [((1 : Nat) : Int) + (i : Nat)]) := by
          rw [List.append_assoc]
          refine List.perm_middle.trans ?_
          show (_ :: (row.take j.toNat ++ row.drop j.toNat)).Perm _
          rw [e0]
          exact List.perm_append_comm (l₁ := [((1 : Nat) : Int) + (i : Nat)])
        exact h1.trans (hp.append_right _)
    · rintro ds' M' ⟨rfl, row, ds1, rfl, hp⟩
      exact ⟨rfl, row, ds1, rfl, hp⟩
    · rintro ds' M' ⟨rfl, row, ds1, rfl, hp⟩
      have hl : row.length = n := by rw [hp.length_eq, iota_len]
      refine gb_ret (Mo := [(q, encRow ds1)]) (N := []) (ev_frz (i := 0) (d := encRow row) (ev_v 2)) ?_ (List.Perm.refl _)
      refine ⟨row, ds1, rfl, ?_, hl, rfl⟩
      unfold IsRow
      rw [hl]
      exact hp

def cDrawn : Ctr := fun args M Kx => ∃ (q : Addr) (ds : List Int), args = [.ref q, .int 5] ∧ M = [(q, encRow ds)] ∧ Kx = fun d M' => ∃ (t : Tr) (row : List Int) (ds' : List Int), t.ok ∧ t.size ≤ 3 ∧ IsRow row ∧ row.length ≤ 5 ∧ Small t.size row.length ∧
  d = .lst [encT t, netD (.lst (dI (enT t 0))) (.lst (dI (exT t 0))) (.lst ((lkT t 0).map encL)) (planY t), encRow row] ∧ M' = [(q, encRow ds')]
theorem ok_drawn (Fn : Fun K "_law_drawn" "_law_drawn" s_law_drawn f fd) (T : Tx w K mg) (k1 k2 k : Nat) (h1 : k1 ≤ k) (h2 : k2 ≤ k) (h3 : 2 ≤ k) (g0 : GF P w K mg base "_law_next" 1 cNext) (g1 : GF P w K mg base "_law_tree" k1 (cTree 3)) (g2 : GF P w K mg base "_law_plan" k2 cPlan) (g3 : GF P w K mg base "_law_row" 2 cRow) :
    FnOk P w K mg base CX0 (k + 1) f fd ["_law_draws_here", "_law_most"] (toSp w cDrawn) :=
  fn_ok Fn sc_law_drawn (by rintro _ _ _ ⟨q, ds, rfl, _⟩; rfl) fun b F args M Kx hw hP hc hr => by
    obtain ⟨q, ds, rfl, rfl, rfl⟩ := hc
    have g := bx_good (P := P) (w := w) (K := K) (mg := mg) (base := base) (qual := "_law_drawn") (b := b) sc_law_drawn
    let room : Nat := (1 + nextI ds % 3).toNat
    have hroom : (room : Int) = 1 + nextI ds % 3 := Int.toNat_of_nonneg (by omega)
    have f1 := tree_fits 3 ds.dropLast room (by omega)
    let t := (treeM 3 ds.dropLast room).1
    let d1 := (treeM 3 ds.dropLast room).2
    have f2 : t.size ≤ 3 := by have := f1.2; show (treeM 3 ds.dropLast room).1.size ≤ 3; omega
    have f3 := t.pos
    refine gb_set g 2 (ev_call (Min := [(q, encRow ds.dropLast)]) (Mr := []) g1 (hr.mono (by omega)) hw (ea_cons (ev_v 0) (ea_cons ((ev_add ev_i (ev_mod (ev_int T.int (ev_call (Min := [(q, encRow ds)]) (Mr := []) g0 (hr.mono (by omega)) hw (ea_cons (ev_v 0) ea_nil) ⟨q, ds, rfl, rfl, rfl⟩ (List.Perm.refl _))) ev_i)).eq (d1 := .int (room : Int)) (by rw [hroom])) ea_nil)) ⟨q, ds.dropLast, room, by omega, by omega, by omega, rfl, rfl, rfl⟩ (List.Perm.refl _)) ?_
    refine gb_set g 3 (ev_callP g2 (hr.mono (by omega)) hw (ea_cons (ev_v 2) ea_nil) ⟨t, f2, rfl, rfl, rfl⟩) ?_
    refine gb_set g 4 (ev_mod (ev_int T.int (ev_call (Min := [(q, encRow d1)]) (Mr := []) g0 (hr.mono (by omega)) hw (ea_cons (ev_v 0) ea_nil) ⟨q, d1, rfl, rfl, rfl⟩ (List.Perm.refl _))) (ev_add (ev_v 1) ev_i)) ?_
    let a : Int := nextI d1 % (5 + 1)
    let c : Int := 5 + 1 - (t.size : Int) + nextI d1.dropLast % 8 / 7
    have ha0 : 0 ≤ a := Int.emod_nonneg _ (by decide)
    have ha1 : a < 6 := Int.emod_lt_of_pos _ (by decide)
    have hq : 0 ≤ nextI d1.dropLast % 8 / 7 ∧ nextI d1.dropLast % 8 / 7 ≤ 1 := by omega
    let n : Nat := (if c < a then c else a).toNat
    have hn : (n : Int) = if c < a then c else a := Int.toNat_of_nonneg (by
      split
      · show 0 ≤ 5 + 1 - (t.size : Int) + nextI d1.dropLast % 8 / 7
        omega
      · exact ha0)
    have hn5 : n ≤ 5 ∧ (n : Int) ≤ 7 - t.size := by
      have hc : c = 5 + 1 - (t.size : Int) + nextI d1.dropLast % 8 / 7 := rfl
      by_cases hca : c < a
      · rw [if_pos hca] at hn
        omega
      · rw [if_neg hca] at hn
        omega
    refine gb_set g 4 ((ev_min rfl T.min (ev_v 4) (ev_add (ev_sub (ev_add (ev_v 1) ev_i) (ev_lenL T.len (ev_ixL (d := .lst ((dvT t).map encDv)) (ev_v 3) ev_i rfl))) (ev_fdiv (ev_mod (ev_int T.int (ev_call (Min := [(q, encRow d1.dropLast)]) (Mr := []) g0 (hr.mono (by omega)) hw (ea_cons (ev_v 0) ea_nil) ⟨q, d1.dropLast, rfl, rfl, rfl⟩ (List.Perm.refl _))) ev_i) ev_i))).eq (d1 := .int (n : Int)) (by rw [hn, List.length_map, dvT_len])) ?_
    refine gb_retK (evk_lstA (eak_cons (ev_v 2) (eak_cons (ev_v 3) (eak_last (evk_call (Min := [(q, encRow d1.dropLast.dropLast)]) (Mr := []) g3 (hr.mono (by omega)) hw (ea_cons (ev_v 0) (ea_cons (ev_v 4) ea_nil)) ⟨q, d1.dropLast.dropLast, n, hn5.1, rfl, rfl, rfl⟩ (List.Perm.refl _))))) (by rintro xs M' ⟨ys, rfl, zs, rfl, d, rfl, _⟩; exact Nat.le_of_ble_eq_true rfl)) ?_
    rintro d M1 ⟨xs, rfl, ys, rfl, zs, rfl, d3, rfl, Mo, ⟨row, ds', rfl, hrow, hl, rfl⟩, rfl⟩
    refine ⟨_, [], ⟨t, row, ds', f1.1, f2, hrow, by omega, ?_, rfl, rfl⟩, List.Perm.refl _⟩
    rw [hl]
    have : t.size = 1 ∨ t.size = 2 ∨ t.size = 3 := by omega
    rcases this with e | e | e
    · rw [e]; exact small_1 hn5.1
    · rw [e]; exact small_2 hn5.1
    · rw [e]; exact small_3 (by omega)
end
end K23

set_option maxHeartbeats 1000000
/-! Reading a yard: places in a tree; sign, device, joined. -/
namespace K23
open PySem PySem.Spec PyProof.Rows L2

inductive Fr where
  | L (s : Bool) (r : Tr)
  | R (s : Bool) (l : Tr)
abbrev Ctx := List Fr
def restC : Ctx → List Nat
  | [] => []
  | .L s r :: c => 32 :: (toldL r ++ clc s :: restC c)
  | .R s _ :: c => clc s :: restC c
def preD : Ctx → Devs
  | [] => []
  | .L _ _ :: c => preD c
  | .R _ l :: c => preD c ++ dvT l
def nC (c : Ctx) : Nat := (preD c).length
def lkC : Ctx → List (Int × Int)
  | [] => []
  | .L _ _ :: c => lkC c
  | .R _ l :: c => lkC c ++ lkT l (nC c)
def plug : Ctx → Tr → Tr
  | [], t => t
  | .L s r :: c, t => plug c (.pair s t r)
  | .R s l :: c, t => plug c (.pair s l t)
theorem plug_size : ∀ (c : Ctx) (t : Tr), c.length + t.size ≤ (plug c t).size
  | [], t => by
    show 0 + t.size ≤ t.size
    omega
  | .L s r :: c, t => by
    have h := plug_size c (.pair s t r)
    have h2 := r.pos
    have e : (Tr.pair s t r).size = t.size + r.size := rfl
    show c.length + 1 + t.size ≤ (plug c (.pair s t r)).size
    omega
  | .R s l :: c, t => by
    have h := plug_size c (.pair s l t)
    have h2 := l.pos
    have e : (Tr.pair s l t).size = l.size + t.size := rfl
    show c.length + 1 + t.size ≤ (plug c (.pair s l t)).size
    omega
theorem nC_size : ∀ (c : Ctx) (t : Tr), nC c + t.size ≤ (plug c t).size
  | [], t => by
    show 0 + t.size ≤ t.size
    omega
  | .L s r :: c, t => by
    have h := nC_size c (.pair s t r)
    have e : (Tr.pair s t r).size = t.size + r.size := rfl
    show nC c + t.size ≤ (plug c (.pair s t r)).size
    omega
  | .R s l :: c, t => by
    have h := nC_size c (.pair s l t)
    have e : (Tr.pair s l t).size = l.size + t.size := rfl
    show (preD c ++ dvT l).length + t.size ≤ (plug c (.pair s l t)).size
    have e2 : (preD c).length = nC c := rfl
    rw [List.length_append, dvT_len]
    omega
theorem plug_ok : ∀ (c : Ctx) (t : Tr), (plug c t).ok → t.ok
  | [], _, h => h
  | .L s r :: c, t, h => (plug_ok c (.pair s t r) h).1
  | .R s l :: c, t, h => (plug_ok c (.pair s l t) h).2
/-- a yard as the reading tells it -/
def yv (en ex : List Int) : D := .tup [.lst (dI en), .lst (dI ex)]
def yvT (t : Tr) (n : Nat) : D := yv (enT t n) (exT t n)
abbrev rN : List Str := ["text", "at", "kinds", "bounds", "links", "groups"]
abbrev gN : List Str := ["sign", "yards"]
structure Rd where
  q : Addr
  k : Addr
  b : Addr
  l : Addr
  g : Addr
abbrev rObj (RC : Addr) (r : Rd) (text : Str) (p : Nat) : Addr × D := (r.q, .ins RC rN [.str text, .int p, .ref r.k, .ref r.b, .ref r.l, .ref r.g])
abbrev Gr := List (Addr × Addr)
def refs (as : Gr) : List D := (as.map fun a => D.ref a.1).reverse
abbrev rRest (r : Rd) (devs : Devs) (links : List (Int × Int)) (as : Gr) : Cells := [(r.k, .lst (devs.map encK)), (r.b, .lst (devs.map fun x => encB x.2)), (r.l, .lst (links.map encL)), (r.g, .lst (refs as))]
abbrev rCells (RC : Addr) (r : Rd) (text : Str) (p : Nat) (devs : Devs) (links : List (Int × Int)) (as : Gr) : Cells := rObj RC r text p :: rRest r devs links as
def frS : Fr → Bool
  | .L s _ => s
  | .R s _ => s
def frY : Fr → Ctx → List D
  | .L _ _, _ => []
  | .R _ l, c => [yvT l (nC c)]
abbrev gObj (GC : Addr) (a : Addr × Addr) (s : Bool) : Addr × D := (a.1, .ins GC gN [.str (opS s), .ref a.2])
def gC (GC : Addr) : Ctx → Gr → Cells
  | f :: c, a :: as => gObj GC a (frS f) :: (a.2, .lst (frY f c)) :: gC GC c as
  | _, _ => []
structure TR (w : World) (K : PySem.W.Frag) (mg : Str → Option Value) (RC GC : Addr) : Prop where
  cls : Cls K RC
  text : NoAttr K RC "text"
  at_ : NoAttr K RC "at"
  kinds : NoAttr K RC "kinds"
  bounds : NoAttr K RC "bounds"
  links : NoAttr K RC "links"
  groups : NoAttr K RC "groups"
  gcls : Cls K GC
  sign : NoAttr K GC "sign"
  yards : NoAttr K GC "yards"
  closing : ∃ q es n, GV mg "CLOSING" (.ref q) ∧ KDict K w q es n ∧ (∀ s, ∃ u, PySem.W.nsIn K q (opS s) = some (some u)) ∧ (∀ k : Kd, PySem.W.nsIn K q k.str = some none) ∧ ∀ s, KDct K w q (opS s) (.str (clS s))
theorem sgn_cons (c : Nat) (l : List Nat) : sgn (c :: l) = ⟨#[c]⟩ := rfl
theorem sgn_ne (c : Nat) (l : List Nat) : ¬ sgn (c :: l) = "" := fun h => by
  have h1 := congrArg (fun z : Str => z.cps.size) h
  have h2 : (("" : Str)).cps.size = 0 := by decide +kernel
  have h3 : (sgn (c :: l)).cps.size = 1 := rfl
  simp only [h3] at h1
  rw [h2] at h1
  cases h1
section
variable {P : Program} {w : World} {K : PySem.W.Frag} {mg : Str → Option Value} {base : Heap} {f : Addr} {fd : FuncData} {RC GC : Addr}
def cGInit (GC : Addr) : Ctr := fun args M Kx => ∃ (g : Addr) (z : Str), args = [.ref g, .str z] ∧ M = [(g, .ins GC [] [])] ∧ Kx = fun d M' => d = .non ∧ ∃ gy, M' = [(g, .ins GC gN [.str z, .ref gy]), (gy, .lst [])]
theorem ok_ginit (Fn : Fun K "__init__" "Group.__init__" s_Group_init f fd) (R : TR w K mg RC GC) : FnOk P w K mg base CX0 1 f fd ["self", "sign"] (toSp w (cGInit GC)) :=
  fn_ok Fn sc_Group_init (by rintro _ _ _ ⟨g, z, rfl, _⟩; rfl) fun b F args M Kx hw hP hc hr => by
    obtain ⟨q, z, rfl, rfl, rfl⟩ := hc
    refine gb_fldNew (j := 0) (q := q) (C := GC) (ns := []) (xs := []) R.gcls R.sign (ev_v 1) (ev_v 0) (gb_fldNewK (j := 1) (q := q) (C := GC) (ns := ["sign"]) (xs := [.str z]) R.gcls R.yards (ev_lstC ea_nil) (fun d M1 h => ?_) (fun d M1 h => ?_))
    · obtain ⟨p, fp, rfl, rfl⟩ := h
      exact ⟨ev_v 0, rfl⟩
    obtain ⟨p, fp, rfl, rfl⟩ := h
    refine gb_off (Mo := [(q, .ins GC gN [.str z, .ref p]), (p, .lst [])]) (N := []) ?_ (List.Perm.swap _ _ _)
    exact ⟨rfl, p, rfl⟩
def cRInit (RC : Addr) : Ctr := fun args M Kx => ∃ (q : Addr) (z : Str), args = [.ref q, .str z] ∧ M = [(q, .ins RC [] [])] ∧ Kx = fun d M' => d = .non ∧ ∃ k b l g, M' = rCells RC ⟨q, k, b, l, g⟩ z 0 [] [] []
theorem ok_rinit (Fn : Fun K "__init__" "Reading.__init__" s_Reading_init f fd) (R : TR w K mg RC GC) : FnOk P w K mg base CX0 1 f fd ["self", "text"] (toSp w (cRInit RC)) :=
  fn_ok Fn sc_Reading_init (by rintro _ _ _ ⟨g, z, rfl, _⟩; rfl) fun b F args M Kx hw hP hc hr => by
    obtain ⟨q, z, rfl, rfl, rfl⟩ := hc
    refine gb_fldNew (j := 0) (q := q) (C := RC) (ns := []) (xs := []) R.cls R.text (ev_v 1) (ev_v 0) (gb_fldNew (j := 0) (q := q) (C := RC) (ns := ["text"]) (xs := [.str z]) R.cls R.at_ ev_i (ev_v 0) (gb_fldNewK (j := 1) (q := q) (C := RC) (ns := ["text", "at"]) (xs := [.str z, .int 0]) R.cls R.kinds (ev_lstC ea_nil) (fun d M1 h => ?_) (fun d M1 h => ?_)))
    · obtain ⟨p, fp, rfl, rfl⟩ := h
      exact ⟨ev_v 0, rfl⟩
    obtain ⟨pk, fpk, rfl, rfl⟩ := h
    refine gb_fldNewK (j := 2) (q := q) (C := RC) (ns := ["text", "at", "kinds"]) (xs := [.str z, .int 0, .ref pk]) R.cls R.bounds (ev_lstC ea_nil) (fun d M1 h => ?_) (fun d M1 h => ?_)
    · obtain ⟨p, fp, rfl, rfl⟩ := h
      exact ⟨ev_v 0, rfl⟩
    obtain ⟨pb, fpb, rfl, rfl⟩ := h
    refine gb_fldNewK (j := 3) (q := q) (C := RC) (ns := ["text", "at", "kinds", "bounds"]) (xs := [.str z, .int 0, .ref pk, .ref pb]) R.cls R.links (ev_lstC ea_nil) (fun d M1 h => ?_) (fun d M1 h => ?_)
    · obtain ⟨p, fp, rfl, rfl⟩ := h
      exact ⟨ev_v 0, rfl⟩
    obtain ⟨pl, fpl, rfl, rfl⟩ := h
    refine gb_fldNewK (j := 4) (q := q) (C := RC) (ns := ["text", "at", "kinds", "bounds", "links"]) (xs := [.str z, .int 0, .ref pk, .ref pb, .ref pl]) R.cls R.groups (ev_lstC ea_nil) (fun d M1 h => ?_) (fun d M1 h => ?_)
    · obtain ⟨p, fp, rfl, rfl⟩ := h
      exact ⟨ev_v 0, rfl⟩
    obtain ⟨pg, fpg, rfl, rfl⟩ := h
    refine gb_off (Mo := rCells RC ⟨q, pk, pb, pl, pg⟩ z 0 [] [] []) (N := []) ?_ (List.reverse_perm _).symm
    exact ⟨rfl, pk, pb, pl, pg, rfl⟩
def cSign (RC : Addr) : Ctr := fun args M Kx => ∃ (r : Rd) (z : Str) (p : Nat), z.length ≤ 1000 ∧ args = [.ref r.q] ∧ M = [rObj RC r z p] ∧ Kx = KD (.str (sgn (z.cps.toList.drop p))) M
theorem ok_sign (Fn : Fun K "sign" "Reading.sign" s_Reading_sign f fd) (R : TR w K mg RC GC) : FnOk P w K mg base CX0 1 f fd ["self"] (toSp w (cSign RC)) :=
  fn_ok Fn sc_Reading_sign (by rintro _ _ _ ⟨r, z, p, _, rfl, _⟩; rfl) fun b F args M Kx hw hP hc hr => by
    obtain ⟨r, z, p, hz, rfl, rfl, rfl⟩ := hc
    refine gb_retD (N := []) (ev_slS (ev_fld (d := .str z) (j := 0) R.cls R.text (ev_v 0) (.cell 0)) (ev_fld (d := .int p) (j := 1) R.cls R.at_ (ev_v 0) (.cell 0)) (ev_add (ev_fld (d := .int p) (j := 1) R.cls R.at_ (ev_v 0) (.cell 0)) ev_i) (by omega)) (hd := ?_)
    rw [cut_sgn]
end
section
variable {X : Cx} {F : Fm} {ds : Slots} {M1 Mr : Cells} {o : Expr} {pos apos : Pos} {RC : Addr} {r : Rd} {z : Str} {p j : Nat}
/-- self.sign() -/
theorem ev_sign {pl : Sem Bool} {M : Cells} (c : Cls X.K RC) (Fn : MF X.prog X.w X.K X.mg X.base RC "sign" j (cSign RC)) (hr : Room j X.A) (hw : F.w = X.w) (hz : z.length ≤ 1000) (ho : EV X F ds M o (.ref r.q) (rObj RC r z p :: Mr))
    (ht : eval (.Call (.Attribute o "sign" apos) [] [] pos) X.env = (do
      let ov ← eval o X.env
      standAt apos.atName
      let (f, first) ← holding [ov] (getMethod ov "sign" pl)
      callWith pos f first (backTo pos (starEach [] X.env)) (backToKw pos (keywordEach [] X.env))) := by rfl) : EV X F ds M (.Call (.Attribute o "sign" apos) [] [] pos) (.str (sgn (z.cps.toList.drop p))) (rObj RC r z p :: Mr) :=
  (evk_meth0 (A0 := RC) (Min := [rObj RC r z p]) (Mr := Mr) c Fn hr hw ho (.cell 0) ⟨r, z, p, hz, rfl, rfl, rfl⟩ (List.Perm.refl _) (ht := ht)).one
end
end K23

set_option maxHeartbeats 1000000
/-! device, joined. -/
namespace K23
open PySem PySem.Spec PyProof.Rows L2

/-- what may stand behind a device -/
def Tail (l : List Nat) : Prop := l = [] ∨ ∃ c r, l = c :: r ∧ (c = 32 ∨ c = 41 ∨ c = 93)
theorem restC_tail : ∀ c : Ctx, Tail (restC c)
  | [] => .inl rfl
  | .L s r :: c => .inr ⟨32, _, rfl, .inl rfl⟩
  | .R s l :: c => .inr ⟨clc s, _, rfl, by cases s <;> simp [clc]⟩
def inB (z : Str) : Bool := !(Builtin.Str.occurrences ("123456" : Str) z 0 ("123456" : Str).length 1).isEmpty
theorem inB_no {c : Nat} (h : c = 32 ∨ c = 41 ∨ c = 93) : inB ⟨#[c]⟩ = false := by
  rcases h with e | e | e <;> subst e <;> decide +kernel
theorem inB_yes {b : Nat} (h : b ≤ 4) (h0 : b ≠ 0) : inB ⟨#[48 + b]⟩ = true := by
  have : b = 1 ∨ b = 2 ∨ b = 3 ∨ b = 4 := by omega
  rcases this with e | e | e | e <;> subst e <;> decide +kernel
theorem int_dig {b : Nat} (h : b ≤ 4) (h0 : b ≠ 0) : PySem.intText? ⟨#[48 + b]⟩ = some (b : Int) := by
  have : b = 1 ∨ b = 2 ∨ b = 3 ∨ b = 4 := by omega
  rcases this with e | e | e | e <;> subst e <;> decide +kernel
theorem drop_cons {α : Type} {l : List α} {n : Nat} {x : α} {r : List α} (h : l.drop n = x :: r) : l.drop (n + 1) = r := by
  rw [← List.drop_drop, h]
  rfl
section
variable {P : Program} {w : World} {K : PySem.W.Frag} {mg : Str → Option Value} {base : Heap} {f : Addr} {fd : FuncData} {RC GC : Addr}
def cDevice (RC : Addr) : Ctr := fun args M Kx => ∃ (r : Rd) (z : Str) (p : Nat) (devs : Devs) (links : List (Int × Int)) (as : Gr) (k : Kd) (bd : Nat) (tl : List Nat), z.length ≤ 1000 ∧ devs.length < 8 ∧ bd ≤ 4 ∧ Tail tl ∧ z.cps.toList.drop p = kc k :: (bdL bd ++ tl) ∧
  args = [.ref r.q] ∧ M = rCells RC r z p devs links as ∧ Kx = KD (yv [(devs.length : Int)] [(devs.length : Int)]) (rCells RC r z (p + 1 + (bdL bd).length) (devs ++ [(k, bd)]) links as)
theorem ok_device (Fn : Fun K "device" "Reading.device" s_Reading_device f fd) (T : Tx w K mg) (R : TR w K mg RC GC) (g1 : MF P w K mg base RC "sign" 1 (cSign RC)) : FnOk P w K mg base CX0 2 f fd ["self"] (toSp w (cDevice RC)) :=
  fn_ok Fn sc_Reading_device (by rintro _ _ _ ⟨r, z, p, devs, links, as, k, bd, tl, _, _, _, _, _, rfl, _⟩; rfl) fun b F args M Kx hw hP hc hr => by
    obtain ⟨r, z, p, devs, links, as, k, bd, tl, hz, hdl, hbd, htl, htx, rfl, rfl, rfl⟩ := hc
    have g := bx_good (P := P) (w := w) (K := K) (mg := mg) (base := base) (qual := "Reading.device") (b := b) sc_Reading_device
    have hr1 := hr.mono (j := 1) (by decide)
    refine gb_when (t := false) (M1 := rCells RC r z p devs links as) ((et_eqI (ev_lenC (j := 1) T.len (ev_fld (d := .ref r.k) (j := 2) R.cls R.kinds (ev_v 0) (.cell 0)) rfl) (ev_g T.mostYards)).eq (by rw [List.length_map]; exact decide_eq_false (by omega))) (fun h => by cases h) fun _ => ?_
    refine gb_set g 1 ((ev_lenC (j := 1) T.len (ev_fld (d := .ref r.k) (j := 2) R.cls R.kinds (ev_v 0) (.cell 0)) rfl).eq (d1 := .int (devs.length : Int)) (by rw [List.length_map])) ?_
    refine gb_expr (ev_app (j := 1) (xs := devs.map encK) (ys := devs.map encK) (ev_fld (d := .ref r.k) (j := 2) R.cls R.kinds (ev_v 0) (.cell 0)) rfl (ev_sign R.cls g1 hr1 hw hz (ev_v 0)) rfl (by rw [List.length_map]; omega)) ?_
    rw [htx, sgn_cons, ← kd_str]
    refine gb_fldAdd (j := 0) (i := 1) (q := r.q) (C := RC) (ns := rN) (xs := [.str z, .int p, .ref r.k, .ref r.b, .ref r.l, .ref r.g]) (n1 := (p : Int)) (m1 := 1) R.cls R.at_ (ev_v 0) ev_i ?_
    have hdr : z.cps.toList.drop (p + 1) = bdL bd ++ tl := drop_cons htx
    let MA (pp : Nat) : Cells := rObj RC r z pp :: [(r.k, .lst (devs.map encK ++ [.str k.str])), (r.b, .lst (devs.map fun x => encB x.2)), (r.l, .lst (links.map encL)), (r.g, .lst (refs as))]
    refine gb_set g 2 (M1 := MA (p + 1)) ev_n ?_
    let DS (d : D) : Slots := [some (.ref r.q), some (.int devs.length), some d]
    refine gb_ifJ (fun ds M => ds = DS (encB bd) ∧ M = MA (p + 1 + (bdL bd).length)) (t := decide (bd ≠ 0)) (M1 := MA (p + 1)) ?_ (fun h => ?_) (fun h => ?_) ?_
    · by_cases h0 : bd = 0
      · subst h0
        have hdr0 : z.cps.toList.drop (p + 1) = tl := hdr
        rcases htl with e | ⟨c, l, e, hc⟩
        · refine (et_and (k := false) (j := false) ((et_neS (i := "") (j := "") ((ev_sign R.cls g1 hr1 hw hz (ev_v 0)).eq (by rw [hdr0, e]; rfl)) ev_s).eq (by decide +kernel)) fun h => by cases h).eq (by decide)
        · refine (et_and (k := true) (j := false) ((et_neS (i := ⟨#[c]⟩) (j := "") ((ev_sign R.cls g1 hr1 hw hz (ev_v 0)).eq (by rw [hdr0, e]; rfl)) ev_s).eq ?_) fun h => (et_inS (i := ⟨#[c]⟩) ((ev_sign R.cls g1 hr1 hw hz (ev_v 0)).eq (by rw [hdr0, e]; rfl)) (ev_g T.bounds)).eq (inB_no hc)).eq (by decide)
          have hd0 : decide ((⟨#[c]⟩ : Str) = "") = false := decide_eq_false (sgn_ne c [])
          rw [hd0]
          rfl
      · have hb : bdL bd = [48 + bd] := if_neg h0
        have hdr1 : sgn (z.cps.toList.drop (p + 1)) = ⟨#[48 + bd]⟩ := by rw [hdr, hb]; rfl
        refine (et_and (k := true) (j := true) ((et_neS (i := ⟨#[48 + bd]⟩) (j := "") ((ev_sign R.cls g1 hr1 hw hz (ev_v 0)).eq (by rw [hdr1])) ev_s).eq ?_) fun h => (et_inS (i := ⟨#[48 + bd]⟩) ((ev_sign R.cls g1 hr1 hw hz (ev_v 0)).eq (by rw [hdr1])) (ev_g T.bounds)).eq (inB_yes hbd h0)).eq (by simp [h0])
        have hd0 : decide ((⟨#[48 + bd]⟩ : Str) = "") = false := decide_eq_false (sgn_ne (48 + bd) [])
        rw [hd0]
        rfl
    · have h0 : bd ≠ 0 := of_decide_eq_true h
      have hb : bdL bd = [48 + bd] := if_neg h0
      have hdr1 : sgn (z.cps.toList.drop (p + 1)) = ⟨#[48 + bd]⟩ := by rw [hdr, hb]; rfl
      refine gb_set g 2 (ev_intS (z := ⟨#[48 + bd]⟩) T.int ((ev_sign R.cls g1 hr1 hw hz (ev_v 0)).eq (by rw [hdr1])) (by show 1 ≤ 640; decide) (int_dig hbd h0)) ?_
      refine gb_fldAdd (j := 0) (i := 1) (q := r.q) (C := RC) (ns := rN) (xs := [.str z, .int ((p + 1 : Nat) : Int), .ref r.k, .ref r.b, .ref r.l, .ref r.g]) (n1 := ((p + 1 : Nat) : Int)) (m1 := 1) R.cls R.at_ (ev_v 0) ev_i (gb_turn (ds' := DS (encB bd)) ?_ ?_)
      · refine ⟨rfl, ?_⟩
        rw [hb]
        rfl
      · have : encB bd = .int bd := if_neg h0
        rw [this]
        exact Le.refl _
    · have h0 : bd = 0 := by
        have := of_decide_eq_false h
        omega
      subst h0
      refine gb_turn (ds' := DS (encB 0)) ?_ (Le.refl _)
      exact ⟨rfl, rfl⟩
    · rintro ds' M' ⟨rfl, rfl⟩
      refine gb_expr (ev_app (j := 2) (xs := devs.map fun x => encB x.2) (ys := devs.map fun x => encB x.2) (ev_fld (d := .ref r.b) (j := 3) R.cls R.bounds (ev_v 0) (.cell 0)) rfl (ev_v 2) rfl (by rw [List.length_map]; omega)) ?_
      have e1 : devs.map encK ++ [.str k.str] = (devs ++ [(k, bd)]).map encK := (List.map_append (f := encK) (l₁ := devs) (l₂ := [(k, bd)])).symm
      have e2 : (devs.map fun x => encB x.2) ++ [encB bd] = (devs ++ [(k, bd)]).map fun x => encB x.2 := (List.map_append (f := fun x : Kd × Nat => encB x.2) (l₁ := devs) (l₂ := [(k, bd)])).symm
      refine gb_ret (Mo := rCells RC r z (p + 1 + (bdL bd).length) (devs ++ [(k, bd)]) links as) (N := []) (ev_tup (ea_cons (ev_lst (ea_cons (ev_v 1) ea_nil)) (ea_cons (ev_lst (ea_cons (ev_v 1) ea_nil)) ea_nil))) ?_ ?_
      · exact ⟨rfl, rfl⟩
      · show [_, (r.k, D.lst (devs.map encK ++ [.str k.str])), (r.b, D.lst ((devs.map fun x => encB x.2) ++ [encB bd])), _, _].Perm _
        rw [e1, e2]
        exact List.Perm.refl _
def cJoined (RC GC : Addr) : Ctr := fun args M Kx => ∃ (r : Rd) (z : Str) (p : Nat) (devs : Devs) (links : List (Int × Int)) (as : Gr) (s : Bool) (e1 x1 e2 x2 : List Int), e1.length ≤ 8 ∧ x1.length ≤ 8 ∧ e2.length ≤ 8 ∧ x2.length ≤ 8 ∧ links.length ≤ 1000 ∧
  args = [.ref r.q, .ins GC gN [.str (opS s), .lst [yv e1 x1, yv e2 x2]]] ∧ M = rCells RC r z p devs links as ∧ Kx = KD (if s then yv (e1 ++ e2) (x1 ++ x2) else yv e1 x2) (rCells RC r z p devs (links ++ if s then [] else jn x1 e2) as)
theorem ok_joined (Fn : Fun K "joined" "Reading.joined" s_Reading_joined f fd) (T : Tx w K mg) (R : TR w K mg RC GC) : FnOk P w K mg base CX0 1 f fd ["self", "group"] (toSp w (cJoined RC GC)) :=
  fn_ok Fn sc_Reading_joined (by rintro _ _ _ ⟨r, z, p, devs, links, as, s, e1, x1, e2, x2, _, _, _, _, _, rfl, _⟩; rfl) fun b F args M Kx hw hP hc hr => by
    obtain ⟨r, z, p, devs, links, as, s, e1, x1, e2, x2, h1, h2, h3, h4, h5, rfl, rfl, rfl⟩ := hc
    have g := bx_good (P := P) (w := w) (K := K) (mg := mg) (base := base) (qual := "Reading.joined") (b := b) sc_Reading_joined
    let ys : List D := [yv e1 x1, yv e2 x2]
    cases s with
    | true =>
      refine gb_when (M1 := rCells RC r z p devs links as) (et_eqS (i := opS true) (ev_fld (d := .str (opS true)) (j := 0) R.gcls R.sign (ev_v 1) .data) ev_s) (fun _ => ?_) fun h => absurd h (by decide +kernel)
      let en : D → List D := fun d => match d with
        | .tup [.lst a, _] => a
        | _ => []
      let ex : D → List D := fun d => match d with
        | .tup [_, .lst a] => a
        | _ => []
      have hyv : ∀ x ∈ ys, ∃ a c, x = yv a c := fun x hx => by
        rcases List.mem_cons.mp hx with e | hx
        · exact ⟨_, _, e⟩
        · exact ⟨_, _, List.mem_singleton.mp hx⟩
      refine gb_setLc2 (l := 2) (i := 6) (j := 5) (f := en) (h := id) (xs := ys) g (pi_list pe_s) (hw_list (ev_fld (d := .lst ys) (j := 1) R.gcls R.yards (ev_v 1) .data)) (blkOk_by (N := n_Reading_joined) (sc := defScope s_Reading_joined) (by decide +kernel)) (by decide) ?_ (fun _ _ _ _ _ => pg_name sc_Reading_joined.nd rfl (.inl rfl)) (fun _ _ _ _ _ => pg_name sc_Reading_joined.nd rfl (.inl rfl)) (fun s0 H0 C0 cl0 fp0 M0 x hx => ?_) (fun s0 H0 C0 cl0 fp0 M0 x u hx hu => ev_v 5) (fun _ => rfl) (fun _ _ => rfl) ?_
      · show ((dI e1) ++ ((dI e2) ++ [])).length ≤ 100000
        rw [List.append_nil, List.length_append, ints_len, ints_len]
        omega
      · obtain ⟨a, c, rfl⟩ := hyv x hx
        exact ev_ixT (ev_v 6) ev_i rfl
      refine gb_retD (N := []) (ev_tup (ea_cons (ev_v 2) (ea_cons (lc_it2 (i := 6) (j := 4) (f := ex) (h := id) (xs := ys) g (pi_list pe_s) (hw_list (ev_fld (d := .lst ys) (j := 1) R.gcls R.yards (ev_v 1) .data)) (blkOk_by (N := n_Reading_joined) (sc := defScope s_Reading_joined) (by decide +kernel)) (by decide) ?_ (fun _ _ _ _ _ => pg_name sc_Reading_joined.nd rfl (.inl rfl)) (fun _ _ _ _ _ => pg_name sc_Reading_joined.nd rfl (.inl rfl)) (fun s0 H0 C0 cl0 fp0 M0 x hx => ?_) (fun s0 H0 C0 cl0 fp0 M0 x u hx hu => ev_v 4) (fun _ => rfl) (fun _ _ => rfl)) ea_nil))) (hd := ?_) (hp := ?_)
      · show ((dI x1) ++ ((dI x2) ++ [])).length ≤ 100000
        rw [List.append_nil, List.length_append, ints_len, ints_len]
        omega
      · obtain ⟨a, c, rfl⟩ := hyv x hx
        exact ev_ixT (ev_v 6) ev_i rfl
      · show D.tup [.lst ((dI e1 ++ (dI e2 ++ [])).map id), .lst ((dI x1 ++ (dI x2 ++ [])).map id)] = yv (e1 ++ e2) (x1 ++ x2)
        rw [List.map_id, List.map_id, List.append_nil, List.append_nil, cat_dI, cat_dI]
        rfl
      · show List.Perm _ (rCells RC r z p devs (links ++ []) as ++ [])
        simp only [List.append_nil]
        exact List.Perm.refl _
    | false =>
      refine gb_when (M1 := rCells RC r z p devs links as) (et_eqS (i := opS false) (ev_fld (d := .str (opS false)) (j := 0) R.gcls R.sign (ev_v 1) .data) ev_s) (fun h => absurd h (by decide +kernel)) fun _ => ?_
      let Dg : D := .ins GC gN [.str (opS false), .lst ys]
      let MA (lk : List (Int × Int)) : Cells := rCells RC r z p devs lk as
      let DS : Slots := [some (.ref r.q), some Dg, none, none, none, none, none]
      refine gb_forR2 g (lo := 1) (hi := 2) T.range ev_i (ev_lenL (xs := ys) T.len (ev_fld (d := .lst ys) (j := 1) R.gcls R.yards (ev_v 1) .data)) (by decide) (by decide) (fun i ds M => ds = DS ∧ M = MA (if i = 0 then links else links ++ jn x1 e2)) (fun ds M => ds = DS ∧ M = MA (links ++ jn x1 e2)) ⟨rfl, rfl⟩ ?_ ?_ ?_
      · rintro ts' i ds' M' hi ⟨rfl, rfl⟩
        have hi0 : i = 0 := by omega
        subst hi0
        refine ⟨_, eg_n g 3, ?_⟩
        let DS1 : Slots := [some (.ref r.q), some Dg, none, some (.int 1), none, none, none]
        let A0 : Nat → List (Int × Int) := fun j => links ++ jn (x1.take j) e2
        have hA0 : ∀ j, (A0 j).length ≤ 1064 := fun j => by
          have h1 := mul3 (show (x1.take j).length ≤ 8 by rw [List.length_take]; omega) h3
          show (links ++ _).length ≤ 1064
          rw [List.length_append, jn_len]
          omega
        refine gb_for g (ev_ixT (xs := [.lst (dI e1), .lst (dI x1)]) (d := .lst (dI x1)) (ev_ixL (xs := ys) (i := 0) (d := yv e1 x1) (ev_fld (d := .lst ys) (j := 1) R.gcls R.yards (ev_v 1) .data) ((ev_sub (ev_v 3) ev_i).eq (d1 := .int 0) rfl) rfl) ev_i rfl) (fun j ds M => ds = DS1 ∧ M = MA (A0 j)) (fun ds M => ds = DS1 ∧ M = MA (A0 x1.length)) ⟨rfl, by simp [A0, jn]⟩ ?_ ?_ ?_
        · rintro ts2 j x ds' M' hx ⟨rfl, rfl⟩
          obtain ⟨o, ho, rfl⟩ := map_get hx
          refine ⟨_, eg_n g 4, ?_⟩
          let DS2 : Slots := [some (.ref r.q), some Dg, none, some (.int 1), some (.int o), none, none]
          let A1 : Nat → List (Int × Int) := fun q => A0 j ++ (e2.take q).map fun e => (o, e)
          have hA1 : ∀ q, (A1 q).length ≤ 1072 := fun q => by
            have := hA0 j
            show (A0 j ++ _).length ≤ 1072
            rw [List.length_append, List.length_map, List.length_take]
            omega
          refine gb_for g (ev_ixT (xs := [.lst (dI e2), .lst (dI x2)]) (d := .lst (dI e2)) (ev_ixL (xs := ys) (i := 1) (d := yv e2 x2) (ev_fld (d := .lst ys) (j := 1) R.gcls R.yards (ev_v 1) .data) (ev_v 3) rfl) ev_i rfl) (fun q ds M => ds = DS2 ∧ M = MA (A1 q)) (fun ds M => ds = DS2 ∧ M = MA (A1 e2.length)) ⟨rfl, by simp [A1]⟩ ?_ ?_ ?_
          · rintro ts3 q x ds' M' hx ⟨rfl, rfl⟩
            obtain ⟨e, he, rfl⟩ := map_get hx
            refine ⟨_, eg_n g 5, ?_⟩
            refine gb_expr (ev_app (j := 3) (xs := (A1 q).map encL) (ys := (A1 q).map encL) (ev_fld (d := .ref r.l) (j := 4) R.cls R.links (ev_v 0) (.cell 0)) rfl (ev_tup (ea_cons (ev_v 4) (ea_cons (ev_v 5) ea_nil))) rfl (by rw [List.length_map]; have := hA1 q; omega)) (gb_turn (ds' := DS2) ?_ ⟨rfl, rfl, rfl, rfl, trivial⟩)
            refine ⟨rfl, ?_⟩
            have e1 : A1 (q + 1) = A1 q ++ [(o, e)] := by
              show A0 j ++ _ = _
              rw [take_snoc he, List.map_append, ← List.append_assoc]
              rfl
            rw [e1]
            exact congrArg (fun zz => [rObj RC r z p, (r.k, D.lst (devs.map encK)), (r.b, D.lst (devs.map fun x => encB x.2)), (r.l, D.lst zz), (r.g, D.lst (refs as))]) (List.map_append (f := encL) (l₁ := A1 q) (l₂ := [(o, e)])).symm
          · rintro ds' M' ⟨rfl, rfl⟩
            exact ⟨rfl, by rw [ints_len]⟩
          · rintro ds' M' ⟨rfl, rfl⟩
            refine gb_turn (ds' := DS1) ?_ ⟨rfl, rfl, rfl, trivial⟩
            refine ⟨rfl, ?_⟩
            have e1 : A0 (j + 1) = A1 e2.length := by
              show links ++ jn (x1.take (j + 1)) e2 = (links ++ jn (x1.take j) e2) ++ (e2.take e2.length).map _
              have e2' : jn (x1.take j ++ [o]) e2 = jn (x1.take j) e2 ++ e2.map fun e => (o, e) := by
                unfold jn
                rw [List.flatMap_append]
                simp
              rw [take_snoc ho, List.take_length, e2']
              exact (List.append_assoc _ _ _).symm
            rw [e1]
        · rintro ds' M' ⟨rfl, rfl⟩
          exact ⟨rfl, by rw [ints_len]⟩
        · rintro ds' M' ⟨rfl, rfl⟩
          refine gb_turn (ds' := DS) ?_ ⟨rfl, rfl, trivial⟩
          refine ⟨rfl, ?_⟩
          have e1 : A0 x1.length = links ++ jn x1 e2 := by
            show links ++ jn (x1.take _) e2 = _
            rw [List.take_length]
          rw [e1]
          rfl
      · rintro ds' M' ⟨rfl, rfl⟩
        exact ⟨rfl, rfl⟩
      · rintro ds' M' ⟨rfl, rfl⟩
        refine gb_retD (N := []) (ev_tup (ea_cons (ev_ixT (xs := [.lst (dI e1), .lst (dI x1)]) (d := .lst (dI e1)) (ev_ixL (xs := ys) (i := 0) (d := yv e1 x1) (ev_fld (d := .lst ys) (j := 1) R.gcls R.yards (ev_v 1) .data) ev_i rfl) ev_i rfl) (ea_cons (ev_ixT (xs := [.lst (dI e2), .lst (dI x2)]) (d := .lst (dI x2)) (ev_ixL (xs := ys) (i := -1) (d := yv e2 x2) (ev_fld (d := .lst ys) (j := 1) R.gcls R.yards (ev_v 1) .data) (ev_neg ev_i) rfl) ev_i rfl) ea_nil)))
end
end K23

set_option maxHeartbeats 1000000
/-! first_device, closed. -/
namespace K23
open PySem PySem.Spec PyProof.Rows L2

/-! a method call whose arguments are of several kinds -/
theorem evk_methK {X : Cx} {F : Fm} {ds : Slots} {M M1 : Cells} {o e : Expr} {es : List Expr} {pos apos : Pos} {m : Str} {j : Nat} {C : Ctr} {d1 : D} {KL : List D → Cells → Prop} {KK : D → Cells → Prop} {A0 : Addr} {ns : List Str} {ys : List D} {pl : Sem Bool} (c : Cls X.K A0) (Fn : MF X.prog X.w X.K X.mg X.base A0 m j C) (hr : Room j X.A) (hw : F.w = X.w) (ho : EV X F ds M o d1 M1) (hi : InsAt M1 d1 A0 ns ys) (ha : EvAK F ds M1 (sA X (e :: es)) KL)
    (hC : ∀ xs M2, KL xs M2 → ∃ Min Mr K, C (d1 :: xs) Min K ∧ M2.Perm (Min ++ Mr) ∧ ∀ d Mo, K d Mo → KK d (Mo ++ Mr)) (hn : fix m ns = none := by decide +kernel)
    (hst : starEach (e :: es) X.env = (false, eval e X.env) :: starEach es X.env := by rfl) (hpl : (backTo pos (starEach es X.env)).any (·.1) = false := by rfl)
    (ht : eval (.Call (.Attribute o m apos) (e :: es) [] pos) X.env = (do
      let ov ← eval o X.env
      standAt apos.atName
      let (f, first) ← holding [ov] (getMethod ov m pl)
      callWith pos f first (backTo pos (starEach (e :: es) X.env)) (backToKw pos (keywordEach [] X.env))) := by rfl) : EVK X F ds M (.Call (.Attribute o m apos) (e :: es) [] pos) KK := by
  obtain ⟨f, fd, ps, hm, fo, hb⟩ := Fn.ex
  refine evk_of (pe_meth pe_s c hm fo hr hb .nil pass0 pa_s hst hpl ht) fun ts σ H A Q q => ho ts σ H A _ fun v H1 A1 => ?_
  obtain ⟨a, dx, vs, e1, h2, h3, h4, h5⟩ := A1.insAt List.mem_cons_self hi
  refine ⟨a, dx, _, e1, h2, by rw [look_zip m h3, hn]; rfl, ha _ σ H1 A1 _ fun xs M2 ws H2 hK hl A2 => ?_⟩
  obtain ⟨Min, Mr, K, hC1, hp, hKK⟩ := hC xs M2 hK
  obtain ⟨G, W, S, T, Cc⟩ := A2.ex
  refine ⟨G, d1 :: xs, Min, K, W.le, by rw [List.append_nil]; exact .cons (T _ (List.mem_append_right _ List.mem_cons_self)) (RpA.of hl fun t ht => T t (List.mem_append_left _ ht)), by rw [← hw]; exact Cc.part hp, hC1, fun v H' ⟨d, Mo, G', hK2, W', r, c'⟩ => ?_⟩
  rw [← hw] at W' c'
  exact q d (Mo ++ Mr) v H' (hKK d Mo hK2) (At.back W S (fun t ht => T t (List.mem_append_right _ (List.mem_cons_of_mem _ ht))) Cc hp W' r c')
theorem perm_mid {α : Type} (a b c : List α) : (a ++ (b ++ c)).Perm (b ++ (a ++ c)) := by
  rw [← List.append_assoc, ← List.append_assoc]
  exact List.perm_append_comm.append_right _
def inK (z : Str) : Bool := !(Builtin.Str.occurrences ("sqdio" : Str) z 0 ("sqdio" : Str).length 1).isEmpty
theorem inK_yes (k : Kd) : inK k.str = true := by cases k <;> decide +kernel
theorem kd_ne (k : Kd) : ¬ k.str = "" := by cases k <;> decide +kernel
theorem opS_ne (s : Bool) : ¬ opS s = "" := by cases s <;> decide +kernel
/-- the place: the text from here on is the tree's and what its context leaves -/
def Here (z : Str) (p : Nat) (c : Ctx) (t : Tr) : Prop := z.cps.toList.drop p = toldL t ++ restC c
theorem sgn_op {z : Str} {p : Nat} {c : Ctx} {s : Bool} {l r : Tr} (h : Here z p c (.pair s l r)) : sgn (z.cps.toList.drop p) = opS s := by
  rw [h, op_str]
  rfl
theorem sgn_dev {z : Str} {p : Nat} {c : Ctx} {k : Kd} {b : Nat} (h : Here z p c (.dev k b)) : sgn (z.cps.toList.drop p) = k.str := by
  rw [h, kd_str]
  rfl
theorem here_in {z : Str} {p : Nat} {c : Ctx} {s : Bool} {l r : Tr} (h : Here z p c (.pair s l r)) : Here z (p + 1) (.L s r :: c) l := by
  have h1 : z.cps.toList.drop p = opc s :: ((toldL l ++ 32 :: (toldL r ++ [clc s])) ++ restC c) := h
  have h2 := drop_cons h1
  show z.cps.toList.drop (p + 1) = toldL l ++ (32 :: (toldL r ++ clc s :: restC c))
  rw [h2]
  simp
theorem refs_cons (a : Addr × Addr) (as : Gr) : refs (a :: as) = refs as ++ [.ref a.1] := by
  unfold refs
  rw [List.map_cons, List.reverse_cons]
section
variable {P : Program} {w : World} {K : PySem.W.Frag} {mg : Str → Option Value} {base : Heap} {f : Addr} {fd : FuncData} {RC GC : Addr}
/-- where a reading stands: T0 the whole tree, c the context in it -/
structure At0 (T0 : Tr) (z : Str) (c : Ctx) (t : Tr) (as : Gr) : Prop where
  ok : T0.ok
  size : T0.size ≤ 3
  len : z.length ≤ 1000
  plug : plug c t = T0
  as_ : as.length = c.length
def cFirst2 (RC GC : Addr) : Ctr := fun args M Kx => ∃ (T0 : Tr) (r : Rd) (z : Str) (p : Nat) (links : List (Int × Int)) (c : Ctx) (t : Tr) (as : Gr), At0 T0 z c t as ∧ Here z p c t ∧
  args = [.ref r.q] ∧ M = rCells RC r z p (preD c) links as ++ gC GC c as ∧ Kx = fun d M' => ∃ (c' : Ctx) (k : Kd) (b : Nat) (as' : Gr) (p' : Nat), At0 T0 z c' (.dev k b) as' ∧ preD c' = preD c ∧ lkC c' = lkC c ∧ z.cps.toList.drop p' = restC c' ∧ d = yvT (.dev k b) (nC c') ∧ M' = rCells RC r z p' (preD c' ++ dvT (.dev k b)) links as' ++ gC GC c' as'
theorem ok_first2 (Fn : Fun K "first_device" "Reading.first_device" s_Reading_first_device f fd) (T : Tx w K mg) (R : TR w K mg RC GC) (g1 : MF P w K mg base RC "sign" 1 (cSign RC)) (g2 : MF P w K mg base RC "device" 2 (cDevice RC)) (g3 : KF P w K mg base "Group" GC 1 (cGInit GC)) : FnOk P w K mg base CX0 3 f fd ["self"] (toSp w (cFirst2 RC GC)) :=
  fn_ok Fn sc_Reading_first_device (by rintro _ _ _ ⟨T0, r, z, p, links, c, t, as, _, _, rfl, _⟩; rfl) fun b F args M Kx hw hP hc hr => by
    obtain ⟨T0, r, z, p0, links, c0, t0, as0, A0, H0, rfl, rfl, rfl⟩ := hc
    have g := bx_good (P := P) (w := w) (K := K) (mg := mg) (base := base) (qual := "Reading.first_device") (b := b) sc_Reading_first_device
    have hr1 := hr.mono (j := 1) (by decide)
    obtain ⟨cq, ces, cn, c1, c2, c3, c4, c5⟩ := R.closing
    let W : Nat → Slots → Cells → Prop := fun n ds M => ∃ (c : Ctx) (t : Tr) (as : Gr) (p : Nat), n = t.size ∧ At0 T0 z c t as ∧ preD c = preD c0 ∧ lkC c = lkC c0 ∧ Here z p c t ∧ ds = [some (.ref r.q)] ∧ M = rCells RC r z p (preD c) links as ++ gC GC c as
    let J : Slots → Cells → Prop := fun ds M => ∃ (c : Ctx) (k : Kd) (bd : Nat) (as : Gr) (p : Nat), At0 T0 z c (.dev k bd) as ∧ preD c = preD c0 ∧ lkC c = lkC c0 ∧ Here z p c (.dev k bd) ∧ ds = [some (.ref r.q)] ∧ M = rCells RC r z p (preD c) links as ++ gC GC c as
    refine gb_while g W J t0.size ⟨c0, t0, as0, p0, rfl, A0, rfl, rfl, H0, rfl, rfl⟩ ?_ ?_
    · rintro n ds' M' ⟨c, t, as, p, rfl, A, e1, e2, H, rfl, rfl⟩
      have hps := plug_size c t
      have hns := nC_size c t
      rw [A.plug] at hps hns
      have hsz := A.size
      have hlen := A.len
      have has := A.as_
      cases t with
      | dev k bd =>
        refine ⟨false, rCells RC r z p (preD c) links as ++ gC GC c as, (et_and (k := true) (j := false) ((et_neS (i := k.str) (j := "") ((ev_sign R.cls g1 hr1 hw hlen (ev_v 0)).eq (by rw [sgn_dev H])) ev_s).eq (by rw [decide_eq_false (kd_ne k)]; rfl)) fun _ => (et_inK c2 (c4 k) ((ev_sign R.cls g1 hr1 hw hlen (ev_v 0)).eq (by rw [sgn_dev H])) (ev_g c1)).eq rfl).eq rfl, (fun h => by cases h), fun _ => ⟨c, k, bd, as, p, A, e1, e2, H, rfl, rfl⟩⟩
      | pair s l rr =>
        have e3 : (Tr.pair s l rr).size = l.size + rr.size := rfl
        have hp1 := l.pos
        have hp2 := rr.pos
        obtain ⟨u, hu⟩ := c3 s
        refine ⟨true, rCells RC r z p (preD c) links as ++ gC GC c as, (et_and (k := true) (j := true) ((et_neS (i := opS s) (j := "") ((ev_sign R.cls g1 hr1 hw hlen (ev_v 0)).eq (by rw [sgn_op H])) ev_s).eq (by rw [decide_eq_false (opS_ne s)]; rfl)) fun _ => (et_inK c2 hu ((ev_sign R.cls g1 hr1 hw hlen (ev_v 0)).eq (by rw [sgn_op H])) (ev_g c1)).eq rfl).eq rfl, fun _ ts' => ?_, fun h => by cases h⟩
        refine gb_when (t := false) (M1 := rCells RC r z p (preD c) links as ++ gC GC c as) ((et_eqI (ev_lenC (j := 4) T.len (ev_fld (d := .ref r.g) (j := 5) R.cls R.groups (ev_v 0) (.cell 0)) rfl) (ev_g T.mostYards)).eq ?_) (fun h => by cases h) fun _ => ?_
        · unfold refs
          rw [List.length_reverse, List.length_map]
          exact decide_eq_false (by omega)
        refine gb_exprK (evk_app (j := 4) (j2 := 6) (xs := refs as) (ev_fld (d := .ref r.g) (j := 5) R.cls R.groups (ev_v 0) (.cell 0)) rfl (evk_make (A0 := GC) (Min := []) (Mr := rCells RC r z p (preD c) links as ++ gC GC c as) (K := fun q d M' => d = .non ∧ ∃ gy, M' = [(q, .ins GC gN [.str (opS s), .ref gy]), (gy, .lst [])]) g3 (hr.mono (by decide)) hw (ea_cons ((ev_sign R.cls g1 hr1 hw hlen (ev_v 0)).eq (by rw [sgn_op H])) ea_nil) (List.Perm.refl _) (fun q => ⟨q, opS s, rfl, rfl, rfl⟩) fun q d Mo h => h.1) ?_) ?_
        · rintro d M2 ⟨q, Mo, fq, rfl, ⟨_, gy, rfl⟩, rfl⟩
          refine ⟨refs as, rfl, ?_⟩
          unfold refs
          rw [List.length_reverse, List.length_map]
          omega
        · rintro d M2 ⟨rfl, d0, M3, ys, ⟨q, Mo, fq, rfl, ⟨_, gy, rfl⟩, rfl⟩, hys, rfl⟩
          have hys2 : some (r.g, D.lst (refs as)) = some (r.g, D.lst ys) := hys
          cases hys2
          let as2 : Gr := (q, gy) :: as
          have eR : refs as ++ [.ref q] = refs as2 := (refs_cons (q, gy) as).symm
          let G2 : Cells := [gObj GC (q, gy) s, (gy, .lst [])]
          show GB _ _ F ts' _ (G2 ++ ((rObj RC r z p :: [(r.k, .lst ((preD c).map encK)), (r.b, .lst ((preD c).map fun x => encB x.2)), (r.l, .lst (links.map encL)), (r.g, .lst (refs as ++ [.ref q]))]) ++ gC GC c as)) _
          rw [eR]
          refine gb_perm (perm_mid _ _ _) ?_
          refine gb_fldAdd (j := 0) (i := 1) (q := r.q) (C := RC) (ns := rN) (xs := [.str z, .int p, .ref r.k, .ref r.b, .ref r.l, .ref r.g]) (n1 := (p : Int)) (m1 := 1) R.cls R.at_ (ev_v 0) ev_i (gb_turn (ds' := [some (.ref r.q)]) ?_ (Le.refl _))
          exact ⟨l.size, by omega, .L s rr :: c, l, as2, p + 1, rfl, ⟨A.ok, A.size, A.len, A.plug, by show as.length + 1 = c.length + 1; omega⟩, e1, e2, here_in H, rfl, rfl⟩
    · rintro ds' M' ⟨c, k, bd, as, p, A, e1, e2, H, rfl, rfl⟩
      have hps := plug_size c (.dev k bd)
      have hns := nC_size c (.dev k bd)
      rw [A.plug] at hps hns
      have hsz := A.size
      have hlen := A.len
      have es : (Tr.dev k bd).size = 1 := rfl
      have hok : (Tr.dev k bd).ok := plug_ok c _ (by rw [A.plug]; exact A.ok)
      refine gb_when (t := false) (M1 := rCells RC r z p (preD c) links as ++ gC GC c as) ((et_or (k := false) (j := false) ((et_eqS (i := k.str) (j := "") ((ev_sign R.cls g1 hr1 hw hlen (ev_v 0)).eq (by rw [sgn_dev H])) ev_s).eq (decide_eq_false (kd_ne k))) fun _ => (et_ninS (i := k.str) ((ev_sign R.cls g1 hr1 hw hlen (ev_v 0)).eq (by rw [sgn_dev H])) (ev_g T.kinds)).eq (congrArg (!·) (inK_yes k))).eq rfl) (fun h => by cases h) fun _ => ?_
      have hH : z.cps.toList.drop p = kc k :: (bdL bd ++ restC c) := H
      have hnc : (preD c).length = nC c := rfl
      refine gb_retK (evk_meth0 (A0 := RC) (Min := rCells RC r z p (preD c) links as) (Mr := gC GC c as) R.cls g2 hr hw (ev_v 0) (.cell 0) ⟨r, z, p, preD c, links, as, k, bd, restC c, hlen, by omega, hok, restC_tail c, hH, rfl, rfl, rfl⟩ (List.Perm.refl _)) ?_
      rintro d M1 ⟨Mo, ⟨rfl, rfl⟩, rfl⟩
      refine ⟨_, [], ⟨c, k, bd, as, p + 1 + (bdL bd).length, A, e1, e2, ?_, rfl, rfl⟩, List.Perm.of_eq (List.append_nil _).symm⟩
      have h1 := drop_cons hH
      rw [← List.drop_drop, h1, List.drop_left]
end
end K23

set_option maxHeartbeats 1000000
/-! closed, whole. -/
namespace K23
open PySem PySem.Spec PyProof.Rows L2

theorem lk_pair (s : Bool) (l r : Tr) (n : Nat) : lkT (.pair s l r) n = (lkT l n ++ lkT r (n + l.size)) ++ if s then [] else jn (exT l n) (enT r (n + l.size)) := by
  cases s
  · rfl
  · show lkT l n ++ lkT r (n + l.size) = _
    rw [if_pos rfl, List.append_nil]
theorem lk_plug : ∀ (c : Ctx) (t : Tr), (lkC c).length + (lkT t (nC c)).length ≤ (lkT (plug c t) 0).length
  | [], t => by
    show 0 + _ ≤ _
    rw [Nat.zero_add]
    exact Nat.le_refl _
  | .L s r :: c, t => by
    have h := lk_plug c (.pair s t r)
    rw [lk_pair, List.length_append, List.length_append] at h
    show (lkC c).length + (lkT t (nC c)).length ≤ (lkT (plug c (.pair s t r)) 0).length
    omega
  | .R s l :: c, t => by
    have h := lk_plug c (.pair s l t)
    rw [lk_pair, List.length_append, List.length_append] at h
    have e : nC (.R s l :: c) = nC c + l.size := by
      show (preD c ++ dvT l).length = _
      rw [List.length_append, dvT_len]
      rfl
    rw [e]
    show (lkC c ++ lkT l (nC c)).length + _ ≤ (lkT (plug c (.pair s l t)) 0).length
    rw [List.length_append]
    omega
theorem nC_R (s : Bool) (l : Tr) (c : Ctx) : nC (.R s l :: c) = nC c + l.size := by
  show (preD c ++ dvT l).length = _
  rw [List.length_append, dvT_len]
  rfl
theorem yv_pair (s : Bool) (l t : Tr) (n : Nat) : (if s then yv (enT l n ++ enT t (n + l.size)) (exT l n ++ exT t (n + l.size)) else yv (enT l n) (exT t (n + l.size))) = yvT (.pair s l t) n := by cases s <;> rfl
theorem last_refs (a : Addr × Addr) (as : Gr) : (refs (a :: as))[(refs (a :: as)).length - 1]? = some (.ref a.1) := by
  rw [refs_cons]
  simp
theorem at_refs (a : Addr × Addr) (as : Gr) : atI (refs (a :: as)) (-1) = some (.ref a.1) := by
  rw [atI_last (by rw [refs_cons]; simp)]
  exact last_refs a as
theorem pop_refs (a : Addr × Addr) (as : Gr) : (refs (a :: as)).dropLast = refs as := by
  rw [refs_cons]
  simp
section
variable {P : Program} {w : World} {K : PySem.W.Frag} {mg : Str → Option Value} {base : Heap} {f : Addr} {fd : FuncData} {RC GC : Addr}
def cClose (RC GC : Addr) : Ctr := fun args M Kx => ∃ (T0 : Tr) (r : Rd) (z : Str) (p : Nat) (links : List (Int × Int)) (c : Ctx) (t : Tr) (as : Gr), At0 T0 z c t as ∧ z.cps.toList.drop p = restC c ∧ links.Perm (lkC c ++ lkT t (nC c)) ∧
  args = [.ref r.q, yvT t (nC c)] ∧ M = rCells RC r z p (preD c ++ dvT t) links as ++ gC GC c as ∧ Kx = fun d M' => ∃ (c' : Ctx) (t' : Tr) (as' : Gr) (p' : Nat) (links' : List (Int × Int)), At0 T0 z c' t' as' ∧ z.cps.toList.drop p' = restC c' ∧ links'.Perm (lkC c' ++ lkT t' (nC c')) ∧ preD c' ++ dvT t' = preD c ++ dvT t ∧ (c' = [] ∨ ∃ s rr c'', c' = .L s rr :: c'') ∧
    d = yvT t' (nC c') ∧ M' = rCells RC r z p' (preD c ++ dvT t) links' as' ++ gC GC c' as'
theorem ok_close (Fn : Fun K "closed" "Reading.closed" s_Reading_closed f fd) (T : Tx w K mg) (R : TR w K mg RC GC) (g1 : MF P w K mg base RC "sign" 1 (cSign RC)) (g2 : MF P w K mg base RC "joined" 1 (cJoined RC GC)) : FnOk P w K mg base CX0 2 f fd ["self", "yard"] (toSp w (cClose RC GC)) :=
  fn_ok Fn sc_Reading_closed (by rintro _ _ _ ⟨T0, r, z, p, links, c, t, as, _, _, _, rfl, _⟩; rfl) fun b F args M Kx hw hP hc hr => by
    obtain ⟨T0, r, z, p0, links0, c0, t0, as0, A0, H0, L0, rfl, rfl, rfl⟩ := hc
    have g := bx_good (P := P) (w := w) (K := K) (mg := mg) (base := base) (qual := "Reading.closed") (b := b) sc_Reading_closed
    obtain ⟨cq, ces, cn, c1, c2, c3, c4, c5⟩ := R.closing
    let dv0 := preD c0 ++ dvT t0
    let W : Nat → Slots → Cells → Prop := fun n ds M => ∃ (c : Ctx) (t : Tr) (as : Gr) (p : Nat) (links : List (Int × Int)), n = c.length ∧ At0 T0 z c t as ∧ z.cps.toList.drop p = restC c ∧ links.Perm (lkC c ++ lkT t (nC c)) ∧ preD c ++ dvT t = dv0 ∧ ds = [some (.ref r.q), some (yvT t (nC c)), none] ∧ M = rCells RC r z p dv0 links as ++ gC GC c as
    let J : Slots → Cells → Prop := fun ds M => ∃ (c : Ctx) (t : Tr) (as : Gr) (p : Nat) (links : List (Int × Int)), At0 T0 z c t as ∧ z.cps.toList.drop p = restC c ∧ links.Perm (lkC c ++ lkT t (nC c)) ∧ preD c ++ dvT t = dv0 ∧ (c = [] ∨ ∃ s rr c'', c = .L s rr :: c'') ∧ ds = [some (.ref r.q), some (yvT t (nC c)), none] ∧ M = rCells RC r z p dv0 links as ++ gC GC c as
    refine gb_while g W J c0.length ⟨c0, t0, as0, p0, links0, rfl, A0, H0, L0, rfl, rfl, rfl⟩ ?_ ?_
    · rintro n ds' M' ⟨c, t, as, p, links, rfl, A, H, L, D0, rfl, rfl⟩
      have hlen := A.len
      have has := A.as_
      have hsz := A.size
      have hps := plug_size c t
      have hns := nC_size c t
      have hlk := lk_plug c t
      have hl2 := lk_len T0 0
      rw [A.plug] at hps hns hlk
      have hm9 := mul3 hsz hsz
      have hll : links.length ≤ 9 := by
        rw [L.length_eq, List.length_append]
        omega
      refine ⟨!(refs as).isEmpty, rCells RC r z p dv0 links as ++ gC GC c as, et_truC (j := 4) (xs := refs as) (ev_fld (d := .ref r.g) (j := 5) R.cls R.groups (ev_v 0) (.cell 0)) rfl, fun ht ts' => ?_, fun hf => ?_⟩
      · cases as with
        | nil => cases ht
        | cons a as' =>
          cases c with
          | nil => cases has
          | cons fr c' =>
            have has' : as'.length = c'.length := by
              have e : as'.length + 1 = c'.length + 1 := has
              omega
            refine gb_set g 2 (ev_ixC (j := 4) (xs := refs (a :: as')) (ev_fld (d := .ref r.g) (j := 5) R.cls R.groups (ev_v 0) (.cell 0)) (ev_neg ev_i) rfl (at_refs a as')) ?_
            let s := frS fr
            let MA : Cells := rCells RC r z p dv0 links (a :: as') ++ (gObj GC a s :: (a.2, .lst (frY fr c')) :: gC GC c' as')
            refine gb_when (t := !decide (sgn (z.cps.toList.drop p) = clS s) || (frY fr c').isEmpty) (M1 := MA) (((et_or (et_neS (i := sgn (z.cps.toList.drop p)) (j := clS s) (ev_sign (Mr := MA.tail) R.cls g1 hr hw hlen (ev_v 0)) (ev_ixK (ev_g c1) (ev_fld (d := .str (opS s)) (j := 0) R.gcls R.sign (ev_v 2) (.cell 5)) (c5 s))) fun _ => et_not (et_truC (j := 6) (xs := frY fr c') (ev_fld (d := .ref a.2) (j := 1) R.gcls R.yards (ev_v 2) (.cell 5)) rfl))).eq (by rw [Bool.not_not])) (fun h => ?_) fun h => ?_
            · cases fr with
              | L s0 rr =>
                refine gb_break (ds' := [some (.ref r.q), some (yvT t (nC (.L s0 rr :: c'))), none]) ?_ ⟨rfl, rfl, trivial⟩
                exact ⟨_, t, _, p, links, A, H, L, D0, .inr ⟨_, _, _, rfl⟩, rfl, rfl⟩
              | R s0 l =>
                exfalso
                have hs : sgn (z.cps.toList.drop p) = clS s0 := by
                  rw [H, cl_str]
                  rfl
                have h' : (!decide (sgn (z.cps.toList.drop p) = clS s0) || false) = true := h
                rw [hs, decide_eq_true rfl] at h'
                cases h'
            · cases fr with
              | L s0 rr =>
                exfalso
                have h' : (!decide (sgn (z.cps.toList.drop p) = clS s0) || true) = false := h
                rw [Bool.or_true] at h'
                cases h'
              | R s0 l =>
                have hnR := nC_R s0 l c'
                have hcz : (c'.length + 1) + t.size ≤ T0.size := hps
                have hl3 := nC_size c' (.pair s0 l t)
                have hpp : plug c' (.pair s0 l t) = T0 := A.plug
                rw [hpp] at hl3
                have e3 : (Tr.pair s0 l t).size = l.size + t.size := rfl
                have b1 := en_len l (nC c')
                have b2 := ex_len l (nC c')
                have b3 := en_len t (nC c' + l.size)
                have b4 := ex_len t (nC c' + l.size)
                let n' := nC c'
                refine gb_expr (ev_app (j := 6) (xs := [yvT l n']) (ys := [yvT l n']) (ev_fld (d := .ref a.2) (j := 1) R.gcls R.yards (ev_v 2) (.cell 5)) rfl (ev_v 1) rfl (by show 1 < 100000; decide)) ?_
                refine gb_expr (ev_pop (j := 4) (xs := refs (a :: as')) (d := .ref a.1) (ev_fld (d := .ref r.g) (j := 5) R.cls R.groups (ev_v 0) (.cell 0)) rfl (last_refs a as')) ?_
                rw [pop_refs, hnR]
                refine gb_frzIn0 (C := GC) (q := a.1) (q2 := a.2) (ns := gN) (xs := [.str (opS s0), .ref a.2]) (d := .lst [yvT l n', yvT t (n' + l.size)]) 5 6 1 ?_
                refine gb_frz0 (i := 2) (j := 5) (q := a.1) (d := .ins GC gN [.str (opS s0), .lst [yvT l n', yvT t (n' + l.size)]]) ?_
                refine gb_set g 1 (evk_meth (A0 := RC) (Min := rCells RC r z p dv0 links as') (Mr := gC GC c' as') R.cls g2 hr hw (ev_v 0) (.cell 0) (ea_cons (ev_v 2) ea_nil) ⟨r, z, p, dv0, links, as', s0, enT l n', exT l n', enT t (n' + l.size), exT t (n' + l.size), Nat.le_trans b1 (by omega), Nat.le_trans b2 (by omega), Nat.le_trans b3 (by omega), Nat.le_trans b4 (by omega), by omega, rfl, rfl, rfl⟩ (List.Perm.refl _)).one ?_
                rw [yv_pair]
                let links2 := links ++ if s0 then [] else jn (exT l n') (enT t (n' + l.size))
                refine gb_fldAdd (j := 0) (i := 1) (q := r.q) (C := RC) (ns := rN) (xs := [.str z, .int p, .ref r.k, .ref r.b, .ref r.l, .ref r.g]) (n1 := (p : Int)) (m1 := 1) R.cls R.at_ (ev_v 0) ev_i (gb_turn (ds' := [some (.ref r.q), some (yvT (.pair s0 l t) n'), none]) ?_ ⟨rfl, rfl, trivial⟩)
                refine ⟨c'.length, Nat.lt_succ_self _, c', .pair s0 l t, as', p + 1, links2, rfl, ⟨A.ok, A.size, A.len, A.plug, has'⟩, drop_cons (show z.cps.toList.drop p = clc s0 :: restC c' from H), ?_, ?_, rfl, rfl⟩
                · rw [lk_pair]
                  have h1 : links.Perm (lkC c' ++ (lkT l n' ++ lkT t (n' + l.size))) := by
                    have h2 : links.Perm ((lkC c' ++ lkT l n') ++ lkT t (nC (.R s0 l :: c'))) := L
                    rw [hnR, List.append_assoc] at h2
                    exact h2
                  have h3 := h1.append_right (if s0 then [] else jn (exT l n') (enT t (n' + l.size)))
                  rw [List.append_assoc] at h3
                  exact h3
                · have h1 : (preD c' ++ dvT l) ++ dvT t = dv0 := D0
                  rw [List.append_assoc] at h1
                  exact h1
      · have has0 : as = [] := by
          cases as with
          | nil => rfl
          | cons a as' =>
            rw [refs_cons] at hf
            simp at hf
        subst has0
        have hc0 : c = [] := List.length_eq_zero_iff.mp has.symm
        exact ⟨c, t, [], p, links, A, H, L, D0, .inl hc0, rfl, rfl⟩
    · rintro ds' M' ⟨c, t, as, p, links, A, H, L, D0, hc, rfl, rfl⟩
      refine gb_ret (Mo := rCells RC r z p dv0 links as ++ gC GC c as) (N := []) (ev_v 1) ?_ (List.Perm.of_eq (List.append_nil _).symm)
      exact ⟨c, t, as, p, links, A, H, L, D0, hc, rfl, rfl⟩
end
end K23

set_option maxHeartbeats 1000000
/-! whole, the yard made. -/
namespace K23
open PySem PySem.Spec PyProof.Rows L2

theorem gb_asgK {X : Cx} {F : Fm} {ds : Slots} {M : Cells} {e tg : Expr} {pos : Pos} {Dn : Ends} {ts : List (V × D)} {rest : List Stmt} {K : D → Cells → Prop} (he : EVK X F ds M e K) (hg : ∀ d M1, K d M1 → ∃ ds', EG X F ds M1 tg d ds' ∧ GB X Dn F ts ds' M1 rest) (hs : swapsWithSole [tg] e pos.line X.env = pure false := by rfl) (hw : swappedStores [tg] e X.env = pure none := by rfl) (h1 : (assignEach [tg] X.env).map (·.2) = [assign tg X.env] := by rfl) : GB X Dn F ts ds M (.Assign [tg] e pos :: rest) :=
  fun σ H A => sB_cons (ps_asg pe_s pg_s hs hw h1) (he ts σ H A _ fun d M1 v H1 hK A1 => by
    obtain ⟨ds', g1, g2⟩ := hg d M1 hK
    exact g1 ts σ H1 v A1 _ fun σ' H' A' => g2 σ' H' A')
section
variable {P : Program} {w : World} {K : PySem.W.Frag} {mg : Str → Option Value} {base : Heap} {f : Addr} {fd : FuncData} {RC GC C : Addr}
def cWhole (RC : Addr) : Ctr := fun args M Kx => ∃ (T0 : Tr) (r : Rd) (z : Str), T0.ok ∧ T0.size ≤ 3 ∧ z.length ≤ 1000 ∧ z.cps.toList = toldL T0 ∧ args = [.ref r.q] ∧ M = rCells RC r z 0 [] [] [] ∧ Kx = fun d M' => ∃ (p : Nat) (links : List (Int × Int)), links.Perm (lkT T0 0) ∧ d = yvT T0 0 ∧ M' = rCells RC r z p (dvT T0) links []
theorem ok_whole (Fn : Fun K "whole" "Reading.whole" s_Reading_whole f fd) (T : Tx w K mg) (R : TR w K mg RC GC) (g1 : MF P w K mg base RC "sign" 1 (cSign RC)) (g2 : MF P w K mg base RC "first_device" 3 (cFirst2 RC GC)) (g3 : MF P w K mg base RC "closed" 2 (cClose RC GC)) : FnOk P w K mg base CX0 4 f fd ["self"] (toSp w (cWhole RC)) :=
  fn_ok Fn sc_Reading_whole (by rintro _ _ _ ⟨T0, r, z, _, _, _, _, rfl, _⟩; rfl) fun b F args M Kx hw hP hc hr => by
    obtain ⟨T0, r, z, hok, hsz, hz, hzt, rfl, rfl, rfl⟩ := hc
    have g := bx_good (P := P) (w := w) (K := K) (mg := mg) (base := base) (qual := "Reading.whole") (b := b) sc_Reading_whole
    have hr1 := hr.mono (j := 1) (by decide)
    let W : Nat → Slots → Cells → Prop := fun n ds M => ∃ (c : Ctx) (t : Tr) (as : Gr) (p : Nat) (links : List (Int × Int)), n = T0.size - nC c ∧ At0 T0 z c t as ∧ Here z p c t ∧ links.Perm (lkC c) ∧ ds = [some (.ref r.q), none] ∧ M = rCells RC r z p (preD c) links as ++ gC GC c as
    refine gb_while g W (fun _ _ => False) T0.size ⟨[], T0, [], 0, [], rfl, ⟨hok, hsz, hz, rfl, rfl⟩, ?_, List.Perm.refl _, rfl, rfl⟩ ?_ (fun _ _ h => h.elim)
    · show z.cps.toList.drop 0 = toldL T0 ++ []
      rw [List.append_nil, hzt]
      rfl
    rintro n ds' M' ⟨c, t, as, p, links, rfl, A, H, L, rfl, rfl⟩
    refine ⟨true, rCells RC r z p (preD c) links as ++ gC GC c as, ev_true, fun _ ts' => ?_, fun h => by cases h⟩
    refine gb_setK g 1 (evk_methK (A0 := RC) (KK := fun d M' => ∃ (c1 : Ctx) (t1 : Tr) (as1 : Gr) (p1 : Nat) (links1 : List (Int × Int)), At0 T0 z c1 t1 as1 ∧ z.cps.toList.drop p1 = restC c1 ∧ links1.Perm (lkC c1 ++ lkT t1 (nC c1)) ∧ (preD c1 ++ dvT t1).length = nC c + 1 ∧ (c1 = [] ∨ ∃ s rr c'', c1 = .L s rr :: c'') ∧ d = yvT t1 (nC c1) ∧ M' = rCells RC r z p1 (preD c1 ++ dvT t1) links1 as1 ++ gC GC c1 as1) R.cls g3 (hr.mono (by decide)) hw (ev_v 0) (.cell 0)
      (eak_last (evk_meth0 (A0 := RC) (Min := rCells RC r z p (preD c) links as ++ gC GC c as) (Mr := []) R.cls g2 (hr.mono (by decide)) hw (ev_v 0) (.cell 0) ⟨T0, r, z, p, links, c, t, as, A, H, rfl, rfl, rfl⟩ (List.Perm.of_eq (List.append_nil _).symm))) ?_) ?_
    · rintro xs M2 ⟨d, rfl, Mo, ⟨c', k, bd, as', p', A1, e1, e2, H1, rfl, rfl⟩, rfl⟩
      refine ⟨rCells RC r z p' (preD c' ++ dvT (.dev k bd)) links as' ++ gC GC c' as', [], _, ⟨T0, r, z, p', links, c', .dev k bd, as', A1, H1, ?_, rfl, rfl, rfl⟩, List.Perm.refl _, ?_⟩
      · show links.Perm (lkC c' ++ [])
        rw [List.append_nil, e2]
        exact L
      · rintro d Mo ⟨c1, t1, as1, p1, links1, B1, B2, B3, B4, B5, rfl, rfl⟩
        refine ⟨c1, t1, as1, p1, links1, B1, B2, B3, ?_, B5, rfl, ?_⟩
        · rw [B4, e1, List.length_append]
          rfl
        · rw [B4, List.append_nil]
    · rintro d M1 ⟨c1, t1, as1, p1, links1, B1, B2, B3, B4, B5, rfl, rfl⟩
      have has := B1.as_
      have hns := nC_size c1 t1
      rw [B1.plug] at hns
      have hdl : (preD c1 ++ dvT t1).length = nC c1 + t1.size := by
        rw [List.length_append, dvT_len]
        rfl
      let MA : Cells := rCells RC r z p1 (preD c1 ++ dvT t1) links1 as1 ++ gC GC c1 as1
      refine gb_when (M1 := MA) (et_not (et_truC (j := 4) (xs := refs as1) (ev_fld (d := .ref r.g) (j := 5) R.cls R.groups (ev_v 0) (.cell 0)) rfl)) (fun h => ?_) fun h => ?_
      · have has0 : as1 = [] := by
          cases as1 with
          | nil => rfl
          | cons a as' =>
            rw [refs_cons] at h
            simp at h
        subst has0
        have hc0 : c1 = [] := List.length_eq_zero_iff.mp has.symm
        subst hc0
        have hT : t1 = T0 := B1.plug
        subst hT
        have hple : z.length ≤ p1 := by
          have h1 := congrArg List.length (show z.cps.toList.drop p1 = [] from B2)
          rw [List.length_drop] at h1
          have h2 : z.cps.toList.length = z.length := rfl
          simp at h1
          show z.cps.size ≤ p1
          omega
        refine gb_when (t := false) (M1 := MA) ((et_lt (ev_fld (d := .int p1) (j := 1) R.cls R.at_ (ev_v 0) (.cell 0)) (ev_lenS (z := z) T.len (ev_fld (d := .str z) (j := 0) R.cls R.text (ev_v 0) (.cell 0)) (by omega))).eq (decide_eq_false (by omega))) (fun h => by cases h) fun _ => ?_
        refine gb_ret (Mo := rCells RC r z p1 (dvT t1) links1 []) (N := []) (ev_v 1) ?_ (List.Perm.refl _)
        exact ⟨p1, links1, B3, rfl, rfl⟩
      · rcases B5 with hc0 | ⟨s, rr, c2, rfl⟩
        · subst hc0
          have : as1 = [] := List.length_eq_zero_iff.mp has
          subst this
          cases h
        · cases as1 with
          | nil => cases has
          | cons a as' =>
            have has' : as'.length = c2.length := by
              have e : as'.length + 1 = c2.length + 1 := has
              omega
            have hsp : sgn (z.cps.toList.drop p1) = " " := by
              rw [B2, sp_str]
              rfl
            refine gb_when (t := false) (M1 := MA) ((et_neS (i := " ") (j := " ") ((ev_sign (Mr := MA.tail) R.cls g1 hr1 hw hz (ev_v 0)).eq (by rw [hsp])) ev_s).eq (by rw [decide_eq_true rfl]; rfl)) (fun h => by cases h) fun _ => ?_
            refine gb_expr (ev_app (j := 6) (xs := []) (ys := []) (ev_fld (d := .ref a.2) (j := 1) R.gcls R.yards (ev_ixC (j := 4) (xs := refs (a :: as')) (ev_fld (d := .ref r.g) (j := 5) R.cls R.groups (ev_v 0) (.cell 0)) (ev_neg ev_i) rfl (at_refs a as')) (.cell 5)) rfl (ev_v 1) rfl (by decide)) ?_
            refine gb_fldAdd (j := 0) (i := 1) (q := r.q) (C := RC) (ns := rN) (xs := [.str z, .int p1, .ref r.k, .ref r.b, .ref r.l, .ref r.g]) (n1 := (p1 : Int)) (m1 := 1) R.cls R.at_ (ev_v 0) ev_i (gb_turn (ds' := [some (.ref r.q), none]) ?_ ⟨rfl, trivial⟩)
            have hnew : nC (.R s t1 :: c2) = nC c + 1 := B4
            refine ⟨T0.size - nC (.R s t1 :: c2), ?_, .R s t1 :: c2, rr, a :: as', p1 + 1, links1, rfl, ⟨B1.ok, B1.size, B1.len, B1.plug, has⟩, ?_, B3, rfl, rfl⟩
            · have h1 : nC (.L s rr :: c2) + t1.size ≤ T0.size := hns
              have h2 : (preD (.L s rr :: c2) ++ dvT t1).length = nC (.L s rr :: c2) + t1.size := hdl
              omega
            · exact drop_cons (show z.cps.toList.drop p1 = 32 :: (toldL rr ++ clc s :: restC c2) from B2)
/-- the yard of a tree -/
def treeY (t : Tr) (links : List (Int × Int)) : Yd := ⟨told t, dvT t, srt encL (links ++ outerL (enT t 0) (exT t 0))⟩
def cYInit (C : Addr) : Ctr := fun args M Kx => ∃ (q : Addr) (t : Tr), t.ok ∧ t.size ≤ 3 ∧ args = [.ref q, .str (told t)] ∧ M = [(q, .ins C [] [])] ∧ Kx = fun d M' => d = .non ∧ ∃ links, links.Perm (lkT t 0) ∧ M' = [(q, yardD C (treeY t links))]
theorem told_small (t : Tr) (h : t.size ≤ 3) : (told t).length ≤ 1000 := by
  have := told_len t
  show (toldL t).toArray.size ≤ 1000
  rw [List.size_toArray]
  omega
theorem ok_yinit (Fn : Fun K "__init__" "Yard.__init__" s_Yard_init f fd) (T : Tx w K mg) (Y : Ty w K mg C) (R : TR w K mg RC GC) (g1 : KF P w K mg base "Reading" RC 1 (cRInit RC)) (g2 : MF P w K mg base RC "whole" 4 (cWhole RC)) : FnOk P w K mg base CX0 5 f fd ["self", "text"] (toSp w (cYInit C)) :=
  fn_ok Fn sc_Yard_init (by rintro _ _ _ ⟨q, t, _, _, rfl, _⟩; rfl) fun b F args M Kx hw hP hc hr => by
    obtain ⟨q, t, hok, hsz, rfl, rfl, rfl⟩ := hc
    have g := bx_good (P := P) (w := w) (K := K) (mg := mg) (base := base) (qual := "Yard.__init__") (b := b) sc_Yard_init
    let Oq : Addr × D := (q, .ins C [] [])
    refine gb_setK g 2 (evk_make (A0 := RC) (Min := []) (Mr := [Oq]) (K := fun r d M' => d = .non ∧ ∃ k b l g, M' = rCells RC ⟨r, k, b, l, g⟩ (told t) 0 [] [] []) g1 (hr.mono (by decide)) hw (ea_cons (ev_v 1) ea_nil) (List.Perm.refl _) (fun r => ⟨r, told t, rfl, rfl, rfl⟩) fun r d Mo h => h.1) fun d M1 hk => ?_
    obtain ⟨rq, Mo, frq, rfl, ⟨_, rk, rb, rl, rg, rfl⟩, rfl⟩ := hk
    let r : Rd := ⟨rq, rk, rb, rl, rg⟩
    refine gb_asgK (evk_meth0 (A0 := RC) (Min := rCells RC r (told t) 0 [] [] []) (Mr := [Oq]) R.cls g2 (hr.mono (by decide)) hw (ev_v 2) (.cell 0) ⟨t, r, told t, hok, hsz, told_small t hsz, rfl, rfl, rfl, rfl⟩ (List.Perm.refl _)) fun d M1 hk => ?_
    obtain ⟨Mo, ⟨p, links, L, rfl, rfl⟩, rfl⟩ := hk
    refine ⟨_, eg_t2 g (eg_n g 3) (eg_n g 4), ?_⟩
    have hll : links.length ≤ 9 := by
      have h1 := lk_len t 0
      have h2 := mul3 hsz hsz
      rw [L.length_eq]
      omega
    have hen := en_len t 0
    have hex := ex_len t 0
    refine gb_fldNew (j := 5) (q := q) (C := C) (ns := []) (xs := []) Y.cls Y.text (ev_v 1) (ev_v 0) ?_
    refine gb_fldNew (j := 4) (q := q) (C := C) (ns := ["text"]) (xs := [.str (told t)]) Y.cls Y.kinds (ev_frz0 (i := 1) (d := .lst ((dvT t).map encK)) (ev_fld (d := .ref rk) (j := 2) R.cls R.kinds (ev_v 2) (.cell 0))) (ev_v 0) ?_
    refine gb_fldNew (j := 3) (q := q) (C := C) (ns := ["text", "kinds"]) (xs := [.str (told t), .lst ((dvT t).map encK)]) Y.cls Y.bounds (ev_frz0 (i := 1) (d := .lst ((dvT t).map fun x => encB x.2)) (ev_fld (d := .ref rb) (j := 3) R.cls R.bounds (ev_v 2) (.cell 0))) (ev_v 0) ?_
    let en := enT t 0
    let ex := exT t 0
    have eb : ∀ (e : D), e ∈ dI en → ∃ i : Int, e = .int i := fun e he => by
      obtain ⟨i, _, rfl⟩ := List.mem_map.mp he
      exact ⟨i, rfl⟩
    refine gb_set g 5 (ev_catL (lc_it (i := 6) (xs := dI en) (f := fun e => .tup [.int (-1), e]) g (pi_list pe_s) (hw_list (ev_v 3)) (blkOk_by (N := n_Yard_init) (sc := defScope s_Yard_init) (by decide +kernel)) (by rw [ints_len]; show (enT t 0).length ≤ _; omega) (fun _ _ _ _ _ => pg_name sc_Yard_init.nd rfl (.inl rfl)) fun _ _ _ _ _ _ _ _ => ev_tup (ea_cons (ev_g T.outside) (ea_cons (ev_v 6) ea_nil)))
      (lc_it (i := 7) (xs := dI ex) (f := fun o => .tup [o, .int (-1)]) g (pi_list pe_s) (hw_list (ev_v 4)) (blkOk_by (N := n_Yard_init) (sc := defScope s_Yard_init) (by decide +kernel)) (by rw [ints_len]; show (exT t 0).length ≤ _; omega) (fun _ _ _ _ _ => pg_name sc_Yard_init.nd rfl (.inl rfl)) fun _ _ _ _ _ _ _ _ => ev_tup (ea_cons (ev_v 7) (ea_cons (ev_g T.outside) ea_nil))) ?_) ?_
    · rw [List.length_map, List.length_map, ints_len, ints_len]
      show (enT t 0).length + (exT t 0).length ≤ _
      omega
    have eo : (dI en).map (fun e => D.tup [.int (-1), e]) ++ (dI ex).map (fun o => D.tup [o, .int (-1)]) = (outerL en ex).map encL := by
      unfold outerL dI
      rw [List.map_map, List.map_map, List.map_append, List.map_map, List.map_map]
      rfl
    rw [eo]
    have hol := outer_len t 0
    refine gb_fldNew (j := 2) (q := q) (C := C) (ns := ["text", "kinds", "bounds"]) (xs := [.str (told t), .lst ((dvT t).map encK), .lst ((dvT t).map fun x => encB x.2)]) Y.cls Y.links (ev_sorted (enc := encL) (xs := links ++ outerL en ex) (pv1 hr) T.sorted ((ev_catL (ev_frz0 (i := 1) (d := .lst (links.map encL)) (ev_fld (d := .ref rl) (j := 4) R.cls R.links (ev_v 2) (.cell 0))) (ev_v 5) (by rw [List.length_map, List.length_map]; show links.length + (outerL (enT t 0) (exT t 0)).length ≤ _; omega)).eq (by rw [cat_L])) (fun _ _ => rfl) (fun _ _ _ _ => rfl) (.inl fun l _ => ⟨_, _, rfl⟩) fun l _ => by show (PyData.tuple [.int l.1, .int l.2]).depth ≤ 32; simp [PyData.depth, PyData.depthAll]) (ev_v 0) ?_
    refine gb_off (Mo := [(q, yardD C (treeY t links))]) (N := [rObj RC r (told t) p, (rg, .lst (refs []))]) ?_ ?_
    · exact ⟨rfl, links, L, rfl⟩
    · exact List.perm_append_comm (l₁ := [rObj RC r (told t) p, (rg, .lst (refs []))]) (l₂ := [(q, yardD C (treeY t links))])
end
end K23

set_option maxHeartbeats 1000000
/-! The law. -/
namespace K23
open PySem PySem.Spec PyProof.Rows L2

theorem raw_links {devs : Devs} {L1 L2 : List (Int × Int)} {n : Nat} {s : Sit} {m : Mv} (h : ∀ l, l ∈ L1 ↔ l ∈ L2) (hm : m ∈ rawMoves devs L1 n s) : m ∈ rawMoves devs L2 n s := by
  obtain ⟨l, hl, hm⟩ := List.mem_flatMap.mp hm
  exact List.mem_flatMap.mpr ⟨l, (h l).mp hl, hm⟩
theorem Path.links {devs : Devs} {L1 L2 : List (Int × Int)} {row : List Int} (h : ∀ l, l ∈ L1 ↔ l ∈ L2) : ∀ {s t : Sit} {ms : List Mv}, Path devs L1 row s ms t → Path devs L2 row s ms t
  | _, _, _, .nil s => .nil s
  | _, _, _, .cons h1 h2 h3 => .cons (raw_links h h1) h2 (Path.links h h3)
theorem IsWay.links {devs : Devs} {L1 L2 : List (Int × Int)} {row : List Int} {ms : List Mv} (h : ∀ l, l ∈ L1 ↔ l ∈ L2) (W : IsWay devs L1 row ms) : IsWay devs L2 row ms := by
  obtain ⟨t, p, e⟩ := W
  exact ⟨t, p.links h, e⟩
theorem Closed.links {devs : Devs} {L1 L2 : List (Int × Int)} {row : List Int} {S : List Sit} (h : ∀ l, l ∈ L1 ↔ l ∈ L2) (C : Closed devs L1 row S) : Closed devs L2 row S :=
  ⟨C.start, C.nogoal, C.ok, fun s hs m hm hl => C.next s hs m (raw_links (fun l => (h l).symm) hm) hl⟩
theorem tree_links {t : Tr} {links : List (Int × Int)} (L : links.Perm (lkT t 0)) (l : Int × Int) : l ∈ (treeY t links).links ↔ l ∈ (planY t).links := by
  show l ∈ srt encL (links ++ outerL (enT t 0) (exT t 0)) ↔ l ∈ srt encL (planL t)
  rw [(srt_perm encL _).mem_iff, (srt_perm encL _).mem_iff]
  exact (L.append_right _).mem_iff
theorem okk_tree {t : Tr} {links : List (Int × Int)} {row : List Int} (L : links.Perm (lkT t 0)) (hok : t.ok) (hs : t.size ≤ 3) (hr : IsRow row) (hl : row.length ≤ 5) : Okk (treeY t links) row ∧ Okk (planY t) row := by
  have h1 := lk_len t 0
  have h2 := mul3 hs hs
  have h3 := outer_len t 0
  have h4 := dvT_len t
  have hp : LinksOk (dvT t).length (srt encL (planL t)) := fun l hl => by
    rw [h4]
    exact plan_ok t l ((srt_perm encL _).mem_iff.mp hl)
  refine ⟨⟨hr, hl, fun l hl => hp l ((tree_links L l).mp hl), by show (dvT t).length ≤ 3; omega, ?_, dv_ok t hok⟩, ⟨hr, hl, hp, by show (dvT t).length ≤ 3; omega, ?_, dv_ok t hok⟩⟩
  · show (srt encL (links ++ outerL (enT t 0) (exT t 0))).length ≤ 100
    rw [(srt_perm encL _).length_eq, List.length_append, L.length_eq]
    omega
  · show (srt encL (lkT t 0 ++ outerL (enT t 0) (exT t 0))).length ≤ 100
    rw [(srt_perm encL _).length_eq, List.length_append]
    omega
theorem good_two (row : List Int) : good (.lst [encRow row, encRow row]) := by
  refine ⟨?_, shaped_of ?_ ?_⟩
  · show (okDs (dI row) && (okDs (dI row) && true)) = true
    rw [okDs_ints]
    rfl
  · show (PyData.list [.list (toPs (dI row)), .list (toPs (dI row))]).canLay0 = true
    rw [toPs_ints]
    simp [PyData.canLay0, PyData.canLayAll0, lay_ints]
  · show (PyData.list [.list (toPs (dI row)), .list (toPs (dI row))]).depth ≤ 64
    rw [toPs_ints]
    simp [PyData.depth, PyData.depthAll, PySem.W.depth_ints]
theorem eqv_two (row : List Int) : PyData.eqv (toP (.lst [encRow row, encRow row])) (toP (.lst [encRow row, encRow row])) = true := by
  have h := eqv_rows row row
  rw [decide_eq_true rfl] at h
  show PyData.eqv (.list [toP (encRow row), toP (encRow row)]) (.list [toP (encRow row), toP (encRow row)]) = true
  simp only [PyData.eqv, PyData.eqvAll]
  rw [h]
  rfl
section
variable {P : Program} {w : World} {K : PySem.W.Frag} {mg : Str → Option Value} {base : Heap} {f : Addr} {fd : FuncData} {C : Addr}
def cLaw (K : PySem.W.Frag) : Ctr := fun args M Kx => ∃ sc : List Int, sc.length ≤ 100 ∧ args = [.scr K (sc.map V.int)] ∧ M = [] ∧ Kx = KD (.bl true) []
theorem ok_law (Fn : Fun K "law" "law" s_law f fd) (T : Tx w K mg) (k kd kt : Nat) (hk : 8 ≤ k) (hkd : kd ≤ k) (hkt : kt ≤ k) (g1 : GF P w K mg base "_law_draws" 2 (cDraws K)) (g2 : GF P w K mg base "_law_drawn" kd cDrawn) (g3 : GF P w K mg base "_law_told" kt (cTold 3)) (g4 : KF P w K mg base "Yard" C 5 (cYInit C)) (g5 : GF P w K mg base "solve" 7 (cSolve C)) (g6 : GF P w K mg base "closed_list" 7 (cClosedList C))
    (g7 : GF P w K mg base "_law_walks" 4 cWalks) (g8 : GF P w K mg base "_law_closed" 4 cLClosed) (g9 : GF P w K mg base "is_closed" 8 (cIsClosed C)) : FnOk P w K mg base CX0 (k + 1) f fd ["_law_script"] (toSp w (cLaw K)) :=
  fn_ok Fn sc_law (by rintro _ _ _ ⟨sc, _, rfl, _⟩; rfl) fun b F args M Kx hw hP hc hr => by
    obtain ⟨sc, hsc, rfl, rfl, rfl⟩ := hc
    have g := bx_good (P := P) (w := w) (K := K) (mg := mg) (base := base) (qual := "law") (b := b) sc_law
    refine gb_setK g 1 (evk_call (Min := []) (Mr := []) g1 (hr.mono (by omega)) hw (ea_cons (ev_v 0) ea_nil) ⟨sc, hsc, rfl, rfl, rfl⟩ (List.Perm.refl _)) fun d M1 hk1 => ?_
    obtain ⟨Mo, ⟨p, ds, rfl, rfl⟩, rfl⟩ := hk1
    refine gb_expr (ev_rev (j := 0) (xs := dI ds) (ev_v 1) rfl) ?_
    have er : [(p, D.lst (dI ds).reverse)] = [(p, encRow ds.reverse)] := by
      unfold encRow dI
      rw [List.map_reverse]
    show GB _ _ F [] _ [(p, D.lst (dI ds).reverse)] _
    rw [er]
    refine gb_asgK (evk_call (Min := [(p, encRow ds.reverse)]) (Mr := []) g2 (hr.mono (by omega)) hw (ea_cons (ev_v 1) (ea_cons ev_i ea_nil)) ⟨p, ds.reverse, rfl, rfl, rfl⟩ (List.Perm.refl _)) fun d M1 hk1 => ?_
    obtain ⟨Mo, ⟨t, row, ds2, hok, hs, hrow, hl, hsm, rfl, rfl⟩, rfl⟩ := hk1
    refine ⟨_, eg_l3 g (eg_n g 2) (eg_n g 3) (eg_n g 4), ?_⟩
    refine gb_setK g 5 (evk_make (A0 := C) (Min := []) (Mr := [(p, encRow ds2)]) (K := fun q d M' => d = .non ∧ ∃ links, links.Perm (lkT t 0) ∧ M' = [(q, yardD C (treeY t links))]) g4 (hr.mono (by omega)) hw (ea_cons ((ev_callP g3 (hr.mono (by omega)) hw (ea_cons (ev_v 2) ea_nil) ⟨t, hok, by have := t.dep_lt; omega, by omega, rfl, rfl, rfl⟩).eq (d1 := .str (told t)) (by rw [strT_told hok])) ea_nil) (List.Perm.refl _) (fun q => ⟨q, t, hok, hs, rfl, rfl, rfl⟩) fun q d Mo h => h.1) fun d M1 hk1 => ?_
    obtain ⟨q, Mo, fq, rfl, ⟨_, links, L, rfl⟩, rfl⟩ := hk1
    refine gb_frz (i := 5) (j := 0) (q := q) (d := yardD C (treeY t links)) ?_
    obtain ⟨O1, O2⟩ := okk_tree L hok hs hrow hl
    have hsm2 : Small (treeY t links).devs.length row.length := by
      show Small (dvT t).length row.length
      rw [dvT_len]
      exact hsm
    let Md : Cells := [(p, encRow ds2)]
    refine gb_set g 6 (M1 := Md) (ev_lst (ea_cons (ev_list T.list (ev_v 4) (.inl rfl)) (ea_cons (ev_list T.list (ev_v 4) (.inl rfl)) ea_nil))) ?_
    refine gb_setK g 7 (evk_call (Min := []) (Mr := Md) g5 (hr.mono (by omega)) hw (ea_cons (ev_v 5) (ea_cons (ev_ixL (d := encRow row) (ev_v 6) ev_i rfl) ea_nil)) ⟨treeY t links, row, O1, hsm2, rfl, rfl, rfl⟩ (List.Perm.refl _)) fun d7 M1 hk1 => ?_
    obtain ⟨Mo, ⟨rfl, h7⟩, rfl⟩ := hk1
    refine gb_setK g 8 (evk_call (Min := []) (Mr := Md) g6 (hr.mono (by omega)) hw (ea_cons (ev_v 5) (ea_cons (ev_ixL (d := encRow row) (ev_v 6) ev_i rfl) ea_nil)) ⟨treeY t links, row, O1, hsm2, rfl, rfl, rfl⟩ (List.Perm.refl _)) fun d8 M1 hk1 => ?_
    obtain ⟨Mo, ⟨rfl, h8⟩, rfl⟩ := hk1
    refine gb_when (t := false) (M1 := Md) ((et_neD (pv1 hr) (ev_v 6) (ev_lst (ea_cons (ev_v 4) (ea_cons (ev_v 4) ea_nil))) (good_two row) (good_two row)).eq (by rw [eqv_two]; rfl)) (fun h => by cases h) fun _ => ?_
    rcases h7 with ⟨ms, rfl, hml, hway⟩ | ⟨rfl, S, hS⟩
    · rcases h8 with ⟨rfl, _⟩ | ⟨S, rfl, _, _, hS⟩
      · refine gb_when (t := true) (M1 := Md) ((et_notN (ev_v 7)).eq rfl) (fun _ => ?_) fun h => by cases h
        refine gb_retD (N := Md) (ev_and3 (k := true) (j := true) (l := true) (ev_isiL T.isinstance T.list (ev_v 7)) (fun _ => (ev_isN (ev_v 8)).eq rfl) fun _ _ => ev_callP g7 (hr.mono (by omega)) hw (ea_cons (ev_v 3) (ea_cons (ev_v 4) (ea_cons (ev_v 7) ea_nil))) ⟨_, _, _, planY t, row, ms, O2, hway.links (tree_links L), rfl, rfl, rfl⟩)
      · exact (way_closed hS hway).elim
    · rcases h8 with ⟨rfl, ms, hms⟩ | ⟨S', rfl, nd, hSl, hS'⟩
      · exact (way_closed hS hms).elim
      · refine gb_when (t := false) (M1 := Md) ((et_notN (ev_v 7)).eq rfl) (fun h => by cases h) fun _ => ?_
        refine gb_when (t := false) (M1 := Md) ((et_or (k := false) (j := false) (et_not (et_val (ev_isiL T.isinstance T.list (ev_v 8)))) fun _ => et_not (et_val (ev_callP g8 (hr.mono (by omega)) hw (ea_cons (ev_v 3) (ea_cons (ev_v 4) (ea_cons (ev_v 8) ea_nil))) ⟨_, _, _, planY t, row, S', O2, hS'.links (tree_links L), nd, hSl, rfl, rfl, rfl⟩))).eq rfl) (fun h => by cases h) fun _ => ?_
        exact gb_retD (N := Md) (ev_isT (i := true) (ev_callP g9 (hr.mono (by omega)) hw (ea_cons (ev_v 5) (ea_cons (ev_list T.list (ev_v 4) (.inl rfl)) (ea_cons (ev_list T.list (ev_v 8) (.inl rfl)) ea_nil))) ⟨treeY t links, row, S', O1, hS', nd, hSl, rfl, rfl, rfl⟩))
end
end K23

set_option maxHeartbeats 1000000
/-! All defs together. -/
namespace K23
open PySem PySem.Spec PyProof.Rows L2

def BindOk (x qual : Str) (st : Stmt) (ps : List Str) : Prop := ∀ (kV dc pm : Value) (an : Option Addr) (cd ct : Value) (us : List Value), us.length = ps.length → bindArgs (PySem.W.fnOf x qual (defArgs st) (defBody st) (defScope st) .none kV dc pm an cd ct) ⟨us, []⟩ = pure (ps.zip us)
structure DefG (K : PySem.W.Frag) (mg : Str → Option Value) (x qual : Str) (st : Stmt) (ps : List Str) : Prop where
  ex : ∃ f fd, mg x = some (.ref f) ∧ Fun K x qual st f fd ∧ Binds K fd ps []
structure DefM (K : PySem.W.Frag) (C : Addr) (x qual : Str) (st : Stmt) (ps : List Str) : Prop where
  ex : ∃ f fd, Meth K C x f ∧ Fun K x qual st f fd ∧ Binds K fd ps []
structure DefK (K : PySem.W.Frag) (mg : Str → Option Value) (x : Str) (C : Addr) (qual : Str) (st : Stmt) (ps : List Str) : Prop where
  ex : ∃ f fd, mg x = some (.ref C) ∧ Mk K C f ∧ Fun K "__init__" qual st f fd ∧ Binds K fd ps []
section
variable {K : PySem.W.Frag} {h : Heap} {mg : Str → Option Value} {x qual : Str} {st : Stmt} {ps : List Str} {f C : Addr} {od an : Option Addr} {sl : Array (Option Value)} {oc kV dc pm cd ct : Value}
theorem defG_mk (X : K.In h) (G : h.Ns mainGlobals mg) (b : BindOk x qual st ps) (a : PySem.W.nsIn K mainGlobals x = some (some (.ref f))) (l : K.lookup f = some ⟨oc, od, .func (PySem.W.fnOf x qual (defArgs st) (defBody st) (defScope st) .none kV dc pm an cd ct), sl⟩) (c : PySem.W.codeIn K cd qual = true) (k : PySem.W.keepIn K (.ref f) = true) : DefG K mg x qual st ps :=
  ⟨f, _, PySem.W.mg_of X G a, fun_mk l c k, (fun_mk (st := st) l c k).binds b⟩
theorem defM_mk (b : BindOk x qual st ps) (a : PySem.W.findIn K (.ref C) x = some (some (.ref f))) (i : PySem.W.isFn K (.ref f) = true) (l : K.lookup f = some ⟨oc, od, .func (PySem.W.fnOf x qual (defArgs st) (defBody st) (defScope st) .none kV dc pm an cd ct), sl⟩) (c : PySem.W.codeIn K cd qual = true) (k : PySem.W.keepIn K (.ref f) = true) : DefM K C x qual st ps :=
  ⟨f, _, ⟨a, i, k⟩, fun_mk l c k, (fun_mk (st := st) l c k).binds b⟩
theorem defK_mk (X : K.In h) (G : h.Ns mainGlobals mg) (b : BindOk "__init__" qual st ps) (a : PySem.W.nsIn K mainGlobals x = some (some (.ref C))) (m : PySem.W.makesIn K C = true) (i0 : PySem.W.findIn K (.ref C) "__init__" = some (some (.ref f))) (i : PySem.W.isFn K (.ref f) = true) (kc : PySem.W.keepIn K (.ref C) = true) (l : K.lookup f = some ⟨oc, od, .func (PySem.W.fnOf "__init__" qual (defArgs st) (defBody st) (defScope st) .none kV dc pm an cd ct), sl⟩) (c : PySem.W.codeIn K cd qual = true) (k : PySem.W.keepIn K (.ref f) = true) : DefK K mg x C qual st ps :=
  ⟨f, _, PySem.W.mg_of X G a, ⟨m, i0, i, kc⟩, fun_mk l c k, (fun_mk (st := st) l c k).binds b⟩
end
section
variable {P : Program} {w : World} {K : PySem.W.Frag} {mg : Str → Option Value} {base : Heap} {x qual : Str} {st : Stmt} {ps : List Str} {C : Addr} {k : Nat} {Ct : Ctr}
theorem DefG.gf (d : DefG K mg x qual st ps) (fo : ∀ f fd, Fun K x qual st f fd → FnOk P w K mg base CX0 k f fd ps (toSp w Ct)) : GF P w K mg base x k Ct := by
  obtain ⟨f, fd, h1, h2, h3⟩ := d.ex
  exact ⟨f, fd, ps, h1, fo f fd h2, h2.kp, h3⟩
theorem DefM.mf (d : DefM K C x qual st ps) (fo : ∀ f fd, Fun K x qual st f fd → FnOk P w K mg base CX0 k f fd ps (toSp w Ct)) : MF P w K mg base C x k Ct := by
  obtain ⟨f, fd, h1, h2, h3⟩ := d.ex
  exact ⟨f, fd, ps, h1, fo f fd h2, h3⟩
theorem DefK.kf (d : DefK K mg x C qual st ps) (fo : ∀ f fd, Fun K "__init__" qual st f fd → FnOk P w K mg base CX0 k f fd ps (toSp w Ct)) : KF P w K mg base x C k Ct := by
  obtain ⟨f, fd, h1, h2, h3, h4⟩ := d.ex
  exact ⟨f, fd, ps, h1, h2, fo f fd h3, h4⟩
end
theorem bo_is_row : BindOk "is_row" "is_row" s_is_row ["numbers"] := fun _ _ _ _ _ _ us hl => match us, hl with | [_], _ => rfl
theorem bo_check_row : BindOk "check_row" "check_row" s_check_row ["row"] := fun _ _ _ _ _ _ us hl => match us, hl with | [_], _ => rfl
theorem bo_wagon_of : BindOk "wagon_of" "wagon_of" s_wagon_of ["row", "situation", "move"] := fun _ _ _ _ _ _ us hl => match us, hl with | [_, _, _], _ => rfl
theorem bo_after : BindOk "after" "after" s_after ["row", "situation", "move"] := fun _ _ _ _ _ _ us hl => match us, hl with | [_, _, _], _ => rfl
theorem bo_is_live : BindOk "is_live" "is_live" s_is_live ["situation"] := fun _ _ _ _ _ _ us hl => match us, hl with | [_], _ => rfl
theorem bo_Yard_len : BindOk "__len__" "Yard.__len__" s_Yard_len ["self"] := fun _ _ _ _ _ _ us hl => match us, hl with | [_], _ => rfl
theorem bo_Yard_ins : BindOk "ins" "Yard.ins" s_Yard_ins ["self", "device"] := fun _ _ _ _ _ _ us hl => match us, hl with | [_, _], _ => rfl
theorem bo_Yard_outs : BindOk "outs" "Yard.outs" s_Yard_outs ["self", "device"] := fun _ _ _ _ _ _ us hl => match us, hl with | [_, _], _ => rfl
theorem bo_Yard_room : BindOk "room" "Yard.room" s_Yard_room ["self", "device", "count"] := fun _ _ _ _ _ _ us hl => match us, hl with | [_, _, _], _ => rfl
theorem bo_Group_init : BindOk "__init__" "Group.__init__" s_Group_init ["self", "sign"] := fun _ _ _ _ _ _ us hl => match us, hl with | [_, _], _ => rfl
theorem bo_Reading_init : BindOk "__init__" "Reading.__init__" s_Reading_init ["self", "text"] := fun _ _ _ _ _ _ us hl => match us, hl with | [_, _], _ => rfl
theorem bo_Reading_sign : BindOk "sign" "Reading.sign" s_Reading_sign ["self"] := fun _ _ _ _ _ _ us hl => match us, hl with | [_], _ => rfl
theorem bo_Reading_device : BindOk "device" "Reading.device" s_Reading_device ["self"] := fun _ _ _ _ _ _ us hl => match us, hl with | [_], _ => rfl
theorem bo_Reading_joined : BindOk "joined" "Reading.joined" s_Reading_joined ["self", "group"] := fun _ _ _ _ _ _ us hl => match us, hl with | [_, _], _ => rfl
theorem bo_Reading_closed : BindOk "closed" "Reading.closed" s_Reading_closed ["self", "yard"] := fun _ _ _ _ _ _ us hl => match us, hl with | [_, _], _ => rfl
theorem bo_Reading_first_device : BindOk "first_device" "Reading.first_device" s_Reading_first_device ["self"] := fun _ _ _ _ _ _ us hl => match us, hl with | [_], _ => rfl
theorem bo_Reading_whole : BindOk "whole" "Reading.whole" s_Reading_whole ["self"] := fun _ _ _ _ _ _ us hl => match us, hl with | [_], _ => rfl
theorem bo_Yard_init : BindOk "__init__" "Yard.__init__" s_Yard_init ["self", "text"] := fun _ _ _ _ _ _ us hl => match us, hl with | [_, _], _ => rfl
theorem bo_first_situation : BindOk "first_situation" "first_situation" s_first_situation ["yard", "row"] := fun _ _ _ _ _ _ us hl => match us, hl with | [_, _], _ => rfl
theorem bo_is_situation : BindOk "is_situation" "is_situation" s_is_situation ["yard", "row", "situation"] := fun _ _ _ _ _ _ us hl => match us, hl with | [_, _, _], _ => rfl
theorem bo_source_ends : BindOk "source_ends" "source_ends" s_source_ends ["yard", "row", "situation", "source"] := fun _ _ _ _ _ _ us hl => match us, hl with | [_, _, _, _], _ => rfl
theorem bo_target_ends : BindOk "target_ends" "target_ends" s_target_ends ["yard", "situation", "target"] := fun _ _ _ _ _ _ us hl => match us, hl with | [_, _, _], _ => rfl
theorem bo_possible : BindOk "possible" "possible" s_possible ["yard", "row", "situation"] := fun _ _ _ _ _ _ us hl => match us, hl with | [_, _, _], _ => rfl
theorem bo_live_behind : BindOk "live_behind" "live_behind" s_live_behind ["yard", "row", "situation"] := fun _ _ _ _ _ _ us hl => match us, hl with | [_, _, _], _ => rfl
theorem bo_is_gap : BindOk "is_gap" "is_gap" s_is_gap ["yard", "row", "situation", "known"] := fun _ _ _ _ _ _ us hl => match us, hl with | [_, _, _, _], _ => rfl
theorem bo_gap_from : BindOk "gap_from" "gap_from" s_gap_from ["yard", "row", "start", "situations"] := fun _ _ _ _ _ _ us hl => match us, hl with | [_, _, _, _], _ => rfl
theorem bo_first_gap : BindOk "first_gap" "first_gap" s_first_gap ["yard", "row", "situations"] := fun _ _ _ _ _ _ us hl => match us, hl with | [_, _, _], _ => rfl
theorem bo_is_closed : BindOk "is_closed" "is_closed" s_is_closed ["yard", "row", "situations"] := fun _ _ _ _ _ _ us hl => match us, hl with | [_, _, _], _ => rfl
theorem bo_Search_is_goal : BindOk "is_goal" "Search.is_goal" s_Search_is_goal ["self", "situation"] := fun _ _ _ _ _ _ us hl => match us, hl with | [_, _], _ => rfl
theorem bo_Search_init : BindOk "__init__" "Search.__init__" s_Search_init ["self", "yard", "row", "situation"] := fun _ _ _ _ _ _ us hl => match us, hl with | [_, _, _, _], _ => rfl
theorem bo_Search_look : BindOk "look" "Search.look" s_Search_look ["self", "index"] := fun _ _ _ _ _ _ us hl => match us, hl with | [_, _], _ => rfl
theorem bo_Search_finish : BindOk "finish" "Search.finish" s_Search_finish ["self"] := fun _ _ _ _ _ _ us hl => match us, hl with | [_], _ => rfl
theorem bo_Search_way : BindOk "way" "Search.way" s_Search_way ["self"] := fun _ _ _ _ _ _ us hl => match us, hl with | [_], _ => rfl
theorem bo_search_from : BindOk "search_from" "search_from" s_search_from ["yard", "row", "situation"] := fun _ _ _ _ _ _ us hl => match us, hl with | [_, _, _], _ => rfl
theorem bo_solve : BindOk "solve" "solve" s_solve ["yard", "row"] := fun _ _ _ _ _ _ us hl => match us, hl with | [_, _], _ => rfl
theorem bo_closed_list : BindOk "closed_list" "closed_list" s_closed_list ["yard", "row"] := fun _ _ _ _ _ _ us hl => match us, hl with | [_, _], _ => rfl
theorem bo_law_number : BindOk "_law_number" "_law_number" s_law_number ["_law_cell"] := fun _ _ _ _ _ _ us hl => match us, hl with | [_], _ => rfl
theorem bo_law_draws : BindOk "_law_draws" "_law_draws" s_law_draws ["_law_script"] := fun _ _ _ _ _ _ us hl => match us, hl with | [_], _ => rfl
theorem bo_law_next : BindOk "_law_next" "_law_next" s_law_next ["_law_draws_here"] := fun _ _ _ _ _ _ us hl => match us, hl with | [_], _ => rfl
theorem bo_law_told : BindOk "_law_told" "_law_told" s_law_told ["_law_tree_here"] := fun _ _ _ _ _ _ us hl => match us, hl with | [_], _ => rfl
theorem bo_law_net : BindOk "_law_net" "_law_net" s_law_net ["_law_tree_here", "_law_first"] := fun _ _ _ _ _ _ us hl => match us, hl with | [_, _], _ => rfl
theorem bo_law_tree : BindOk "_law_tree" "_law_tree" s_law_tree ["_law_draws_here", "_law_room"] := fun _ _ _ _ _ _ us hl => match us, hl with | [_, _], _ => rfl
theorem bo_law_plan : BindOk "_law_plan" "_law_plan" s_law_plan ["_law_tree_here"] := fun _ _ _ _ _ _ us hl => match us, hl with | [_], _ => rfl
theorem bo_law_row : BindOk "_law_row" "_law_row" s_law_row ["_law_draws_here", "_law_size"] := fun _ _ _ _ _ _ us hl => match us, hl with | [_, _], _ => rfl
theorem bo_law_drawn : BindOk "_law_drawn" "_law_drawn" s_law_drawn ["_law_draws_here", "_law_most"] := fun _ _ _ _ _ _ us hl => match us, hl with | [_, _], _ => rfl
theorem bo_law_outs : BindOk "_law_outs" "_law_outs" s_law_outs ["_law_net_here", "_law_row_here", "_law_situation", "_law_source"] := fun _ _ _ _ _ _ us hl => match us, hl with | [_, _, _, _], _ => rfl
theorem bo_law_ins : BindOk "_law_ins" "_law_ins" s_law_ins ["_law_net_here", "_law_situation", "_law_target"] := fun _ _ _ _ _ _ us hl => match us, hl with | [_, _, _], _ => rfl
theorem bo_law_moves : BindOk "_law_moves" "_law_moves" s_law_moves ["_law_net_here", "_law_row_here", "_law_situation"] := fun _ _ _ _ _ _ us hl => match us, hl with | [_, _, _], _ => rfl
theorem bo_law_behind : BindOk "_law_behind" "_law_behind" s_law_behind ["_law_row_here", "_law_situation", "_law_move"] := fun _ _ _ _ _ _ us hl => match us, hl with | [_, _, _], _ => rfl
theorem bo_law_live : BindOk "_law_live" "_law_live" s_law_live ["_law_situation"] := fun _ _ _ _ _ _ us hl => match us, hl with | [_], _ => rfl
theorem bo_law_start : BindOk "_law_start" "_law_start" s_law_start ["_law_net_here"] := fun _ _ _ _ _ _ us hl => match us, hl with | [_], _ => rfl
theorem bo_law_walks : BindOk "_law_walks" "_law_walks" s_law_walks ["_law_net_here", "_law_row_here", "_law_way"] := fun _ _ _ _ _ _ us hl => match us, hl with | [_, _, _], _ => rfl
theorem bo_law_closed : BindOk "_law_closed" "_law_closed" s_law_closed ["_law_net_here", "_law_row_here", "_law_situations"] := fun _ _ _ _ _ _ us hl => match us, hl with | [_, _, _], _ => rfl
theorem bo_law : BindOk "law" "law" s_law ["_law_script"] := fun _ _ _ _ _ _ us hl => match us, hl with | [_], _ => rfl
structure All (K : PySem.W.Frag) (mg : Str → Option Value) (C RC GC SC : Addr) : Prop where
  d_is_row : DefG K mg "is_row" "is_row" s_is_row ["numbers"]
  d_check_row : DefG K mg "check_row" "check_row" s_check_row ["row"]
  d_wagon_of : DefG K mg "wagon_of" "wagon_of" s_wagon_of ["row", "situation", "move"]
  d_after : DefG K mg "after" "after" s_after ["row", "situation", "move"]
  d_is_live : DefG K mg "is_live" "is_live" s_is_live ["situation"]
  d_Yard_len : DefM K C "__len__" "Yard.__len__" s_Yard_len ["self"]
  d_Yard_ins : DefM K C "ins" "Yard.ins" s_Yard_ins ["self", "device"]
  d_Yard_outs : DefM K C "outs" "Yard.outs" s_Yard_outs ["self", "device"]
  d_Yard_room : DefM K C "room" "Yard.room" s_Yard_room ["self", "device", "count"]
  d_Group_init : DefK K mg "Group" GC "Group.__init__" s_Group_init ["self", "sign"]
  d_Reading_init : DefK K mg "Reading" RC "Reading.__init__" s_Reading_init ["self", "text"]
  d_Reading_sign : DefM K RC "sign" "Reading.sign" s_Reading_sign ["self"]
  d_Reading_device : DefM K RC "device" "Reading.device" s_Reading_device ["self"]
  d_Reading_joined : DefM K RC "joined" "Reading.joined" s_Reading_joined ["self", "group"]
  d_Reading_closed : DefM K RC "closed" "Reading.closed" s_Reading_closed ["self", "yard"]
  d_Reading_first_device : DefM K RC "first_device" "Reading.first_device" s_Reading_first_device ["self"]
  d_Reading_whole : DefM K RC "whole" "Reading.whole" s_Reading_whole ["self"]
  d_Yard_init : DefK K mg "Yard" C "Yard.__init__" s_Yard_init ["self", "text"]
  d_first_situation : DefG K mg "first_situation" "first_situation" s_first_situation ["yard", "row"]
  d_is_situation : DefG K mg "is_situation" "is_situation" s_is_situation ["yard", "row", "situation"]
  d_source_ends : DefG K mg "source_ends" "source_ends" s_source_ends ["yard", "row", "situation", "source"]
  d_target_ends : DefG K mg "target_ends" "target_ends" s_target_ends ["yard", "situation", "target"]
  d_possible : DefG K mg "possible" "possible" s_possible ["yard", "row", "situation"]
  d_live_behind : DefG K mg "live_behind" "live_behind" s_live_behind ["yard", "row", "situation"]
  d_is_gap : DefG K mg "is_gap" "is_gap" s_is_gap ["yard", "row", "situation", "known"]
  d_gap_from : DefG K mg "gap_from" "gap_from" s_gap_from ["yard", "row", "start", "situations"]
  d_first_gap : DefG K mg "first_gap" "first_gap" s_first_gap ["yard", "row", "situations"]
  d_is_closed : DefG K mg "is_closed" "is_closed" s_is_closed ["yard", "row", "situations"]
  d_Search_is_goal : DefM K SC "is_goal" "Search.is_goal" s_Search_is_goal ["self", "situation"]
  d_Search_init : DefK K mg "Search" SC "Search.__init__" s_Search_init ["self", "yard", "row", "situation"]
  d_Search_look : DefM K SC "look" "Search.look" s_Search_look ["self", "index"]
  d_Search_finish : DefM K SC "finish" "Search.finish" s_Search_finish ["self"]
  d_Search_way : DefM K SC "way" "Search.way" s_Search_way ["self"]
  d_search_from : DefG K mg "search_from" "search_from" s_search_from ["yard", "row", "situation"]
  d_solve : DefG K mg "solve" "solve" s_solve ["yard", "row"]
  d_closed_list : DefG K mg "closed_list" "closed_list" s_closed_list ["yard", "row"]
  d_law_number : DefG K mg "_law_number" "_law_number" s_law_number ["_law_cell"]
  d_law_draws : DefG K mg "_law_draws" "_law_draws" s_law_draws ["_law_script"]
  d_law_next : DefG K mg "_law_next" "_law_next" s_law_next ["_law_draws_here"]
  d_law_told : DefG K mg "_law_told" "_law_told" s_law_told ["_law_tree_here"]
  d_law_net : DefG K mg "_law_net" "_law_net" s_law_net ["_law_tree_here", "_law_first"]
  d_law_tree : DefG K mg "_law_tree" "_law_tree" s_law_tree ["_law_draws_here", "_law_room"]
  d_law_plan : DefG K mg "_law_plan" "_law_plan" s_law_plan ["_law_tree_here"]
  d_law_row : DefG K mg "_law_row" "_law_row" s_law_row ["_law_draws_here", "_law_size"]
  d_law_drawn : DefG K mg "_law_drawn" "_law_drawn" s_law_drawn ["_law_draws_here", "_law_most"]
  d_law_outs : DefG K mg "_law_outs" "_law_outs" s_law_outs ["_law_net_here", "_law_row_here", "_law_situation", "_law_source"]
  d_law_ins : DefG K mg "_law_ins" "_law_ins" s_law_ins ["_law_net_here", "_law_situation", "_law_target"]
  d_law_moves : DefG K mg "_law_moves" "_law_moves" s_law_moves ["_law_net_here", "_law_row_here", "_law_situation"]
  d_law_behind : DefG K mg "_law_behind" "_law_behind" s_law_behind ["_law_row_here", "_law_situation", "_law_move"]
  d_law_live : DefG K mg "_law_live" "_law_live" s_law_live ["_law_situation"]
  d_law_start : DefG K mg "_law_start" "_law_start" s_law_start ["_law_net_here"]
  d_law_walks : DefG K mg "_law_walks" "_law_walks" s_law_walks ["_law_net_here", "_law_row_here", "_law_way"]
  d_law_closed : DefG K mg "_law_closed" "_law_closed" s_law_closed ["_law_net_here", "_law_row_here", "_law_situations"]
  d_law : DefG K mg "law" "law" s_law ["_law_script"]
section
variable {P : Program} {w : World} {K : PySem.W.Frag} {mg : Str → Option Value} {base : Heap} {C RC GC SC : Addr}
theorem all_law (A : All K mg C RC GC SC) (T : Tx w K mg) (Y : Ty w K mg C) (R : TR w K mg RC GC) (S : Ts K SC) {f : Addr} {fd : FuncData} (F : Fun K "law" "law" s_law f fd) : FnOk P w K mg base CX0 11 f fd ["_law_script"] (toSp w (cLaw K)) := by
  have G_is_row : GF P w K mg base "is_row" 1 cIsRow := A.d_is_row.gf fun f fd F => ok_is_row F T
  have G_check_row : GF P w K mg base "check_row" 2 cCheck := A.d_check_row.gf fun f fd F => ok_check F G_is_row
  have G_wagon_of : GF P w K mg base "wagon_of" 1 cWag := A.d_wagon_of.gf fun f fd F => ok_wag F T
  have G_after : GF P w K mg base "after" 2 cAfter := A.d_after.gf fun f fd F => ok_after F T G_wagon_of
  have G_is_live : GF P w K mg base "is_live" 1 cLive := A.d_is_live.gf fun f fd F => ok_live F T
  have M_Yard_len : MF P w K mg base C "__len__" 1 (cYLen C) := A.d_Yard_len.mf fun f fd F => ok_ylen F T Y
  have M_Yard_ins : MF P w K mg base C "ins" 1 (cYIns C) := A.d_Yard_ins.mf fun f fd F => ok_yins F T Y
  have M_Yard_outs : MF P w K mg base C "outs" 1 (cYOuts C) := A.d_Yard_outs.mf fun f fd F => ok_youts F T Y
  have M_Yard_room : MF P w K mg base C "room" 1 (cYRoom C) := A.d_Yard_room.mf fun f fd F => ok_yroom F Y
  have K_Group_init : KF P w K mg base "Group" GC 1 (cGInit GC) := A.d_Group_init.kf fun f fd F => ok_ginit F R
  have K_Reading_init : KF P w K mg base "Reading" RC 1 (cRInit RC) := A.d_Reading_init.kf fun f fd F => ok_rinit F R
  have M_Reading_sign : MF P w K mg base RC "sign" 1 (cSign RC) := A.d_Reading_sign.mf fun f fd F => ok_sign F R
  have M_Reading_device : MF P w K mg base RC "device" 2 (cDevice RC) := A.d_Reading_device.mf fun f fd F => ok_device F T R M_Reading_sign
  have M_Reading_joined : MF P w K mg base RC "joined" 1 (cJoined RC GC) := A.d_Reading_joined.mf fun f fd F => ok_joined F T R
  have M_Reading_closed : MF P w K mg base RC "closed" 2 (cClose RC GC) := A.d_Reading_closed.mf fun f fd F => ok_close F T R M_Reading_sign M_Reading_joined
  have M_Reading_first_device : MF P w K mg base RC "first_device" 3 (cFirst2 RC GC) := A.d_Reading_first_device.mf fun f fd F => ok_first2 F T R M_Reading_sign M_Reading_device K_Group_init
  have M_Reading_whole : MF P w K mg base RC "whole" 4 (cWhole RC) := A.d_Reading_whole.mf fun f fd F => ok_whole F T R M_Reading_sign M_Reading_first_device M_Reading_closed
  have K_Yard_init : KF P w K mg base "Yard" C 5 (cYInit C) := A.d_Yard_init.kf fun f fd F => ok_yinit F T Y R K_Reading_init M_Reading_whole
  have G_first_situation : GF P w K mg base "first_situation" 3 (cFirst C) := A.d_first_situation.gf fun f fd F => ok_first F T G_check_row M_Yard_len
  have G_is_situation : GF P w K mg base "is_situation" 3 (cIsSit C) := A.d_is_situation.gf fun f fd F => ok_issit F T Y M_Yard_len
  have G_source_ends : GF P w K mg base "source_ends" 2 (cSrc C) := A.d_source_ends.gf fun f fd F => ok_src F T Y M_Yard_outs
  have G_target_ends : GF P w K mg base "target_ends" 2 (cTgt C) := A.d_target_ends.gf fun f fd F => ok_tgt F T Y M_Yard_ins M_Yard_room
  have G_possible : GF P w K mg base "possible" 3 (cPoss C) := A.d_possible.gf fun f fd F => ok_poss F T Y G_source_ends G_target_ends
  have G_live_behind : GF P w K mg base "live_behind" 4 (cBeh C) := A.d_live_behind.gf fun f fd F => ok_beh F T G_possible G_after G_is_live
  have G_is_gap : GF P w K mg base "is_gap" 5 (cIsGap C) := A.d_is_gap.gf fun f fd F => ok_isgap F T G_is_situation G_live_behind G_is_live
  have G_gap_from : GF P w K mg base "gap_from" 6 (cGapFrom C) := A.d_gap_from.gf fun f fd F => ok_gapfrom F T G_is_gap
  have G_first_gap : GF P w K mg base "first_gap" 7 (cFirstGap C) := A.d_first_gap.gf fun f fd F => ok_firstgap F G_gap_from G_first_situation
  have G_is_closed : GF P w K mg base "is_closed" 8 (cIsClosed C) := A.d_is_closed.gf fun f fd F => ok_isclosed F G_first_gap
  have M_Search_is_goal : MF P w K mg base SC "is_goal" 1 (cGoal SC) := A.d_Search_is_goal.mf fun f fd F => ok_goal F T S
  have K_Search_init : KF P w K mg base "Search" SC 2 (cSInit C SC) := A.d_Search_init.kf fun f fd F => ok_sinit F T S M_Search_is_goal
  have M_Search_look : MF P w K mg base SC "look" 4 (cLook C SC) := A.d_Search_look.mf fun f fd F => ok_look F T S G_possible G_after G_is_live M_Search_is_goal
  have M_Search_finish : MF P w K mg base SC "finish" 5 (cFinish C SC) := A.d_Search_finish.mf fun f fd F => ok_finish F T S M_Search_look
  have M_Search_way : MF P w K mg base SC "way" 1 (cWay C SC) := A.d_Search_way.mf fun f fd F => ok_way F T S
  have G_search_from : GF P w K mg base "search_from" 6 (cFrom C SC) := A.d_search_from.gf fun f fd F => ok_from F K_Search_init S M_Search_finish
  have G_solve : GF P w K mg base "solve" 7 (cSolve C) := A.d_solve.gf fun f fd F => ok_solve F G_search_from G_first_situation S M_Search_way
  have G_closed_list : GF P w K mg base "closed_list" 7 (cClosedList C) := A.d_closed_list.gf fun f fd F => ok_closedlist F T G_search_from G_first_situation S
  have G_law_number : GF P w K mg base "_law_number" 1 cNumber := A.d_law_number.gf fun f fd F => ok_number F
  have G_law_draws : GF P w K mg base "_law_draws" 2 (cDraws K) := A.d_law_draws.gf fun f fd F => ok_draws F T G_law_number
  have G_law_next : GF P w K mg base "_law_next" 1 cNext := A.d_law_next.gf fun f fd F => ok_next F
  have G_law_told0 : GF P w K mg base "_law_told" 2 (cTold 0) := A.d_law_told.gf fun f fd F => ok_told0 F T 0 1 (by decide) (fun m hm => absurd hm (Nat.succ_ne_zero m))
  have G_law_told1 : GF P w K mg base "_law_told" 3 (cTold 1) := A.d_law_told.gf fun f fd F => ok_told0 F T 1 2 (by decide) (fun m hm => by cases hm; exact G_law_told0)
  have G_law_told2 : GF P w K mg base "_law_told" 4 (cTold 2) := A.d_law_told.gf fun f fd F => ok_told0 F T 2 3 (by decide) (fun m hm => by cases hm; exact G_law_told1)
  have G_law_told3 : GF P w K mg base "_law_told" 5 (cTold 3) := A.d_law_told.gf fun f fd F => ok_told0 F T 3 4 (by decide) (fun m hm => by cases hm; exact G_law_told2)
  have G_law_net0 : GF P w K mg base "_law_net" 2 (cNet 0) := A.d_law_net.gf fun f fd F => ok_net0 F T 0 1 (fun m hm => absurd hm (Nat.succ_ne_zero m))
  have G_law_net1 : GF P w K mg base "_law_net" 3 (cNet 1) := A.d_law_net.gf fun f fd F => ok_net0 F T 1 2 (fun m hm => by cases hm; exact G_law_net0)
  have G_law_net2 : GF P w K mg base "_law_net" 4 (cNet 2) := A.d_law_net.gf fun f fd F => ok_net0 F T 2 3 (fun m hm => by cases hm; exact G_law_net1)
  have G_law_net3 : GF P w K mg base "_law_net" 5 (cNet 3) := A.d_law_net.gf fun f fd F => ok_net0 F T 3 4 (fun m hm => by cases hm; exact G_law_net2)
  have G_law_tree0 : GF P w K mg base "_law_tree" 6 (cTree 0) := A.d_law_tree.gf fun f fd F => ok_tree0 F T 0 5 5 (by decide) (by decide) G_law_next G_law_net3 (fun m hm => absurd hm (Nat.succ_ne_zero m))
  have G_law_tree1 : GF P w K mg base "_law_tree" 7 (cTree 1) := A.d_law_tree.gf fun f fd F => ok_tree0 F T 1 6 5 (by decide) (by decide) G_law_next G_law_net3 (fun m hm => by cases hm; exact G_law_tree0)
  have G_law_tree2 : GF P w K mg base "_law_tree" 8 (cTree 2) := A.d_law_tree.gf fun f fd F => ok_tree0 F T 2 7 5 (by decide) (by decide) G_law_next G_law_net3 (fun m hm => by cases hm; exact G_law_tree1)
  have G_law_tree3 : GF P w K mg base "_law_tree" 9 (cTree 3) := A.d_law_tree.gf fun f fd F => ok_tree0 F T 3 8 5 (by decide) (by decide) G_law_next G_law_net3 (fun m hm => by cases hm; exact G_law_tree2)
  have G_law_plan : GF P w K mg base "_law_plan" 6 cPlan := A.d_law_plan.gf fun f fd F => ok_plan0 F T 5 G_law_net3
  have G_law_row : GF P w K mg base "_law_row" 2 cRow := A.d_law_row.gf fun f fd F => ok_row F T G_law_next
  have G_law_drawn : GF P w K mg base "_law_drawn" 10 cDrawn := A.d_law_drawn.gf fun f fd F => ok_drawn F T 9 6 9 (by decide) (by decide) (by decide) G_law_next G_law_tree3 G_law_plan G_law_row
  have G_law_outs : GF P w K mg base "_law_outs" 1 cLOuts := A.d_law_outs.gf fun f fd F => ok_louts F T
  have G_law_ins : GF P w K mg base "_law_ins" 1 cLIns := A.d_law_ins.gf fun f fd F => ok_lins F T
  have G_law_moves : GF P w K mg base "_law_moves" 3 cLMoves := A.d_law_moves.gf fun f fd F => ok_lmoves F T G_law_outs G_law_ins
  have G_law_behind : GF P w K mg base "_law_behind" 1 cAfter := A.d_law_behind.gf fun f fd F => ok_lbehind F T
  have G_law_live : GF P w K mg base "_law_live" 1 cLive := A.d_law_live.gf fun f fd F => ok_llive F T
  have G_law_start : GF P w K mg base "_law_start" 1 cLStart := A.d_law_start.gf fun f fd F => ok_lstart F T
  have G_law_walks : GF P w K mg base "_law_walks" 4 cWalks := A.d_law_walks.gf fun f fd F => ok_walks F T G_law_start G_law_moves G_law_behind G_law_live
  have G_law_closed : GF P w K mg base "_law_closed" 4 cLClosed := A.d_law_closed.gf fun f fd F => ok_lclosed F T G_law_start G_law_moves G_law_behind G_law_live
  exact ok_law F T 10 10 5 (by decide) (by decide) (by decide) G_law_draws G_law_drawn G_law_told3 K_Yard_init G_solve G_closed_list G_law_walks G_law_closed G_is_closed
theorem sp_law {H : Hp} {a : Addr} {ns : List Int} (hl : ns.length ≤ 63) (hS : SqL K H a (ns.map V.int)) : toSp w (cLaw K) [.ref a] H (fun v _ => v = .bl true) fun _ _ _ => False := by
  refine ⟨H, [.scr K (ns.map V.int)], [], KD (.bl true) [], Same.refl _, .cons (.scr fun H' e => ?_) .nil, ⟨List.nodup_nil, fun p hp => absurd hp List.not_mem_nil⟩, ⟨ns, by omega, rfl, rfl, rfl⟩, fun v H' r => ?_⟩
  · rcases hS with (h | ⟨o, h⟩) | h
    · exact .inl (.inl (e _ _ h))
    · exact .inl (.inr ⟨o, e _ _ h⟩)
    · exact .inr h
  · obtain ⟨d, M, G, ⟨rfl, rfl⟩, _, r, _⟩ := r.ex
    exact r.val
end
theorem walk {l : PySem.W.OpenLaw} {q : Program} {loose : List Str} {XP : (Str → Option Value) → Heap → Prop} {YP : World → Heap → Prop} {d : DefRec} {K : Params → PySem.W.Frag} (hn : l.most = some 63) (hdf : d.params.defaults = []) (hd : d.name = "law")
    (hY : ∀ (w : World) (h : Heap), YP w h → (K w.params).In h)
    (F : ∀ (w : World) (mg : Str → Option Value) (h : Heap), (K w.params).In h → h.Ns mainGlobals mg → ∃ C RC GC SC, All (K w.params) mg C RC GC SC ∧ Tx w (K w.params) mg ∧ Ty w (K w.params) mg C ∧ TR w (K w.params) mg RC GC ∧ Ts (K w.params) SC) :
    PySem.W.WalkO q loose XP YP l.row.toRowW d [] (fun f vs => PySem.call f vs) :=
  L2.walk_of (n := 63) (k := 11) (x := "_law_script") (CX := fun _ => CX0) (sp := fun w => toSp w (cLaw (K w.params))) hn (by decide) hdf ⟨rfl, by decide, by decide⟩ hY (fun w mg fa h KX G hfa => by
    obtain ⟨C, RC, GC, SC, A, T, Y, R, S⟩ := F w mg h KX G
    obtain ⟨f, fd, h1, h2, h3⟩ := A.d_law.ex
    rw [hd, h1] at hfa
    cases hfa
    obtain ⟨oc, od, kV, dc, pm, an, cd, ct, sl, rfl, _⟩ := h2.ex
    exact ⟨_, fun s u => .of_eq (bo_law kV dc pm an cd ct [u] rfl), fun base _ _ => all_law A T Y R S h2⟩) (fun w H a ns hl _ hS => sp_law hl hS) fun _ _ _ _ _ z => z

section
variable {w : World} {K : PySem.W.Frag} {h : Heap} {mg : Str → Option Value} {C RC GC SC q : Addr}
theorem gv_int {x : Str} {i : Int} {t : Tok} (X : K.In h) (G : h.Ns mainGlobals mg) (e : PySem.W.nsIn K mainGlobals x = some (some (.int i t))) : GV mg x (.int i) := ⟨_, PySem.W.mg_of X G e, ⟨t, rfl⟩⟩
theorem gv_str {x : Str} {z : Str} {t : Tok} (X : K.In h) (G : h.Ns mainGlobals mg) (e : PySem.W.nsIn K mainGlobals x = some (some (.str z t))) : GV mg x (.str z) := ⟨_, PySem.W.mg_of X G e, ⟨t, rfl⟩⟩
theorem gv_ref {x : Str} (X : K.In h) (G : h.Ns mainGlobals mg) (e : PySem.W.nsIn K mainGlobals x = some (some (.ref q))) : GV mg x (.ref q) := ⟨_, PySem.W.mg_of X G e, rfl⟩
theorem tx_in {t1 t2 t3 t4 t5 t6 t7 : Tok} (X : K.In h) (G : h.Ns mainGlobals mg) (a1 : PySem.W.nsIn K mainGlobals "len" = some none) (a2 : PySem.W.nsIn K mainGlobals "sorted" = some none) (a3 : PySem.W.nsIn K mainGlobals "list" = some none) (a4 : PySem.W.nsIn K mainGlobals "range" = some none) (a5 : PySem.W.nsIn K mainGlobals "tuple" = some none) (a6 : PySem.W.nsIn K mainGlobals "int" = some none) (a7 : PySem.W.nsIn K mainGlobals "str" = some none) (a8 : PySem.W.nsIn K mainGlobals "min" = some none) (a9 : PySem.W.nsIn K mainGlobals "isinstance" = some none) (a10 : PySem.W.nsIn K mainGlobals "enumerate" = some none)
    (b1 : PySem.W.nsIn K mainGlobals "MOST_rows" = some (some (.int 60 t1))) (b2 : PySem.W.nsIn K mainGlobals "MOST_yards" = some (some (.int 8 t2))) (b3 : PySem.W.nsIn K mainGlobals "MOST_SITUATIONS" = some (some (.int 4000 t3))) (b4 : PySem.W.nsIn K mainGlobals "LEFT" = some (some (.int 0 t4))) (b5 : PySem.W.nsIn K mainGlobals "OUTSIDE" = some (some (.int (-1) t5))) (b6 : PySem.W.nsIn K mainGlobals "KINDS" = some (some (.str "sqdio" t6))) (b7 : PySem.W.nsIn K mainGlobals "BOUNDS" = some (some (.str "123456" t7))) : Tx w K mg :=
  ⟨PySem.W.mg_none_of X G a1, PySem.W.mg_none_of X G a2, PySem.W.mg_none_of X G a3, PySem.W.mg_none_of X G a4, PySem.W.mg_none_of X G a5, PySem.W.mg_none_of X G a6, PySem.W.mg_none_of X G a7, PySem.W.mg_none_of X G a8, PySem.W.mg_none_of X G a9, PySem.W.mg_none_of X G a10, gv_int X G b1, gv_int X G b2, gv_int X G b3, gv_int X G b4, gv_int X G b5, gv_str X G b6, gv_str X G b7⟩
theorem sq_one {a : Addr} {i : Int} {t : Tok} {od : Option Addr} {n : Nat} {sl : Array (Option Value)} (l : K.lookup a = some ⟨.type "tuple", od, .seq #[.int i t] n, sl⟩) (H : Hp) : SqT K H a ([i].map V.int) := .inr ⟨_, _, _, l, rfl, rfl, by show 1 ≤ sizeLine; decide, .cons ⟨t, rfl⟩ .nil⟩
theorem sq_two {a : Addr} {i j : Int} {t u : Tok} {od : Option Addr} {n : Nat} {sl : Array (Option Value)} (l : K.lookup a = some ⟨.type "tuple", od, .seq #[.int i t, .int j u] n, sl⟩) (H : Hp) : SqT K H a ([i, j].map V.int) := .inr ⟨_, _, _, l, rfl, rfl, by show 2 ≤ sizeLine; decide, .cons ⟨t, rfl⟩ (.cons ⟨u, rfl⟩ .nil)⟩
structure Tbl (w : World) (K : PySem.W.Frag) (mg : Str → Option Value) (x : Str) (F : Kd → List Int) : Prop where
  ex : ∃ q, GV mg x (.ref q) ∧ ∀ k : Kd, ∃ a, KDct K w q k.str (.ref a) ∧ ∀ H, SqT K H a ((F k).map V.int)
theorem tbl_in {x : Str} {F : Kd → List Int} {es : Array DictEntry} {n : Nat} {a1 a2 a3 a4 a5 : Addr} (X : K.In h) (G : h.Ns mainGlobals mg) (e : PySem.W.nsIn K mainGlobals x = some (some (.ref q))) (l : K.lookup q = some ⟨.type "dict", none, .dict es n, #[]⟩) (kl : PySem.W.KeysLit w.params es.toList)
    (e1 : PySem.W.nsIn K q "s" = some (some (.ref a1))) (e2 : PySem.W.nsIn K q "q" = some (some (.ref a2))) (e3 : PySem.W.nsIn K q "d" = some (some (.ref a3))) (e4 : PySem.W.nsIn K q "i" = some (some (.ref a4))) (e5 : PySem.W.nsIn K q "o" = some (some (.ref a5)))
    (f1 : ∀ H, SqT K H a1 ((F .s).map V.int)) (f2 : ∀ H, SqT K H a2 ((F .q).map V.int)) (f3 : ∀ H, SqT K H a3 ((F .d).map V.int)) (f4 : ∀ H, SqT K H a4 ((F .i).map V.int)) (f5 : ∀ H, SqT K H a5 ((F .o).map V.int)) : Tbl w K mg x F := by
  refine ⟨q, gv_ref X G e, fun k => ?_⟩
  cases k with
  | s => exact ⟨a1, ⟨es, n, _, l, kl, e1, rfl⟩, f1⟩
  | q => exact ⟨a2, ⟨es, n, _, l, kl, e2, rfl⟩, f2⟩
  | d => exact ⟨a3, ⟨es, n, _, l, kl, e3, rfl⟩, f3⟩
  | i => exact ⟨a4, ⟨es, n, _, l, kl, e4, rfl⟩, f4⟩
  | o => exact ⟨a5, ⟨es, n, _, l, kl, e5, rfl⟩, f5⟩
structure Clo (w : World) (K : PySem.W.Frag) (mg : Str → Option Value) : Prop where
  ex : ∃ q es n, GV mg "CLOSING" (.ref q) ∧ KDict K w q es n ∧ (∀ s, ∃ u, PySem.W.nsIn K q (opS s) = some (some u)) ∧ (∀ k : Kd, PySem.W.nsIn K q k.str = some none) ∧ ∀ s, KDct K w q (opS s) (.str (clS s))
theorem clo_in {es : Array DictEntry} {n : Nat} {t1 t2 : Tok} (X : K.In h) (G : h.Ns mainGlobals mg) (e : PySem.W.nsIn K mainGlobals "CLOSING" = some (some (.ref q))) (l : K.lookup q = some ⟨.type "dict", none, .dict es n, #[]⟩) (kl : PySem.W.KeysLit w.params es.toList) (lo : (q == sysModules) = false)
    (e1 : PySem.W.nsIn K q "(" = some (some (.str ")" t1))) (e2 : PySem.W.nsIn K q "[" = some (some (.str "]" t2))) (f1 : PySem.W.nsIn K q "s" = some none) (f2 : PySem.W.nsIn K q "q" = some none) (f3 : PySem.W.nsIn K q "d" = some none) (f4 : PySem.W.nsIn K q "i" = some none) (f5 : PySem.W.nsIn K q "o" = some none) : Clo w K mg := by
  refine ⟨q, es, n, gv_ref X G e, ⟨l, kl, lo⟩, fun s => ?_, fun k => ?_, fun s => ?_⟩
  · cases s
    · exact ⟨_, e1⟩
    · exact ⟨_, e2⟩
  · cases k with
    | s => exact f1
    | q => exact f2
    | d => exact f3
    | i => exact f4
    | o => exact f5
  · cases s
    · exact ⟨es, n, _, l, kl, e1, ⟨t1, rfl⟩⟩
    · exact ⟨es, n, _, l, kl, e2, ⟨t2, rfl⟩⟩
theorem ty_in (c : Cls K C) (i : Tbl w K mg "INS" insK) (o : Tbl w K mg "OUTS" outsK) (n1 : PySem.W.findIn K (.ref C) "text" = some none) (n2 : PySem.W.findIn K (.ref C) "kinds" = some none) (n3 : PySem.W.findIn K (.ref C) "bounds" = some none) (n4 : PySem.W.findIn K (.ref C) "links" = some none) : Ty w K mg C := ⟨c, n1, n2, n3, n4, i.ex, o.ex⟩
theorem tr_in (c : Cls K RC) (g : Cls K GC) (o : Clo w K mg) (n1 : PySem.W.findIn K (.ref RC) "text" = some none) (n2 : PySem.W.findIn K (.ref RC) "at" = some none) (n3 : PySem.W.findIn K (.ref RC) "kinds" = some none) (n4 : PySem.W.findIn K (.ref RC) "bounds" = some none) (n5 : PySem.W.findIn K (.ref RC) "links" = some none) (n6 : PySem.W.findIn K (.ref RC) "groups" = some none) (m1 : PySem.W.findIn K (.ref GC) "sign" = some none) (m2 : PySem.W.findIn K (.ref GC) "yards" = some none) : TR w K mg RC GC := ⟨c, n1, n2, n3, n4, n5, n6, g, m1, m2, o.ex⟩
theorem ts_in (c : Cls K SC) (n1 : PySem.W.findIn K (.ref SC) "yard" = some none) (n2 : PySem.W.findIn K (.ref SC) "wagons" = some none) (n3 : PySem.W.findIn K (.ref SC) "met" = some none) (n4 : PySem.W.findIn K (.ref SC) "known" = some none) (n5 : PySem.W.findIn K (.ref SC) "origin" = some none) (n6 : PySem.W.findIn K (.ref SC) "found" = some none) : Ts K SC := ⟨c, n1, n2, n3, n4, n5, n6⟩
theorem cls_in (pg : PySem.W.plainGet K C Str.empty = true) (hd : PySem.W.hasDictIn K C = true) (po : PySem.W.plainOver K C = true) (sa : PySem.W.findIn K (.ref C) "__setattr__" = some (some (.builtin "object.__setattr__"))) : Cls K C := ⟨pg, hd, po, sa⟩
theorem all_in (A : All K mg C RC GC SC) (T : Tx w K mg) (Y : Ty w K mg C) (R : TR w K mg RC GC) (S : Ts K SC) : ∃ C RC GC SC, All K mg C RC GC SC ∧ Tx w K mg ∧ Ty w K mg C ∧ TR w K mg RC GC ∧ Ts K SC := ⟨C, RC, GC, SC, A, T, Y, R, S⟩
end
end K23

open PySem PySem.W PyProof.Rows
set_option maxRecDepth 100000 in
set_option maxHeartbeats 0 in
theorem PySem.Challenge.cw_yardsort_k23_whole_a_way_or_a_closed_lis_holds : PySem.Challenge.rw_yardsort_k23_whole_a_way_or_a_closed_lis.Holds := by
  w_on; o_law; k_head; (case hw => w_witness2)
  k_fill
  refine K23.walk (l := PySem.Challenge.rw_yardsort_k23_whole_a_way_or_a_closed_lis) rfl rfl rfl (fun w h Y => PySem.W.kIn_of Y) ?F
  case F =>
    intro w mg h KX G
    refine' K23.all_in ?A ?T ?Y ?R ?S
    case A =>
      refine' K23.All.mk ?d_is_row ?d_check_row ?d_wagon_of ?d_after ?d_is_live ?d_Yard_len ?d_Yard_ins ?d_Yard_outs ?d_Yard_room ?d_Group_init ?d_Reading_init ?d_Reading_sign ?d_Reading_device ?d_Reading_joined ?d_Reading_closed ?d_Reading_first_device ?d_Reading_whole ?d_Yard_init ?d_first_situation ?d_is_situation ?d_source_ends ?d_target_ends ?d_possible ?d_live_behind ?d_is_gap ?d_gap_from ?d_first_gap ?d_is_closed ?d_Search_is_goal ?d_Search_init ?d_Search_look ?d_Search_finish ?d_Search_way ?d_search_from ?d_solve ?d_closed_list ?d_law_number ?d_law_draws ?d_law_next ?d_law_told ?d_law_net ?d_law_tree ?d_law_plan ?d_law_row ?d_law_drawn ?d_law_outs ?d_law_ins ?d_law_moves ?d_law_behind ?d_law_live ?d_law_start ?d_law_walks ?d_law_closed ?d_law
      case d_Group_init => refine' K23.defK_mk KX G K23.bo_Group_init ?a ?m ?z ?i ?y ?l ?c ?k; (case a => k_is); (case m => k_is); (case z => k_is); (case i => k_is); (case y => k_is); (case l => k_is); (case c => k_is); (case k => k_is)
      case d_Reading_init => refine' K23.defK_mk KX G K23.bo_Reading_init ?a ?m ?z ?i ?y ?l ?c ?k; (case a => k_is); (case m => k_is); (case z => k_is); (case i => k_is); (case y => k_is); (case l => k_is); (case c => k_is); (case k => k_is)
      case d_Yard_init => refine' K23.defK_mk KX G K23.bo_Yard_init ?a ?m ?z ?i ?y ?l ?c ?k; (case a => k_is); (case m => k_is); (case z => k_is); (case i => k_is); (case y => k_is); (case l => k_is); (case c => k_is); (case k => k_is)
      case d_Search_init => refine' K23.defK_mk KX G K23.bo_Search_init ?a ?m ?z ?i ?y ?l ?c ?k; (case a => k_is); (case m => k_is); (case z => k_is); (case i => k_is); (case y => k_is); (case l => k_is); (case c => k_is); (case k => k_is)
      case d_is_row => refine' K23.defG_mk KX G K23.bo_is_row ?a ?l ?c ?k; (case a => k_is); (case l => k_is); (case c => k_is); (case k => k_is)
      case d_check_row => refine' K23.defG_mk KX G K23.bo_check_row ?a ?l ?c ?k; (case a => k_is); (case l => k_is); (case c => k_is); (case k => k_is)
      case d_wagon_of => refine' K23.defG_mk KX G K23.bo_wagon_of ?a ?l ?c ?k; (case a => k_is); (case l => k_is); (case c => k_is); (case k => k_is)
      case d_after => refine' K23.defG_mk KX G K23.bo_after ?a ?l ?c ?k; (case a => k_is); (case l => k_is); (case c => k_is); (case k => k_is)
      case d_is_live => refine' K23.defG_mk KX G K23.bo_is_live ?a ?l ?c ?k; (case a => k_is); (case l => k_is); (case c => k_is); (case k => k_is)
      case d_Yard_len => refine' K23.defM_mk K23.bo_Yard_len ?a ?i ?l ?c ?k; (case a => k_is); (case i => k_is); (case l => k_is); (case c => k_is); (case k => k_is)
      case d_Yard_ins => refine' K23.defM_mk K23.bo_Yard_ins ?a ?i ?l ?c ?k; (case a => k_is); (case i => k_is); (case l => k_is); (case c => k_is); (case k => k_is)
      case d_Yard_outs => refine' K23.defM_mk K23.bo_Yard_outs ?a ?i ?l ?c ?k; (case a => k_is); (case i => k_is); (case l => k_is); (case c => k_is); (case k => k_is)
      case d_Yard_room => refine' K23.defM_mk K23.bo_Yard_room ?a ?i ?l ?c ?k; (case a => k_is); (case i => k_is); (case l => k_is); (case c => k_is); (case k => k_is)
      case d_Reading_sign => refine' K23.defM_mk K23.bo_Reading_sign ?a ?i ?l ?c ?k; (case a => k_is); (case i => k_is); (case l => k_is); (case c => k_is); (case k => k_is)
      case d_Reading_device => refine' K23.defM_mk K23.bo_Reading_device ?a ?i ?l ?c ?k; (case a => k_is); (case i => k_is); (case l => k_is); (case c => k_is); (case k => k_is)
      case d_Reading_joined => refine' K23.defM_mk K23.bo_Reading_joined ?a ?i ?l ?c ?k; (case a => k_is); (case i => k_is); (case l => k_is); (case c => k_is); (case k => k_is)
      case d_Reading_closed => refine' K23.defM_mk K23.bo_Reading_closed ?a ?i ?l ?c ?k; (case a => k_is); (case i => k_is); (case l => k_is); (case c => k_is); (case k => k_is)
      case d_Reading_first_device => refine' K23.defM_mk K23.bo_Reading_first_device ?a ?i ?l ?c ?k; (case a => k_is); (case i => k_is); (case l => k_is); (case c => k_is); (case k => k_is)
      case d_Reading_whole => refine' K23.defM_mk K23.bo_Reading_whole ?a ?i ?l ?c ?k; (case a => k_is); (case i => k_is); (case l => k_is); (case c => k_is); (case k => k_is)
      case d_first_situation => refine' K23.defG_mk KX G K23.bo_first_situation ?a ?l ?c ?k; (case a => k_is); (case l => k_is); (case c => k_is); (case k => k_is)
      case d_is_situation => refine' K23.defG_mk KX G K23.bo_is_situation ?a ?l ?c ?k; (case a => k_is); (case l => k_is); (case c => k_is); (case k => k_is)
      case d_source_ends => refine' K23.defG_mk KX G K23.bo_source_ends ?a ?l ?c ?k; (case a => k_is); (case l => k_is); (case c => k_is); (case k => k_is)
      case d_target_ends => refine' K23.defG_mk KX G K23.bo_target_ends ?a ?l ?c ?k; (case a => k_is); (case l => k_is); (case c => k_is); (case k => k_is)
      case d_possible => refine' K23.defG_mk KX G K23.bo_possible ?a ?l ?c ?k; (case a => k_is); (case l => k_is); (case c => k_is); (case k => k_is)
      case d_live_behind => refine' K23.defG_mk KX G K23.bo_live_behind ?a ?l ?c ?k; (case a => k_is); (case l => k_is); (case c => k_is); (case k => k_is)
      case d_is_gap => refine' K23.defG_mk KX G K23.bo_is_gap ?a ?l ?c ?k; (case a => k_is); (case l => k_is); (case c => k_is); (case k => k_is)
      case d_gap_from => refine' K23.defG_mk KX G K23.bo_gap_from ?a ?l ?c ?k; (case a => k_is); (case l => k_is); (case c => k_is); (case k => k_is)
      case d_first_gap => refine' K23.defG_mk KX G K23.bo_first_gap ?a ?l ?c ?k; (case a => k_is); (case l => k_is); (case c => k_is); (case k => k_is)
      case d_is_closed => refine' K23.defG_mk KX G K23.bo_is_closed ?a ?l ?c ?k; (case a => k_is); (case l => k_is); (case c => k_is); (case k => k_is)
      case d_Search_is_goal => refine' K23.defM_mk K23.bo_Search_is_goal ?a ?i ?l ?c ?k; (case a => k_is); (case i => k_is); (case l => k_is); (case c => k_is); (case k => k_is)
      case d_Search_look => refine' K23.defM_mk K23.bo_Search_look ?a ?i ?l ?c ?k; (case a => k_is); (case i => k_is); (case l => k_is); (case c => k_is); (case k => k_is)
      case d_Search_finish => refine' K23.defM_mk K23.bo_Search_finish ?a ?i ?l ?c ?k; (case a => k_is); (case i => k_is); (case l => k_is); (case c => k_is); (case k => k_is)
      case d_Search_way => refine' K23.defM_mk K23.bo_Search_way ?a ?i ?l ?c ?k; (case a => k_is); (case i => k_is); (case l => k_is); (case c => k_is); (case k => k_is)
      case d_search_from => refine' K23.defG_mk KX G K23.bo_search_from ?a ?l ?c ?k; (case a => k_is); (case l => k_is); (case c => k_is); (case k => k_is)
      case d_solve => refine' K23.defG_mk KX G K23.bo_solve ?a ?l ?c ?k; (case a => k_is); (case l => k_is); (case c => k_is); (case k => k_is)
      case d_closed_list => refine' K23.defG_mk KX G K23.bo_closed_list ?a ?l ?c ?k; (case a => k_is); (case l => k_is); (case c => k_is); (case k => k_is)
      case d_law_number => refine' K23.defG_mk KX G K23.bo_law_number ?a ?l ?c ?k; (case a => k_is); (case l => k_is); (case c => k_is); (case k => k_is)
      case d_law_draws => refine' K23.defG_mk KX G K23.bo_law_draws ?a ?l ?c ?k; (case a => k_is); (case l => k_is); (case c => k_is); (case k => k_is)
      case d_law_next => refine' K23.defG_mk KX G K23.bo_law_next ?a ?l ?c ?k; (case a => k_is); (case l => k_is); (case c => k_is); (case k => k_is)
      case d_law_told => refine' K23.defG_mk KX G K23.bo_law_told ?a ?l ?c ?k; (case a => k_is); (case l => k_is); (case c => k_is); (case k => k_is)
      case d_law_net => refine' K23.defG_mk KX G K23.bo_law_net ?a ?l ?c ?k; (case a => k_is); (case l => k_is); (case c => k_is); (case k => k_is)
      case d_law_tree => refine' K23.defG_mk KX G K23.bo_law_tree ?a ?l ?c ?k; (case a => k_is); (case l => k_is); (case c => k_is); (case k => k_is)
      case d_law_plan => refine' K23.defG_mk KX G K23.bo_law_plan ?a ?l ?c ?k; (case a => k_is); (case l => k_is); (case c => k_is); (case k => k_is)
      case d_law_row => refine' K23.defG_mk KX G K23.bo_law_row ?a ?l ?c ?k; (case a => k_is); (case l => k_is); (case c => k_is); (case k => k_is)
      case d_law_drawn => refine' K23.defG_mk KX G K23.bo_law_drawn ?a ?l ?c ?k; (case a => k_is); (case l => k_is); (case c => k_is); (case k => k_is)
      case d_law_outs => refine' K23.defG_mk KX G K23.bo_law_outs ?a ?l ?c ?k; (case a => k_is); (case l => k_is); (case c => k_is); (case k => k_is)
      case d_law_ins => refine' K23.defG_mk KX G K23.bo_law_ins ?a ?l ?c ?k; (case a => k_is); (case l => k_is); (case c => k_is); (case k => k_is)
      case d_law_moves => refine' K23.defG_mk KX G K23.bo_law_moves ?a ?l ?c ?k; (case a => k_is); (case l => k_is); (case c => k_is); (case k => k_is)
      case d_law_behind => refine' K23.defG_mk KX G K23.bo_law_behind ?a ?l ?c ?k; (case a => k_is); (case l => k_is); (case c => k_is); (case k => k_is)
      case d_law_live => refine' K23.defG_mk KX G K23.bo_law_live ?a ?l ?c ?k; (case a => k_is); (case l => k_is); (case c => k_is); (case k => k_is)
      case d_law_start => refine' K23.defG_mk KX G K23.bo_law_start ?a ?l ?c ?k; (case a => k_is); (case l => k_is); (case c => k_is); (case k => k_is)
      case d_law_walks => refine' K23.defG_mk KX G K23.bo_law_walks ?a ?l ?c ?k; (case a => k_is); (case l => k_is); (case c => k_is); (case k => k_is)
      case d_law_closed => refine' K23.defG_mk KX G K23.bo_law_closed ?a ?l ?c ?k; (case a => k_is); (case l => k_is); (case c => k_is); (case k => k_is)
      case d_law => refine' K23.defG_mk KX G K23.bo_law ?a ?l ?c ?k; (case a => k_is); (case l => k_is); (case c => k_is); (case k => k_is)
    case T => refine' K23.tx_in KX G ?a1 ?a2 ?a3 ?a4 ?a5 ?a6 ?a7 ?a8 ?a9 ?a10 ?b1 ?b2 ?b3 ?b4 ?b5 ?b6 ?b7; (case a1 => k_is); (case a2 => k_is); (case a3 => k_is); (case a4 => k_is); (case a5 => k_is); (case a6 => k_is); (case a7 => k_is); (case a8 => k_is); (case a9 => k_is); (case a10 => k_is); (case b1 => k_is); (case b2 => k_is); (case b3 => k_is); (case b4 => k_is); (case b5 => k_is); (case b6 => k_is); (case b7 => k_is)
    case Y =>
      refine' K23.ty_in ?c ?i ?o ?n1 ?n2 ?n3 ?n4
      case c => refine' K23.cls_in ?pg ?hd ?po ?sa; (case pg => k_is); (case hd => k_is); (case po => k_is); (case sa => k_is)
      case i =>
        refine' K23.tbl_in KX G ?e ?l ?kl ?e1 ?e2 ?e3 ?e4 ?e5 (K23.sq_one ?f1) (K23.sq_one ?f2) (K23.sq_two ?f3) (K23.sq_one ?f4) (K23.sq_two ?f5)
        (case e => k_is); (case l => k_is)
        (case kl => exact ⟨⟨_, _, rfl, rfl⟩, ⟨_, _, rfl, rfl⟩, ⟨_, _, rfl, rfl⟩, ⟨_, _, rfl, rfl⟩, ⟨_, _, rfl, rfl⟩, trivial⟩)
        (case e1 => k_is); (case e2 => k_is); (case e3 => k_is); (case e4 => k_is); (case e5 => k_is); (case f1 => k_is); (case f2 => k_is); (case f3 => k_is); (case f4 => k_is); (case f5 => k_is)
      case o =>
        refine' K23.tbl_in KX G ?e ?l ?kl ?e1 ?e2 ?e3 ?e4 ?e5 (K23.sq_one ?f1) (K23.sq_one ?f2) (K23.sq_two ?f3) (K23.sq_two ?f4) (K23.sq_one ?f5)
        (case e => k_is); (case l => k_is)
        (case kl => exact ⟨⟨_, _, rfl, rfl⟩, ⟨_, _, rfl, rfl⟩, ⟨_, _, rfl, rfl⟩, ⟨_, _, rfl, rfl⟩, ⟨_, _, rfl, rfl⟩, trivial⟩)
        (case e1 => k_is); (case e2 => k_is); (case e3 => k_is); (case e4 => k_is); (case e5 => k_is); (case f1 => k_is); (case f2 => k_is); (case f3 => k_is); (case f4 => k_is); (case f5 => k_is)
      (case n1 => k_is); (case n2 => k_is); (case n3 => k_is); (case n4 => k_is)
    case R =>
      refine' K23.tr_in ?c ?g ?o ?n1 ?n2 ?n3 ?n4 ?n5 ?n6 ?m1 ?m2
      case c => refine' K23.cls_in ?pg ?hd ?po ?sa; (case pg => k_is); (case hd => k_is); (case po => k_is); (case sa => k_is)
      case g => refine' K23.cls_in ?pg ?hd ?po ?sa; (case pg => k_is); (case hd => k_is); (case po => k_is); (case sa => k_is)
      case o =>
        refine' K23.clo_in KX G ?e ?l ?kl ?lo ?e1 ?e2 ?f1 ?f2 ?f3 ?f4 ?f5
        (case e => k_is); (case l => k_is)
        (case kl => exact ⟨⟨_, _, rfl, rfl⟩, ⟨_, _, rfl, rfl⟩, trivial⟩)
        (case lo => decide)
        (case e1 => k_is); (case e2 => k_is); (case f1 => k_is); (case f2 => k_is); (case f3 => k_is); (case f4 => k_is); (case f5 => k_is)
      (case n1 => k_is); (case n2 => k_is); (case n3 => k_is); (case n4 => k_is); (case n5 => k_is); (case n6 => k_is); (case m1 => k_is); (case m2 => k_is)
    case S =>
      refine' K23.ts_in ?c ?n1 ?n2 ?n3 ?n4 ?n5 ?n6
      case c => refine' K23.cls_in ?pg ?hd ?po ?sa; (case pg => k_is); (case hd => k_is); (case po => k_is); (case sa => k_is)
      (case n1 => k_is); (case n2 => k_is); (case n3 => k_is); (case n4 => k_is); (case n5 => k_is); (case n6 => k_is)
