import PyProof.Rows.All
import Wide.All
import OpenK.AllK
import Wide.FinOn
import HandS.ForMost
import HandS.Zip
import HandS.DictComp
import HandS.TupAny
import HandS.IsInst
import HandS.Deep
import HandS.Wide
import PyProof.StrBlock2
import PySem.Challenge.RW_patchkept_k12_whole_valid_by_all_schemas
set_option Elab.async false
set_option linter.all false
set_option maxRecDepth 100000
set_option maxHeartbeats 4000000
namespace Pk
open PySem PySem.Spec PyProof.Rows L2
/-! ### 1. heaps -/
/-- tuples stay -/
def T (H H' : Hp) : Prop := ∀ a xs, H a = some (.tup xs) → H' a = some (.tup xs)
theorem T.refl (H : Hp) : T H H := fun _ _ h => h
theorem T.trans {H H1 H2 : Hp} (a : T H H1) (b : T H1 H2) : T H H2 := fun x o h => b x o (a x o h)
theorem T.new {H : Hp} {p : Addr} {o : HO} (h : H p = none) : T H (upd H p o) := fun a xs e => by
  rw [upd_ne (ne_of_none e h)]
  exact e
theorem T.lst {H : Hp} {p : Addr} {o : HO} {ys : List V} (h : H p = some (.lst ys)) : T H (upd H p o) := fun a xs e => by
  have n : a ≠ p := fun z => by
    rw [z, h] at e
    cases e
  rw [upd_ne n]
  exact e
theorem T.dK {H : Hp} {p : Addr} {o : HO} {ys : List (Key × V)} (h : H p = some (.dK ys)) : T H (upd H p o) := fun a xs e => by
  have n : a ≠ p := fun z => by
    rw [z, h] at e
    cases e
  rw [upd_ne n]
  exact e
/-- a list of n ints -/
def Ints (n : Nat) (H : Hp) (a : Addr) : Prop := ∃ ns : List Int, ns.length = n ∧ H a = some (.lst (ns.map V.int))
def IA (A : List (Addr × Nat)) (H : Hp) : Prop := ∀ p ∈ A, Ints p.2 H p.1
theorem IA.no {A : List (Addr × Nat)} {H : Hp} {p : Addr} (ia : IA A H) (h : H p = none) : p ∉ A.map (·.1) := fun m => by
  obtain ⟨q, hq, e⟩ := List.mem_map.mp m
  obtain ⟨ns, _, e2⟩ := ia q hq
  rw [e, h] at e2
  cases e2
theorem IA.upd {A : List (Addr × Nat)} {H : Hp} {p : Addr} {o : HO} (ia : IA A H) (h : p ∉ A.map (·.1)) : IA A (upd H p o) := fun q hq => by
  obtain ⟨ns, hl, e⟩ := ia q hq
  refine ⟨ns, hl, ?_⟩
  rw [upd_ne (fun z => h (List.mem_map.mpr ⟨q, hq, z⟩))]
  exact e
/-- tuples stay, all but the lists of ints at A stays, these stay lists of ints -/
structure G (A : List (Addr × Nat)) (H H' : Hp) : Prop where
  t : T H H'
  k : ∀ a o, a ∉ A.map (·.1) → H a = some o → H' a = some o
  i : IA A H → IA A H'
section
variable {A : List (Addr × Nat)} {H H1 H2 H' : Hp} {p : Addr} {o : HO}
theorem G.refl (A : List (Addr × Nat)) (H : Hp) : G A H H := ⟨T.refl H, fun _ _ _ h => h, fun h => h⟩
theorem G.trans (a : G A H H1) (b : G A H1 H2) : G A H H2 := ⟨a.t.trans b.t, fun x o h e => b.k x o h (a.k x o h e), fun h => b.i (a.i h)⟩
/-- a new object -/
theorem G.new (h : H p = none) : G A H (upd H p o) := ⟨T.new h, fun a u _ e => by
  rw [upd_ne (ne_of_none e h)]
  exact e, fun ia => ia.upd (ia.no h)⟩
/-- an object that H does not know is changed -/
theorem G.mut (g : G A H H1) (h : H p = none) : G A H (upd H1 p o) := ⟨fun a xs e => by
  rw [upd_ne (ne_of_none e h)]
  exact g.t a xs e, fun a u n e => by
  rw [upd_ne (ne_of_none e h)]
  exact g.k a u n e, fun ia => (g.i ia).upd (ia.no h)⟩
/-- .. or made -/
theorem G.back (g : G A H H') (ia : IA A H) (h : H' p = none) : H p = none := by
  have h2 : p ∉ A.map (·.1) := (g.i ia).no h
  cases q : H p with
  | none => rfl
  | some u =>
    have z := g.k p u h2 q
    rw [h] at z
    cases z
theorem G.any (g : G [] H H') : G A H H' := ⟨g.t, fun a o _ e => g.k a o (by simp) e, fun ia q hq => by
  obtain ⟨ns, hl, e⟩ := ia q hq
  exact ⟨ns, hl, g.k _ _ (by simp) e⟩⟩
theorem G.at (g : G A H H') (h : p ∉ A.map (·.1)) (e : H p = some o) : H' p = some o := g.k p o h e
theorem G.backN (g : G [] H H') (h : H' p = none) : H p = none := g.back (fun _ z => nomatch z) h
end
theorem ianil (H : Hp) : IA [] H := fun _ z => nomatch z

/-! ### 2. data in the heap -/
mutual
inductive Rep (H : Hp) : V → PyData → Prop
  | non : Rep H .non .none
  | bl (b : Bool) : Rep H (.bl b) (.bool b)
  | int (i : Int) : Rep H (.int i) (.int i)
  | str (x : Str) : Rep H (.str x) (.str x)
  | tup {a : Addr} {xs : List V} {ds : List PyData} : H a = some (.tup xs) → Reps H xs ds → Rep H (.ref a) (.tuple ds)
inductive Reps (H : Hp) : List V → List PyData → Prop
  | nil : Reps H [] []
  | cons {v : V} {vs : List V} {d : PyData} {ds : List PyData} : Rep H v d → Reps H vs ds → Reps H (v :: vs) (d :: ds)
end
mutual
theorem Rep.mono {H H' : Hp} (t : T H H') : ∀ {v : V} {d : PyData}, Rep H v d → Rep H' v d
  | _, _, .non => .non
  | _, _, .bl b => .bl b
  | _, _, .int i => .int i
  | _, _, .str x => .str x
  | _, _, .tup h r => .tup (t _ _ h) (Reps.mono t r)
theorem Reps.mono {H H' : Hp} (t : T H H') : ∀ {vs : List V} {ds : List PyData}, Reps H vs ds → Reps H' vs ds
  | _, _, .nil => .nil
  | _, _, .cons h r => .cons (Rep.mono t h) (Reps.mono t r)
end
mutual
theorem Rep.dp {K : PySem.W.Frag} {H : Hp} : ∀ {v : V} {d : PyData}, Rep H v d → Dp K H v d
  | _, _, .non => .non
  | _, _, .bl b => .bl b
  | _, _, .int i => .int i
  | _, _, .str x => .str x
  | _, _, .tup h r => .tup (SqT.of h) (Reps.dp r)
theorem Reps.dp {K : PySem.W.Frag} {H : Hp} : ∀ {vs : List V} {ds : List PyData}, Reps H vs ds → DpAll K H vs ds
  | _, _, .nil => .nil
  | _, _, .cons h r => .cons (Rep.dp h) (Reps.dp r)
end
section
variable {H H' : Hp} {v : V} {vs ws : List V} {d : PyData} {ds es : List PyData}
theorem Rep.tupE (h : Rep H v (.tuple ds)) : ∃ p xs, v = .ref p ∧ H p = some (.tup xs) ∧ Reps H xs ds := by
  cases h with
  | tup h r => exact ⟨_, _, rfl, h, r⟩
theorem Rep.intE {i : Int} (h : Rep H v (.int i)) : v = .int i := by cases h; rfl
theorem Rep.strE {i : Str} (h : Rep H v (.str i)) : v = .str i := by cases h; rfl
theorem Rep.blE {i : Bool} (h : Rep H v (.bool i)) : v = .bl i := by cases h; rfl
theorem Rep.nonE (h : Rep H v .none) : v = .non := by cases h; rfl
theorem Reps.len : ∀ {vs : List V} {ds : List PyData}, Reps H vs ds → vs.length = ds.length
  | _, _, .nil => rfl
  | _, _, .cons _ r => by rw [List.length_cons, List.length_cons, Reps.len r]
theorem Reps.get : ∀ {vs : List V} {ds : List PyData} {i : Nat} {v : V}, Reps H vs ds → vs[i]? = some v → ∃ d, ds[i]? = some d ∧ Rep H v d
  | _, _, _, _, .nil, e => by simp at e
  | _, _, 0, _, .cons r _, e => by
    simp at e
    subst e
    exact ⟨_, rfl, r⟩
  | _, _, i + 1, v, .cons _ t, e => by
    obtain ⟨u, h1, h2⟩ := Reps.get (i := i) (v := v) t (by simpa using e)
    exact ⟨u, by simpa using h1, h2⟩
theorem Reps.get' : ∀ {vs : List V} {ds : List PyData} {i : Nat} {d : PyData}, Reps H vs ds → ds[i]? = some d → ∃ v, vs[i]? = some v ∧ Rep H v d
  | _, _, _, _, .nil, e => by simp at e
  | _, _, 0, _, .cons r _, e => by
    simp at e
    subst e
    exact ⟨_, rfl, r⟩
  | _, _, i + 1, d, .cons _ t, e => by
    obtain ⟨u, h1, h2⟩ := Reps.get' (i := i) (d := d) t (by simpa using e)
    exact ⟨u, by simpa using h1, h2⟩
theorem Reps.append : ∀ {vs ws : List V} {ds es : List PyData}, Reps H vs ds → Reps H ws es → Reps H (vs ++ ws) (ds ++ es)
  | _, _, _, _, .nil, s => s
  | _, _, _, _, .cons r t, s => .cons r (Reps.append t s)
theorem Reps.take : ∀ {vs : List V} {ds : List PyData} (n : Nat), Reps H vs ds → Reps H (vs.take n) (ds.take n)
  | _, _, 0, _ => .nil
  | _, _, _ + 1, .nil => .nil
  | _, _, n + 1, .cons r t => .cons r (Reps.take n t)
theorem Reps.drop : ∀ {vs : List V} {ds : List PyData} (n : Nat), Reps H vs ds → Reps H (vs.drop n) (ds.drop n)
  | _, _, 0, r => r
  | _, _, _ + 1, .nil => .nil
  | _, _, n + 1, .cons _ t => Reps.drop n t
/-- of a list of values each of which stands for something of a kind -/
theorem Reps.of {P : PyData → Prop} : ∀ {vs : List V}, (∀ (i : Nat) v, vs[i]? = some v → ∃ d, Rep H v d ∧ P d) → ∃ ds, Reps H vs ds ∧ ∀ d ∈ ds, P d
  | [], _ => ⟨[], .nil, fun _ z => nomatch z⟩
  | v :: vs, h => by
    obtain ⟨d, r, p⟩ := h 0 v rfl
    obtain ⟨ds, rs, ps⟩ := Reps.of (vs := vs) fun i w e => h (i + 1) w (by simpa using e)
    refine ⟨d :: ds, .cons r rs, fun x hx => ?_⟩
    rcases List.mem_cons.mp hx with e | e
    · rw [e]
      exact p
    · exact ps x e
theorem Reps.ofM {P : PyData → Prop} {vs : List V} (h : ∀ v ∈ vs, ∃ d, Rep H v d ∧ P d) : ∃ ds, Reps H vs ds ∧ ∀ d ∈ ds, P d :=
  Reps.of fun i v e => h v (List.mem_of_getElem? e)
theorem Reps.mem (r : Reps H vs ds) (h : v ∈ vs) : ∃ d, d ∈ ds ∧ Rep H v d := by
  obtain ⟨i, hi⟩ := List.mem_iff_getElem?.mp h
  obtain ⟨d, e, q⟩ := r.get hi
  exact ⟨d, List.mem_of_getElem? e, q⟩
end

/-! ### 3. what the values and schemas are -/
def OkS (s : Str) : Prop := s.length ≤ 50 ∧ s.cps.all (· < 0x110000) = true
abbrev tg (w : Str) (r : List PyData) : PyData := .tuple (.str w :: r)
def OkL (d : PyData) : Prop := d = tg "null" [] ∨ (∃ b, d = tg "bool" [.bool b]) ∨ (∃ i, d = tg "int" [.int i]) ∨ ∃ s, d = tg "text" [.str s] ∧ OkS s
def OkV (N : Nat) : Nat → PyData → Prop
  | 0, d => OkL d
  | k + 1, d => OkL d ∨ (∃ xs, d = tg "list" [.tuple xs] ∧ xs.length ≤ N ∧ ∀ x ∈ xs, OkV N k x) ∨
      (∃ fs, d = tg "object" [.tuple fs] ∧ fs.length ≤ N ∧ ∀ f ∈ fs, ∃ n x, f = .tuple [.str n, x] ∧ OkS n ∧ OkV N k x)
theorem OkV.leaf {N : Nat} {d : PyData} (h : OkL d) : ∀ {k : Nat}, OkV N k d
  | 0 => h
  | _ + 1 => .inl h
theorem OkV.mono {N N' : Nat} (hN : N ≤ N') : ∀ {k k' : Nat} {d : PyData}, k ≤ k' → OkV N k d → OkV N' k' d
  | 0, _, _, _, h => OkV.leaf h
  | k + 1, 0, _, hk, _ => absurd hk (by omega)
  | k + 1, k' + 1, d, hk, h => by
    rcases h with h | ⟨xs, e, hl, hx⟩ | ⟨fs, e, hl, hf⟩
    · exact .inl h
    · exact .inr (.inl ⟨xs, e, by omega, fun x m => OkV.mono hN (by omega) (hx x m)⟩)
    · refine .inr (.inr ⟨fs, e, by omega, fun f m => ?_⟩)
      obtain ⟨n, x, e, hn, hx⟩ := hf f m
      exact ⟨n, x, e, hn, OkV.mono hN (by omega) hx⟩
/-- a field -/
def OkF (N k : Nat) (f : PyData) : Prop := ∃ n x, f = .tuple [.str n, x] ∧ OkS n ∧ OkV N k x
theorem OkV.list {N k : Nat} {xs : List PyData} (hl : xs.length ≤ N) (h : ∀ x ∈ xs, OkV N k x) : OkV N (k + 1) (tg "list" [.tuple xs]) := .inr (.inl ⟨xs, rfl, hl, h⟩)
theorem OkV.object {N k : Nat} {xs : List PyData} (hl : xs.length ≤ N) (h : ∀ x ∈ xs, OkF N k x) : OkV N (k + 1) (tg "object" [.tuple xs]) := .inr (.inr ⟨xs, rfl, hl, h⟩)
/-- what the word of a value tells -/
structure ShV (N k : Nat) (w : Str) (r : List PyData) : Prop where
  list : w = "list" → ∃ k' xs, k = k' + 1 ∧ r = [.tuple xs] ∧ xs.length ≤ N ∧ ∀ x ∈ xs, OkV N k' x
  object : w = "object" → ∃ k' fs, k = k' + 1 ∧ r = [.tuple fs] ∧ fs.length ≤ N ∧ ∀ f ∈ fs, OkF N k' f
  int : w = "int" → ∃ i, r = [.int i]
  text : w = "text" → ∃ s, r = [.str s] ∧ OkS s
theorem OkL.sh {N k : Nat} {d : PyData} (h : OkL d) : ∃ w r, d = tg w r ∧ ShV N k w r := by
  rcases h with e | ⟨b, e⟩ | ⟨i, e⟩ | ⟨s, e, hs⟩
  · exact ⟨"null", _, e, fun z => absurd z (by decide +kernel), fun z => absurd z (by decide +kernel), fun z => absurd z (by decide +kernel), fun z => absurd z (by decide +kernel)⟩
  · exact ⟨"bool", _, e, fun z => absurd z (by decide +kernel), fun z => absurd z (by decide +kernel), fun z => absurd z (by decide +kernel), fun z => absurd z (by decide +kernel)⟩
  · exact ⟨"int", _, e, fun z => absurd z (by decide +kernel), fun z => absurd z (by decide +kernel), fun _ => ⟨i, rfl⟩, fun z => absurd z (by decide +kernel)⟩
  · exact ⟨"text", _, e, fun z => absurd z (by decide +kernel), fun z => absurd z (by decide +kernel), fun z => absurd z (by decide +kernel), fun _ => ⟨s, rfl, hs⟩⟩
theorem OkV.sh {N : Nat} : ∀ {k : Nat} {d : PyData}, OkV N k d → ∃ w r, d = tg w r ∧ ShV N k w r
  | 0, _, h => OkL.sh h
  | k + 1, d, h => by
    rcases h with h | ⟨xs, e, hl, hx⟩ | ⟨fs, e, hl, hf⟩
    · exact OkL.sh h
    · exact ⟨"list", _, e, fun _ => ⟨k, xs, rfl, rfl, hl, hx⟩, fun z => absurd z (by decide +kernel), fun z => absurd z (by decide +kernel), fun z => absurd z (by decide +kernel)⟩
    · exact ⟨"object", _, e, fun z => absurd z (by decide +kernel), fun _ => ⟨k, fs, rfl, rfl, hl, hf⟩, fun z => absurd z (by decide +kernel), fun z => absurd z (by decide +kernel)⟩

/-! a schema; k: how deep -/
/-- None, or an int of small size -/
def OkB (d : PyData) : Prop := d = .none ∨ ∃ i : Int, d = .int i ∧ -1000 ≤ i ∧ i ≤ 1000
/-- bounds of counts -/
def OkC (lo hi : PyData) : Prop := (∃ i : Int, lo = .int i ∧ 0 ≤ i ∧ i ≤ 10) ∧ (hi = .none ∨ ∃ i : Int, hi = .int i ∧ 0 ≤ i ∧ i ≤ 20)
def OkSL (d : PyData) : Prop := (∃ w : Str, d = tg w [] ∧ (w = "any" ∨ w = "never" ∨ w = "null" ∨ w = "bool")) ∨ (∃ lo hi, d = tg "int" [lo, hi] ∧ OkB lo ∧ OkB hi) ∨
  (∃ lo hi, d = tg "text" [lo, hi] ∧ OkC lo hi) ∨ ∃ v, d = tg "const" [v] ∧ OkV 100 1 v
def OkSch : Nat → PyData → Prop
  | 0, _ => False
  | k + 1, d => OkSL d ∨ (∃ s lo hi, d = tg "list" [s, lo, hi] ∧ OkSch k s ∧ OkC lo hi) ∨
      (∃ (w : Str) (ss : List PyData), d = tg w [.tuple ss] ∧ (w = "tuple" ∨ w = "either" ∨ w = "all") ∧ ss.length ≤ 20 ∧ ∀ s ∈ ss, OkSch k s) ∨
      (∃ s, d = tg "not" [s] ∧ OkSch k s) ∨
      (∃ rs o, d = tg "object" [.tuple rs, o] ∧ rs.length ≤ 20 ∧ (∀ r ∈ rs, ∃ n s b, r = .tuple [.str n, s, .bool b] ∧ OkS n ∧ OkSch k s) ∧ OkSch k o)
def OkR (k : Nat) (r : PyData) : Prop := ∃ n s b, r = .tuple [.str n, s, .bool b] ∧ OkS n ∧ OkSch k s
theorem OkSch.mono : ∀ {k k' : Nat} {d : PyData}, k ≤ k' → OkSch k d → OkSch k' d
  | 0, _, _, _, h => h.elim
  | k + 1, 0, _, hk, _ => absurd hk (by omega)
  | k + 1, k' + 1, d, hk, h => by
    rcases h with h | ⟨s, lo, hi, e, hs, hc⟩ | ⟨w, ss, e, hw, hl, hs⟩ | ⟨s, e, hs⟩ | ⟨rs, o, e, hl, hr, ho⟩
    · exact .inl h
    · exact .inr (.inl ⟨s, lo, hi, e, OkSch.mono (by omega) hs, hc⟩)
    · exact .inr (.inr (.inl ⟨w, ss, e, hw, hl, fun s m => OkSch.mono (by omega) (hs s m)⟩))
    · exact .inr (.inr (.inr (.inl ⟨s, e, OkSch.mono (by omega) hs⟩)))
    · refine .inr (.inr (.inr (.inr ⟨rs, o, e, hl, fun r m => ?_, OkSch.mono (by omega) ho⟩)))
      obtain ⟨n, s, b, e, hn, hs⟩ := hr r m
      exact ⟨n, s, b, e, hn, OkSch.mono (by omega) hs⟩
structure ShS (k : Nat) (w : Str) (r : List PyData) : Prop where
  int : w = "int" → ∃ lo hi, r = [lo, hi] ∧ OkB lo ∧ OkB hi
  text : w = "text" → ∃ lo hi, r = [lo, hi] ∧ OkC lo hi
  const : w = "const" → ∃ v, r = [v] ∧ OkV 100 1 v
  list : w = "list" → ∃ s lo hi, r = [s, lo, hi] ∧ OkSch k s ∧ OkC lo hi
  many : w = "tuple" ∨ w = "either" ∨ w = "all" → ∃ ss, r = [.tuple ss] ∧ ss.length ≤ 20 ∧ ∀ s ∈ ss, OkSch k s
  neg : w = "not" → ∃ s, r = [s] ∧ OkSch k s
  object : w = "object" → ∃ rs o, r = [.tuple rs, o] ∧ rs.length ≤ 20 ∧ (∀ r ∈ rs, OkR k r) ∧ OkSch k o
  one : w = "any" ∨ w = "never" ∨ w = "null" ∨ w = "bool" ∨ w = "int" ∨ w = "text" ∨ w = "const" ∨ w = "list" ∨ w = "tuple" ∨ w = "either" ∨ w = "all" ∨ w = "not" ∨ w = "object"
theorem OkSch.sh {k : Nat} {d : PyData} (h : OkSch (k + 1) d) : ∃ w r, d = tg w r ∧ ShS k w r := by
  rcases h with (⟨w, e, hw⟩ | ⟨lo, hi, e, h1, h2⟩ | ⟨lo, hi, e, h1⟩ | ⟨v, e, h1⟩) | ⟨s, lo, hi, e, hs, hc⟩ | ⟨w, ss, e, hw, hl, hs⟩ | ⟨s, e, hs⟩ | ⟨rs, o, e, hl, hr, ho⟩
  · refine ⟨w, _, e, ?_⟩
    rcases hw with q | q | q | q <;> subst q <;> constructor <;> first | (intro z; exact absurd z (by decide +kernel)) | decide +kernel
  · refine ⟨"int", _, e, ?_⟩
    constructor <;> first | (intro z; exact absurd z (by decide +kernel)) | decide +kernel | exact fun _ => ⟨lo, hi, rfl, h1, h2⟩
  · refine ⟨"text", _, e, ?_⟩
    constructor <;> first | (intro z; exact absurd z (by decide +kernel)) | decide +kernel | exact fun _ => ⟨lo, hi, rfl, h1⟩
  · refine ⟨"const", _, e, ?_⟩
    constructor <;> first | (intro z; exact absurd z (by decide +kernel)) | decide +kernel | exact fun _ => ⟨v, rfl, h1⟩
  · refine ⟨"list", _, e, ?_⟩
    constructor <;> first | (intro z; exact absurd z (by decide +kernel)) | decide +kernel | exact fun _ => ⟨s, lo, hi, rfl, hs, hc⟩
  · refine ⟨w, _, e, ?_⟩
    rcases hw with q | q | q <;> subst q <;> constructor <;> first | (intro z; exact absurd z (by decide +kernel)) | decide +kernel | exact fun _ => ⟨ss, rfl, hl, hs⟩
  · refine ⟨"not", _, e, ?_⟩
    constructor <;> first | (intro z; exact absurd z (by decide +kernel)) | decide +kernel | exact fun _ => ⟨s, rfl, hs⟩
  · refine ⟨"object", _, e, ?_⟩
    constructor <;> first | (intro z; exact absurd z (by decide +kernel)) | decide +kernel | exact fun _ => ⟨rs, o, rfl, hl, hr, ho⟩

/-! ### 4. validity, by the depth of the schema -/
def args : PyData → List PyData
  | .tuple xs => xs
  | _ => []
def arg (i : Nat) (d : PyData) : PyData := (args d).getD i .none
def strD : PyData → Str
  | .str s => s
  | _ => Str.empty
def intD : PyData → Int
  | .int s => s
  | _ => 0
def boolD : PyData → Bool
  | .bool s => s
  | _ => false
def word (d : PyData) : Str := strD (arg 0 d)
def within (n : Int) (lo hi : PyData) : Bool :=
  (match lo with | .int l => decide (l ≤ n) | _ => true) && (match hi with | .int h => decide (n ≤ h) | _ => true)
/-- the schema of a name: the last row of that name, or the other -/
def inner (rows : List PyData) (n : Str) (o : PyData) : PyData := rows.foldl (fun acc r => if strD (arg 0 r) = n then arg 1 r else acc) o
def zipAll (f : PyData → PyData → Bool) : List PyData → List PyData → Bool
  | x :: xs, y :: ys => f x y && zipAll f xs ys
  | _, _ => true
def hasName (fs : List PyData) (n : Str) : Bool := fs.any fun f => decide (strD (arg 0 f) = n)
def valid : Nat → PyData → PyData → Bool
  | 0, _, _ => false
  | k + 1, s, v =>
    if word s = "any" then true
    else if word s = "never" then false
    else if word s = "null" ∨ word s = "bool" then decide (word v = word s)
    else if word s = "int" then decide (word v = "int") && within (intD (arg 1 v)) (arg 1 s) (arg 2 s)
    else if word s = "text" then decide (word v = "text") && within ((strD (arg 1 v)).length : Nat) (arg 1 s) (arg 2 s)
    else if word s = "const" then PyData.eqv v (arg 1 s)
    else if word s = "either" then (args (arg 1 s)).any fun p => valid k p v
    else if word s = "all" then (args (arg 1 s)).all fun p => valid k p v
    else if word s = "not" then !valid k (arg 1 s) v
    else if word s = "list" then decide (word v = "list") && within ((args (arg 1 v)).length : Nat) (arg 2 s) (arg 3 s) && (args (arg 1 v)).all fun x => valid k (arg 1 s) x
    else if word s = "tuple" then decide (word v = "list") && decide ((args (arg 1 v)).length = (args (arg 1 s)).length) && zipAll (valid k) (args (arg 1 s)) (args (arg 1 v))
    else decide (word v = "object") && ((args (arg 1 s)).all fun r => !(boolD (arg 2 r) && !hasName (args (arg 1 v)) (strD (arg 0 r)))) &&
      (args (arg 1 v)).all fun f => valid k (inner (args (arg 1 s)) (strD (arg 0 f)) (arg 2 s)) (arg 1 f)

/-! ### 5. defs -/
/-- the built-in names that the text calls are the built-ins -/
structure Glob (mg : Str → Option Value) : Prop where
  n_len : mg "len" = none
  n_all : mg "all" = none
  n_any : mg "any" = none
  n_int : mg "int" = none
  n_tuple : mg "tuple" = none
  n_list : mg "list" = none
  n_isinstance : mg "isinstance" = none
  n_min : mg "min" = none
  n_max : mg "max" = none
  n_range : mg "range" = none
  n_zip : mg "zip" = none
  n_str : mg "str" = none
  n_bool : mg "bool" = none
structure At (K : PySem.W.Frag) (mg : Str → Option Value) (x : Str) (st : Stmt) (ps : List Str) : Prop where
  ex : ∃ (f : Addr) (fd : FuncData), Fun K x x st f fd ∧ mg x = some (.ref f) ∧ Binds K fd ps []
structure Def (P : Program) (w : World) (K : PySem.W.Frag) (mg : Str → Option Value) (base : Heap) (k : Nat) (x : Str) (ps : List Str) (sp : Sp) : Prop where
  ex : ∃ (f : Addr) (fd : FuncData), FnOk P w K mg base CX0 k f fd ps sp ∧ mg x = some (.ref f) ∧ PySem.W.keepIn K (.ref f) = true ∧ Binds K fd ps []
section
variable {P : Program} {w : World} {K : PySem.W.Frag} {mg : Str → Option Value} {base : Heap}
theorem At.def {x : Str} {st : Stmt} {N ps : List Str} {k : Nat} {sp : Sp} (F : At K mg x st ps) (S : FnScope N ps (defScope st)) (len : ∀ vs H Q E, sp vs H Q E → vs.length = ps.length)
    (hbody : ∀ (f : Addr) (cdv : Value) (A : Around) (outer : List Env) (s : Shared) (H : Hp) (vs : List V) (Q : VK) (E : XK), Room k (A.deeper (envOfC x (defScope st) s.heap.objs.size f cdv)) → sp vs H Q E →
      ∃ t, PSs (cxOf CX0 P w K mg base N x (defScope st) f cdv A outer s H E).nox (defBody st) t ∧ t { nx := fun _ H' => Q .non H', rt := Q } (start N vs) H) : Def P w K mg base (k + 1) x ps sp := by
  obtain ⟨f, fd, F, e, b⟩ := F.ex
  exact ⟨f, fd, F.ok S len (fun cdv A outer s H vs Q E hr h => hbody f cdv A outer s H vs Q E hr h), e, F.kp, b⟩
theorem Def.mono {x : Str} {ps : List Str} {j k : Nat} {sp : Sp} (D : Def P w K mg base j x ps sp) (h : j ≤ k) : Def P w K mg base k x ps sp := by
  obtain ⟨f, fd, F, e, kp, b⟩ := D.ex
  exact ⟨f, fd, F.mono h, e, kp, b⟩
end
section
variable {X : Cx}
theorem pe_def {x : Str} {ps : List Str} {j k : Nat} {sp : Sp} {e : Expr} {es : List Expr} {t : TA} {p pos : Pos} (D : Def X.prog X.w X.K X.mg X.base j x ps sp) (hr : Room k X.A) (hg : Gl X x)
    (ha : PA X (e :: es) t) (hj : j ≤ k := by omega) (hdb : (x == ("__debug__" : Str)) = false := by decide) (he : starEach (e :: es) X.env = (false, eval e X.env) :: starEach es X.env := by rfl) (hpl : (backTo pos (starEach es X.env)).any (·.1) = false := by rfl) :
    PE X (.Call (.Name x p) (e :: es) [] pos) (tCall sp [] E0 t) := by
  obtain ⟨f, fd, F, em, kp, b⟩ := D.ex
  exact pe_call F (hr.mono hj) hg em kp b .nil pass0 ha hdb he hpl
/-- a text repeated -/
def rRepS : R2 := fun x y H Q => ∃ z n, x = .str z ∧ y = .int n ∧ MulOk z n ∧ Q (.str (Txt.mul z n)) H
theorem op_repS : OpR X (binaryOp .Mult) rRepS := by
  intro pins s σ H x y v u Q I rx ry h
  obtain ⟨z, n, rfl, rfl, hc, q⟩ := h
  obtain ⟨t, rfl⟩ := rx
  obtain ⟨t', rfl⟩ := ry
  exact SB.mul hc fun t' k => ⟨.str _, H, I.tok k, ⟨t', rfl⟩, q⟩
end

/-! ### 6. comprehensions whose items are told one by one -/
section
variable {K : PySem.W.Frag} {A : List (Addr × Nat)} {a D : Addr} {xs : List V} {g : TG} {tt : TT} {te : TE} {vs : List Nat} {σ : L2.St} {H1 : Hp} {Qd : Hp → Prop}
/-- the list so far -/
def Acc (A : List (Addr × Nat)) (P : Nat → V → Hp → Prop) (H1 : Hp) (D : Addr) (i : Nat) (H : Hp) : Prop :=
  G A H1 H ∧ ∃ acc, H D = some (.lst acc) ∧ acc.length = i ∧ ∀ (j : Nat) y, acc[j]? = some y → P j y H
theorem Acc.start {P : Nat → V → Hp → Prop} (hD : H1 D = none) : Acc A P H1 D 0 (upd H1 D (.lst [])) := ⟨G.new hD, [], upd_same, rfl, fun j y e => by simp at e⟩
theorem Acc.turn {P : Nat → V → Hp → Prop} (mono : ∀ i v H H', T H H' → P i v H → P i v H') (ia : IA A H1) (hD : H1 D = none) {i : Nat} {H H3 : Hp} {y : V} (p : Acc A P H1 D i H) (hi : i < 100000) (g : G A H H3) (hy : P i y H3) :
    ∃ acc, H3 D = some (.lst acc) ∧ acc.length < sizeLine ∧ Acc A P H1 D (i + 1) (upd H3 D (.lst (acc ++ [y]))) := by
  obtain ⟨g1, acc, e, hl, hp⟩ := p
  have e3 : H3 D = some (.lst acc) := g.at (ia.no hD) e
  have tt : T H3 (upd H3 D (.lst (acc ++ [y]))) := T.lst e3
  refine ⟨acc, e3, Nat.lt_of_lt_of_le (by omega : acc.length < 100000) (by decide), (g1.trans g).mut hD, acc ++ [y], upd_same, by rw [List.length_append, List.length_singleton, hl], fun j z ez => ?_⟩
  rcases Nat.lt_or_ge j acc.length with hj | hj
  · rw [List.getElem?_append_left hj] at ez
    exact mono _ _ _ _ (g.t.trans tt) (hp j z ez)
  · rw [List.getElem?_append_right hj] at ez
    have hj2 : j - acc.length = 0 := by
      have := (List.getElem?_eq_some_iff.mp ez).1
      rw [List.length_singleton] at this
      omega
    rw [hj2] at ez
    have ez2 : y = z := Option.some.inj ez
    subst ez2
    have ej : j = i := by omega
    rw [ej]
    exact mono _ _ _ _ tt hy
theorem lcT (P : Nat → V → Hp → Prop) (mono : ∀ i v H H', T H H' → P i v H → P i v H') (ia : IA A H1) (hD : H1 D = none) (ha : H1 a = some (.tup xs)) (hl : xs.length ≤ 100000)
    (step : ∀ (i : Nat) (x : V) (H : Hp) (Nx : VK), xs[i]? = some x → G A H1 H → (∀ y H3, G A H H3 → P i y H3 → Nx y H3) → g x (wipe σ vs) H fun σ2 H2 => wipe σ2 vs = wipe σ vs ∧ te σ2 H2 Nx)
    (done : ∀ ys H', G A H1 H' → H' D = some (.lst ys) → ys.length = xs.length → (∀ (i : Nat) y, ys[i]? = some y → P i y H') → Qd H') :
    ∃ W : Nat → Nat → Hp → Prop, (∃ m, W 0 m (upd H1 D (.lst []))) ∧ ∀ i m H, W i m H →
      ((Itt K a).stop i H ∧ Qd H) ∨ ((Itt K a).go i H ∧ ∃ Nx : Hp → Prop, (∀ H', Nx H' → ∃ m', m' < m ∧ W (i + 1) m' H') ∧ ∀ x H', (Itt K a).yld i H x H' → g x (wipe σ vs) H' fun σ2 H2 => wipe σ2 vs = wipe σ vs ∧ tYes σ2 H2 fun b H3 =>
        if b = true then te σ2 H3 fun y H4 => ∃ acc, H4 D = some (.lst acc) ∧ acc.length < sizeLine ∧ Nx (upd H4 D (.lst (acc ++ [y]))) else Nx H3) := by
  refine lc_tup (xs := xs) (Acc A P H1 D) (Acc.start hD) (fun i H _ p => SqT.of (p.1.t _ _ ha)) (fun i x H hi p => ?_) fun H p => ?_
  · refine step i x H _ hi p.1 fun y H4 q1 q2 => Acc.turn mono ia hD p ?_ q1 q2
    have := (List.getElem?_eq_some_iff.mp hi).1
    omega
  · obtain ⟨g1, acc, e, hl, hp⟩ := p
    exact done acc H g1 e hl hp
theorem lcL (P : Nat → V → Hp → Prop) (mono : ∀ i v H H', T H H' → P i v H → P i v H') (ia : IA A H1) (hD : H1 D = none) (ha : ∀ H, G A H1 H → SqL K H a xs) (hl : xs.length ≤ 100000)
    (step : ∀ (i : Nat) (x : V) (H : Hp) (Nx : VK), xs[i]? = some x → G A H1 H → (∀ y H3, G A H H3 → P i y H3 → Nx y H3) → g x (wipe σ vs) H fun σ2 H2 => wipe σ2 vs = wipe σ vs ∧ te σ2 H2 Nx)
    (done : ∀ ys H', G A H1 H' → H' D = some (.lst ys) → ys.length = xs.length → (∀ (i : Nat) y, ys[i]? = some y → P i y H') → Qd H') :
    ∃ W : Nat → Nat → Hp → Prop, (∃ m, W 0 m (upd H1 D (.lst []))) ∧ ∀ i m H, W i m H →
      ((Itl K a).stop i H ∧ Qd H) ∨ ((Itl K a).go i H ∧ ∃ Nx : Hp → Prop, (∀ H', Nx H' → ∃ m', m' < m ∧ W (i + 1) m' H') ∧ ∀ x H', (Itl K a).yld i H x H' → g x (wipe σ vs) H' fun σ2 H2 => wipe σ2 vs = wipe σ vs ∧ tYes σ2 H2 fun b H3 =>
        if b = true then te σ2 H3 fun y H4 => ∃ acc, H4 D = some (.lst acc) ∧ acc.length < sizeLine ∧ Nx (upd H4 D (.lst (acc ++ [y]))) else Nx H3) := by
  refine lc_list (xs := xs) (Acc A P H1 D) (Acc.start hD) (fun i H _ p => ha H p.1) (fun i x H hi p => ?_) fun H p => ?_
  · refine step i x H _ hi p.1 fun y H4 q1 q2 => Acc.turn mono ia hD p ?_ q1 q2
    have := (List.getElem?_eq_some_iff.mp hi).1
    omega
  · obtain ⟨g1, acc, e, hl, hp⟩ := p
    exact done acc H g1 e hl hp
theorem lcR {lo : Int} {n : Nat} (P : Nat → V → Hp → Prop) (mono : ∀ i v H H', T H H' → P i v H → P i v H') (ia : IA A H1) (hD : H1 D = none) (hl : n ≤ 100000)
    (step : ∀ (i : Nat) H (Nx : VK), i < n → G A H1 H → (∀ y H3, G A H H3 → P i y H3 → Nx y H3) → g (.int (lo + i)) (wipe σ vs) H fun σ2 H2 => wipe σ2 vs = wipe σ vs ∧ te σ2 H2 Nx)
    (done : ∀ ys H', G A H1 H' → H' D = some (.lst ys) → ys.length = n → (∀ (i : Nat) y, ys[i]? = some y → P i y H') → Qd H') :
    ∃ W : Nat → Nat → Hp → Prop, (∃ m, W 0 m (upd H1 D (.lst []))) ∧ ∀ i m H, W i m H →
      ((Itr lo n).stop i H ∧ Qd H) ∨ ((Itr lo n).go i H ∧ ∃ Nx : Hp → Prop, (∀ H', Nx H' → ∃ m', m' < m ∧ W (i + 1) m' H') ∧ ∀ x H', (Itr lo n).yld i H x H' → g x (wipe σ vs) H' fun σ2 H2 => wipe σ2 vs = wipe σ vs ∧ tYes σ2 H2 fun b H3 =>
        if b = true then te σ2 H3 fun y H4 => ∃ acc, H4 D = some (.lst acc) ∧ acc.length < sizeLine ∧ Nx (upd H4 D (.lst (acc ++ [y]))) else Nx H3) := by
  refine lc_range (lo := lo) (n := n) (Acc A P H1 D) (Acc.start hD) (fun i H hi p => ?_) fun H p => ?_
  · exact step i H _ hi p.1 fun y H4 q1 q2 => Acc.turn mono ia hD p (by omega) q1 q2
  · obtain ⟨g1, acc, e, hl, hp⟩ := p
    exact done acc H g1 e hl hp
/-- over zip of two tuples of one length -/
theorem lcZ {b : Addr} {ys : List V} (P : Nat → V → Hp → Prop) (mono : ∀ i v H H', T H H' → P i v H → P i v H') (ia : IA A H1) (hD : H1 D = none) (ha : H1 a = some (.tup xs)) (hb : H1 b = some (.tup ys)) (he : xs.length = ys.length) (hl : xs.length ≤ 100000)
    (step : ∀ (i : Nat) (x y : V) (T : Addr) (H : Hp) (Nx : VK), xs[i]? = some x → ys[i]? = some y → G A H1 H → H T = some (.tup [x, y]) → (∀ y H3, G A H H3 → P i y H3 → Nx y H3) → g (.ref T) (wipe σ vs) H fun σ2 H2 => wipe σ2 vs = wipe σ vs ∧ te σ2 H2 Nx)
    (done : ∀ zs H', G A H1 H' → H' D = some (.lst zs) → zs.length = xs.length → (∀ (i : Nat) y, zs[i]? = some y → P i y H') → Qd H') :
    ∃ W : Nat → Nat → Hp → Prop, (∃ m, W 0 m (upd H1 D (.lst []))) ∧ ∀ i m H, W i m H →
      ((RZ.ItzT K a b).stop i H ∧ Qd H) ∨ ((RZ.ItzT K a b).go i H ∧ ∃ Nx : Hp → Prop, (∀ H', Nx H' → ∃ m', m' < m ∧ W (i + 1) m' H') ∧ ∀ x H', (RZ.ItzT K a b).yld i H x H' → g x (wipe σ vs) H' fun σ2 H2 => wipe σ2 vs = wipe σ vs ∧ tYes σ2 H2 fun b H3 =>
        if b = true then te σ2 H3 fun y H4 => ∃ acc, H4 D = some (.lst acc) ∧ acc.length < sizeLine ∧ Nx (upd H4 D (.lst (acc ++ [y]))) else Nx H3) := by
  refine ⟨fun i m H => m = xs.length - i ∧ i ≤ xs.length ∧ Acc A P H1 D i H, ⟨xs.length, by simp, Nat.zero_le _, Acc.start hD⟩, ?_⟩
  rintro i m H ⟨rfl, hi, p⟩
  have qa : SqT K H a xs := SqT.of (p.1.t _ _ ha)
  have qb : SqT K H b ys := SqT.of (p.1.t _ _ hb)
  by_cases hlt : i < xs.length
  · have hx : xs[i]? = some xs[i] := List.getElem?_eq_getElem hlt
    have hy : ys[i]? = some (ys[i]'(by omega)) := List.getElem?_eq_getElem (by omega)
    refine .inr ⟨⟨xs, ys, _, _, qa, qb, hx, hy⟩, Acc A P H1 D (i + 1), fun H' p' => ⟨xs.length - (i + 1), by omega, rfl, hlt, p'⟩, fun z H' q => ?_⟩
    obtain ⟨T1, x', y', rfl, hT, rfl, f1, f2⟩ := q
    have pN : Acc A P H1 D i (upd H T1 (.tup [x', y'])) := by
      obtain ⟨g1, acc, e, hl, hp⟩ := p
      exact ⟨g1.trans (G.new hT), acc, by rw [upd_ne (ne_of_none e hT)]; exact e, hl, fun j y e => mono _ _ _ _ (T.new hT) (hp j y e)⟩
    exact step i x' y' T1 _ _ (f1 xs qa) (f2 ys qb) pN.1 upd_same fun y H4 q1 q2 => Acc.turn mono ia hD pN (by omega) q1 q2
  · have e : i = xs.length := by omega
    subst e
    obtain ⟨g1, acc, e, hl, hp⟩ := p
    exact .inl ⟨⟨xs, ys, qa, qb, .inl (Nat.le_refl _)⟩, done acc H g1 e hl hp⟩
/-- with a test: what is taken is in P -/
def AccF (A : List (Addr × Nat)) (P : V → Hp → Prop) (H1 : Hp) (D : Addr) (i : Nat) (H : Hp) : Prop :=
  G A H1 H ∧ ∃ acc, H D = some (.lst acc) ∧ acc.length ≤ i ∧ ∀ y ∈ acc, P y H
theorem AccF.start {P : V → Hp → Prop} (hD : H1 D = none) : AccF A P H1 D 0 (upd H1 D (.lst [])) := ⟨G.new hD, [], upd_same, Nat.le_refl _, fun y e => by simp at e⟩
theorem AccF.turn {P : V → Hp → Prop} (mono : ∀ v H H', T H H' → P v H → P v H') (ia : IA A H1) (hD : H1 D = none) {i : Nat} {H H3 : Hp} {y : V} (p : AccF A P H1 D i H) (hi : i < 100000) (g : G A H H3) (hy : P y H3) :
    ∃ acc, H3 D = some (.lst acc) ∧ acc.length < sizeLine ∧ AccF A P H1 D (i + 1) (upd H3 D (.lst (acc ++ [y]))) := by
  obtain ⟨g1, acc, e, hl, hp⟩ := p
  have e3 : H3 D = some (.lst acc) := g.at (ia.no hD) e
  have tt : T H3 (upd H3 D (.lst (acc ++ [y]))) := T.lst e3
  refine ⟨acc, e3, Nat.lt_of_lt_of_le (by omega : acc.length < 100000) (by decide), (g1.trans g).mut hD, acc ++ [y], upd_same, by rw [List.length_append, List.length_singleton]; omega, fun z ez => ?_⟩
  rcases List.mem_append.mp ez with ez | ez
  · exact mono _ _ _ (g.t.trans tt) (hp z ez)
  · rw [List.mem_singleton.mp ez]
    exact mono _ _ _ tt hy
theorem AccF.skip {P : V → Hp → Prop} (mono : ∀ v H H', T H H' → P v H → P v H') (ia : IA A H1) (hD : H1 D = none) {i : Nat} {H H3 : Hp} (p : AccF A P H1 D i H) (g : G A H H3) : AccF A P H1 D (i + 1) H3 := by
  obtain ⟨g1, acc, e, hl, hp⟩ := p
  exact ⟨g1.trans g, acc, g.at (ia.no hD) e, by omega, fun z ez => mono _ _ _ g.t (hp z ez)⟩
theorem lcTf (P : V → Hp → Prop) (mono : ∀ v H H', T H H' → P v H → P v H') (ia : IA A H1) (hD : H1 D = none) (ha : H1 a = some (.tup xs)) (hl : xs.length ≤ 100000)
    (step : ∀ (i : Nat) (x : V) (H : Hp) (Nx : VK) (No : Hp → Prop), xs[i]? = some x → G A H1 H → (∀ y H3, G A H H3 → P y H3 → Nx y H3) → (∀ H3, G A H H3 → No H3) → g x (wipe σ vs) H fun σ2 H2 => wipe σ2 vs = wipe σ vs ∧ tt σ2 H2 fun b H3 => if b = true then te σ2 H3 Nx else No H3)
    (done : ∀ ys H', G A H1 H' → H' D = some (.lst ys) → ys.length ≤ xs.length → (∀ y ∈ ys, P y H') → Qd H') :
    ∃ W : Nat → Nat → Hp → Prop, (∃ m, W 0 m (upd H1 D (.lst []))) ∧ ∀ i m H, W i m H →
      ((Itt K a).stop i H ∧ Qd H) ∨ ((Itt K a).go i H ∧ ∃ Nx : Hp → Prop, (∀ H', Nx H' → ∃ m', m' < m ∧ W (i + 1) m' H') ∧ ∀ x H', (Itt K a).yld i H x H' → g x (wipe σ vs) H' fun σ2 H2 => wipe σ2 vs = wipe σ vs ∧ tt σ2 H2 fun b H3 =>
        if b = true then te σ2 H3 fun y H4 => ∃ acc, H4 D = some (.lst acc) ∧ acc.length < sizeLine ∧ Nx (upd H4 D (.lst (acc ++ [y]))) else Nx H3) := by
  refine lc_tup (xs := xs) (AccF A P H1 D) (AccF.start hD) (fun i H _ p => SqT.of (p.1.t _ _ ha)) (fun i x H hi p => ?_) fun H p => ?_
  · refine step i x H _ _ hi p.1 (fun y H4 q1 q2 => AccF.turn mono ia hD p ?_ q1 q2) fun H4 q1 => AccF.skip mono ia hD p q1
    have := (List.getElem?_eq_some_iff.mp hi).1
    omega
  · obtain ⟨g1, acc, e, hl, hp⟩ := p
    exact done acc H g1 e hl hp
theorem lcLf (P : V → Hp → Prop) (mono : ∀ v H H', T H H' → P v H → P v H') (ia : IA A H1) (hD : H1 D = none) (ha : ∀ H, G A H1 H → SqL K H a xs) (hl : xs.length ≤ 100000)
    (step : ∀ (i : Nat) (x : V) (H : Hp) (Nx : VK) (No : Hp → Prop), xs[i]? = some x → G A H1 H → (∀ y H3, G A H H3 → P y H3 → Nx y H3) → (∀ H3, G A H H3 → No H3) → g x (wipe σ vs) H fun σ2 H2 => wipe σ2 vs = wipe σ vs ∧ tt σ2 H2 fun b H3 => if b = true then te σ2 H3 Nx else No H3)
    (done : ∀ ys H', G A H1 H' → H' D = some (.lst ys) → ys.length ≤ xs.length → (∀ y ∈ ys, P y H') → Qd H') :
    ∃ W : Nat → Nat → Hp → Prop, (∃ m, W 0 m (upd H1 D (.lst []))) ∧ ∀ i m H, W i m H →
      ((Itl K a).stop i H ∧ Qd H) ∨ ((Itl K a).go i H ∧ ∃ Nx : Hp → Prop, (∀ H', Nx H' → ∃ m', m' < m ∧ W (i + 1) m' H') ∧ ∀ x H', (Itl K a).yld i H x H' → g x (wipe σ vs) H' fun σ2 H2 => wipe σ2 vs = wipe σ vs ∧ tt σ2 H2 fun b H3 =>
        if b = true then te σ2 H3 fun y H4 => ∃ acc, H4 D = some (.lst acc) ∧ acc.length < sizeLine ∧ Nx (upd H4 D (.lst (acc ++ [y]))) else Nx H3) := by
  refine lc_list (xs := xs) (AccF A P H1 D) (AccF.start hD) (fun i H _ p => ha H p.1) (fun i x H hi p => ?_) fun H p => ?_
  · refine step i x H _ _ hi p.1 (fun y H4 q1 q2 => AccF.turn mono ia hD p ?_ q1 q2) fun H4 q1 => AccF.skip mono ia hD p q1
    have := (List.getElem?_eq_some_iff.mp hi).1
    omega
  · obtain ⟨g1, acc, e, hl, hp⟩ := p
    exact done acc H g1 e hl hp
end

/-! ### the rules that speak of the written part, told by its name -/
section
variable {X : Cx}
theorem ix_tupK (K : PySem.W.Frag) (e : X.K = K := by rfl) : IxR X (rIxT K) := by subst e; exact ix_tup
theorem ix_listK (K : PySem.W.Frag) (e : X.K = K := by rfl) : IxR X (rIxL K) := by subst e; exact ix_list
theorem sl_tupK (K : PySem.W.Frag) (e : X.K = K := by rfl) : SlR X (rSlA K) := by subst e; exact sl_tupA
theorem sl_listK (K : PySem.W.Frag) (e : X.K = K := by rfl) : SlR X (rSlL K) := by subst e; exact sl_list
theorem op_catK (K : PySem.W.Frag) (e : X.K = K := by rfl) : OpR X (binaryOp .Add) (rCatA K) := by subst e; exact op_catA
theorem op_notInK (K : PySem.W.Frag) (e : X.K = K := by rfl) : OpR X (compareOp .NotIn) (rIn K true) := by subst e; exact op_notIn_seq
theorem op_eqDK (K : PySem.W.Frag) (hu : X.A.units + 64 < cLine) (e : X.K = K := by rfl) : OpR X (compareOp .Eq) (rEqD K) := by subst e; exact op_eqD hu
theorem op_inDK (K : PySem.W.Frag) (hu : X.A.units + 65 < cLine) (e : X.K = K := by rfl) : OpR X (compareOp .In) (rInD K) := by subst e; exact op_inD hu
def rLen (K : PySem.W.Frag) : List V → Hp → VK → Prop := fun xs H Q => ∃ x n, xs = [x] ∧ LenV K x H n ∧ Q (.int (n : Nat)) H
theorem call_lenK (K : PySem.W.Frag) (e : X.K = K := by rfl) : CallR X (.builtin "len") (rLen K) := by subst e; exact call_len
def rTuple (K : PySem.W.Frag) : List V → Hp → VK → Prop := fun xs H Q => ∃ p ys, xs = [.ref p] ∧ ((SqL K H p ys ∧ ∀ l, H l = none → Q (.ref l) (upd H l (.tup ys))) ∨ (SqT K H p ys ∧ Q (.ref p) H))
theorem call_tupleK (K : PySem.W.Frag) (e : X.K = K := by rfl) : CallR X (.type "tuple") (rTuple K) := by subst e; exact call_tuple_of
def rList (K : PySem.W.Frag) : List V → Hp → VK → Prop := fun xs H Q => ∃ p ys, xs = [.ref p] ∧ (SqL K H p ys ∨ SqT K H p ys) ∧ ∀ l, H l = none → Q (.ref l) (upd H l (.lst ys))
theorem call_listK (K : PySem.W.Frag) (e : X.K = K := by rfl) : CallR X (.type "list") (rList K) := by subst e; exact call_list_of
theorem cr_allK (K : PySem.W.Frag) (hc : X.calm = true) (e : X.K = K := by rfl) : CallR X (.builtin "all") (rAll K) := by subst e; exact cr_all hc
theorem cr_anyK (K : PySem.W.Frag) (hc : X.calm = true) (e : X.K = K := by rfl) : CallR X (.builtin "any") (rAny K) := by subst e; exact cr_any hc
theorem call_isiK' (K : PySem.W.Frag) (e : X.K = K := by rfl) : CallR X (.builtin "isinstance") (rIsi K) := by subst e; exact call_isi
def rMin2 : List V → Hp → VK → Prop := fun xs H Q => ∃ i j, xs = [.int i, .int j] ∧ Q (.int (if j < i then j else i)) H
def rMax2 : List V → Hp → VK → Prop := fun xs H Q => ∃ i j, xs = [.int i, .int j] ∧ Q (.int (if j > i then j else i)) H
theorem call_min2' (hc : X.calm = true) : CallR X (.builtin "min") rMin2 := call_min2 hc
theorem call_max2' (hc : X.calm = true) : CallR X (.builtin "max") rMax2 := call_max2 hc
def rInt1 : List V → Hp → VK → Prop := fun xs H Q => (∃ i, xs = [.int i] ∧ Q (.int i) H) ∨ ∃ k, xs = [.bl k] ∧ Q (.int (if k then 1 else 0)) H
theorem call_int1' : CallR X (.type "int") rInt1 := call_int1
theorem pi_tupK (K : PySem.W.Frag) {tg l : Expr} {tl : TE} (hl : PE X l tl) (e : X.K = K := by rfl) : PI X tg l (iTup K tl) := by subst e; exact pi_tup hl
theorem pi_listK (K : PySem.W.Frag) {tg l : Expr} {tl : TE} (hl : PE X l tl) (e : X.K = K := by rfl) : PI X tg l (iList K tl) := by subst e; exact pi_list hl
theorem pi_zipK (K : PySem.W.Frag) {e e2 : Expr} {ta : TA} {p pos tpos : Pos} {elts : List Expr} {kk : Nat} (hg : Gl X "zip") (hm : X.mg "zip" = none) (ha : PA X [e, e2] ta)
    (hs : starEach [e, e2] X.env = (false, eval e X.env) :: starEach [e2] X.env := by rfl) (hpl : (backTo pos (starEach [e2] X.env)).any (·.1) = false := by rfl) (ek : X.K = K := by rfl) :
    PI X (.Tuple elts kk tpos) (.Call (.Name "zip" p) [e, e2] [] pos) (RZ.iZipA K ta) := by subst ek; exact RZ.pi_zipA hg hm ha hs hpl
theorem pg_tupK (K : PySem.W.Frag) {pos : Pos} {es : List Expr} {k : Nat} {t : TGs} {n : Nat} (hc : X.calm = true) (h : PGs X es t)
    (hn : (assignEach es X.env).length = n := by rfl) (hst : (assignEach es X.env).findIdx? (·.1) = none := by rfl) (ek : X.K = K := by rfl) : PG X (.Tuple es k pos) (gTup K n t) := by subst ek; exact pg_tup hc h hn hst
def rJoin (K : PySem.W.Frag) : V → List V → Hp → VK → Prop := fun x xs H Q => ∃ a p, ∃ ys : List Str, x = .str a ∧ xs = [.ref p] ∧ (SqL K H p (ys.map V.str) ∨ SqT K H p (ys.map V.str)) ∧ (ys.map (·.length)).sum + ys.length * a.length ≤ 16777216 ∧ Q (.str (Txt.join a ys)) H
end

/-! ### 7. readings, one step at a time -/
theorem sz100 {n : Nat} (h : Nat.ble n 100 = true) : n ≤ sizeLine := Nat.le_trans (Nat.le_of_ble_eq_true h) (by decide)
section
variable {K : PySem.W.Frag} {A : List (Addr × Nat)} {σ : L2.St} {H H' : Hp} {Q : VK} {v x y : V} {D : Ends} {ta tb te : TE} {t u : TT} {tt uu : TS} {i j : Int} {p l : Addr} {xs : List V} {d : PyData} {ds : List PyData}
theorem w_var {n : Nat} (h : σ[n]? = some (some v)) (q : Q v H) : tVar n σ H Q := ⟨v, h, q⟩
theorem w_C (q : Q v H) : tC v σ H Q := q
theorem w_op {r : R2} (q : ta σ H fun x H1 => tb σ H1 fun y H2 => r x y H2 Q) : tOp r ta tb σ H Q := q
theorem w_un {r : V → Hp → VK → Prop} (q : ta σ H fun x H1 => r x H1 Q) : tUn r ta σ H Q := q
theorem w_cons {tr : TA} {QA : List V → Hp → Prop} (q : ta σ H fun x H1 => tr σ H1 fun xs H2 => QA (x :: xs) H2) : tCons ta tr σ H QA := q
theorem w_nil {QA : List V → Hp → Prop} (q : QA [] H) : tNil σ H QA := q
theorem w_cb {r : List V → Hp → VK → Prop} {tl : TA} (q : tl σ H fun vs H1 => r vs H1 Q) : tCB r tl σ H Q := q
theorem w_call {sp : Sp} {E : XK} {tl : TA} (q : tl σ H fun vs H1 => sp vs H1 Q E) : tCall sp [] E tl σ H Q := by
  have e : (fun (vs : List V) (H1 : Hp) => sp (vs ++ []) H1 Q E) = fun vs H1 => sp vs H1 Q E := by
    funext vs H1
    rw [List.append_nil]
  show tl σ H fun vs H1 => sp (vs ++ []) H1 Q E
  rw [e]
  exact q
def mkT (xs : List V) (H : Hp) (Q : VK) : Prop := xs.length ≤ sizeLine ∧ ∀ p, H p = none → Q (.ref p) (upd H p (.tup xs))
def mkL (xs : List V) (H : Hp) (Q : VK) : Prop := xs.length ≤ sizeLine ∧ ∀ p, H p = none → Q (.ref p) (upd H p (.lst xs))
theorem w_tup {tl : TA} (q : tl σ H fun xs H1 => mkT xs H1 Q) : tTup tl σ H Q := q
theorem w_lst {tl : TA} (q : tl σ H fun xs H1 => mkL xs H1 Q) : tLst tl σ H Q := q
theorem w_mkT (hl : xs.length ≤ sizeLine) (q : ∀ p H', H p = none → G [] H H' → H' p = some (.tup xs) → Q (.ref p) H') : mkT xs H Q :=
  ⟨hl, fun p hp => q p _ hp (G.new hp) upd_same⟩
theorem w_mkL (hl : xs.length ≤ sizeLine) (q : ∀ p H', H p = none → G [] H H' → H' p = some (.lst xs) → Q (.ref p) H') : mkL xs H Q :=
  ⟨hl, fun p hp => q p _ hp (G.new hp) upd_same⟩
-- statements
theorem w_seq (q : tt { D with nx := uu D } σ H) : tSeq tt uu D σ H := q
theorem w_next (q : D.nx σ H) : tNext D σ H := q
theorem w_asg {g : TG} (q : te σ H fun x H1 => g x σ H1 D.nx) : tAsg te g D σ H := q
theorem w_gname {n : Nat} {QS : L2.St → Hp → Prop} (q : QS (σ.set n (some v)) H) : gName n v σ H QS := q
theorem w_gnameS {n : Nat} {σ' : L2.St} {QS : L2.St → Hp → Prop} (h : σ.set n (some v) = σ') (q : QS σ' H) : gName n v σ H QS := by
  subst h
  exact q
theorem w_ret (q : te σ H D.rt) : tRet te D σ H := q
theorem w_drop (q : te σ H fun _ H1 => D.nx σ H1) : tDrop te D σ H := q
theorem w_ifS (q : t σ H fun b H1 => if b = true then tt D σ H1 else uu D σ H1) : tIfS t tt uu D σ H := q
-- tests
theorem w_B {QB : Bool → Hp → Prop} (q : te σ H fun x H1 => ∃ c, x = .bl c ∧ QB c H1) : tB te σ H QB := q
theorem w_test {QB : Bool → Hp → Prop} (q : te σ H fun x H1 => ∃ c, x = .bl c ∧ QB c H1) : tTest te σ H QB := q
theorem w_bl {b : Bool} {QB : Bool → Prop} (q : QB b) : ∃ c, V.bl b = .bl c ∧ QB c := ⟨b, rfl, q⟩
theorem w_and {QB : Bool → Hp → Prop} (q : t σ H fun c H1 => if c = true then u σ H1 QB else QB false H1) : tAnd t u σ H QB := q
theorem w_or {QB : Bool → Hp → Prop} (q : t σ H fun c H1 => if c = true then QB true H1 else u σ H1 QB) : tOr t u σ H QB := q
theorem w_not {QB : Bool → Hp → Prop} (q : t σ H fun c H1 => QB (!c) H1) : tNot t σ H QB := q
theorem w_andV (q : ta σ H fun x H1 => ∃ c, x = .bl c ∧ if c = true then tb σ H1 Q else Q (.bl false) H1) : tAndV ta tb σ H Q := q
theorem w_orV (q : ta σ H fun x H1 => ∃ c, x = .bl c ∧ if c = true then Q (.bl true) H1 else tb σ H1 Q) : tOrV ta tb σ H Q := q
theorem w_notV (q : ta σ H fun x H1 => ∃ c, x = .bl c ∧ Q (.bl (!c)) H1) : tNotV ta σ H Q := q
theorem w_isN (q : ta σ H fun x H1 => Q (.bl (decide (x = .non))) H1) : tIsN ta σ H Q := q
theorem w_notN (q : ta σ H fun x H1 => Q (.bl (!decide (x = .non))) H1) : tNotN ta σ H Q := q
theorem w_ite {b : Bool} {Y Z : Prop} (h1 : b = true → Y) (h0 : b = false → Z) : if b = true then Y else Z := by
  cases b with
  | true => exact h1 rfl
  | false => exact h0 rfl
theorem it_nt {Y Z : Prop} (h : Z) : if (!true) = true then Y else Z := h
theorem it_nf {Y Z : Prop} (h : Y) : if (!false) = true then Y else Z := h
theorem w_iteD {c : Prop} [Decidable c] {Y Z : Prop} (h1 : c → Y) (h0 : ¬ c → Z) : if decide c = true then Y else Z := w_ite (fun e => h1 (of_decide_eq_true e)) fun e => h0 (of_decide_eq_false e)
theorem w_iteNotD {c : Prop} [Decidable c] {Y Z : Prop} (h1 : ¬ c → Y) (h0 : c → Z) : if (!decide c) = true then Y else Z := w_ite (fun e => h1 (of_decide_eq_false (by simpa using e))) fun e => h0 (of_decide_eq_true (by simpa using e))
theorem w_iteEqS {a b : Str} {Y Z : Prop} (h1 : a = b → Y) (h0 : a ≠ b → Z) : if decide (V.str a = V.str b) = true then Y else Z := w_iteD (fun e => h1 (V.str.inj e)) fun e => h0 fun z => e (by rw [z])
theorem w_iteNeS {a b : Str} {Y Z : Prop} (h1 : a ≠ b → Y) (h0 : a = b → Z) : if (!decide (V.str a = V.str b)) = true then Y else Z := w_iteNotD (fun e => h1 fun z => e (by rw [z])) fun e => h0 (V.str.inj e)
theorem w_iteEqI {a b : Int} {Y Z : Prop} (h1 : a = b → Y) (h0 : a ≠ b → Z) : if decide (V.int a = V.int b) = true then Y else Z := w_iteD (fun e => h1 (V.int.inj e)) fun e => h0 fun z => e (by rw [z])
theorem w_iteNeI {a b : Int} {Y Z : Prop} (h1 : a ≠ b → Y) (h0 : a = b → Z) : if (!decide (V.int a = V.int b)) = true then Y else Z := w_iteNotD (fun e => h1 fun z => e (by rw [z])) fun e => h0 (V.int.inj e)
-- values
theorem w_I0 {g : Int → Int → V} (q : Q (g i j) H) : rI0 g (.int i) (.int j) H Q := ⟨i, j, rfl, rfl, q⟩
theorem w_I {C : Int → Int → Prop} {g : Int → Int → V} (hc : C i j) (q : Q (g i j) H) : rI C g (.int i) (.int j) H Q := ⟨i, j, rfl, rfl, hc, q⟩
theorem w_U {g : Int → V} (q : Q (g i) H) : rU g (.int i) H Q := ⟨i, rfl, q⟩
theorem w_eq (hs : scal x y = true) (q : Q (.bl (decide (x = y))) H) : rEq x y H Q := ⟨hs, q⟩
theorem w_ne (hs : scal x y = true) (q : Q (.bl (!decide (x = y))) H) : rNe x y H Q := ⟨hs, q⟩
theorem w_ixT (h : H p = some (.tup xs)) (e : atI xs i = some v) (q : Q v H) : rIxT K (.ref p) (.int i) H Q := ⟨p, xs, i, v, rfl, rfl, SqT.of h, e, q⟩
theorem w_ixL (h : H p = some (.lst xs)) (e : atI xs i = some v) (q : Q v H) : rIxL K (.ref p) (.int i) H Q := ⟨p, xs, i, v, rfl, rfl, SqL.of h, e, q⟩
theorem w_ixTn {n : Nat} (h : H p = some (.tup xs)) (hi : i = (n : Int)) (e : xs[n]? = some v) (q : Q v H) : rIxT K (.ref p) (.int i) H Q := w_ixT h (at_of hi e) q
theorem w_ixLn {n : Nat} (h : H p = some (.lst xs)) (hi : i = (n : Int)) (e : xs[n]? = some v) (q : Q v H) : rIxL K (.ref p) (.int i) H Q := w_ixL h (at_of hi e) q
theorem w_lenT (h : H p = some (.tup xs)) (q : Q (.int xs.length) H) : rLen K [.ref p] H Q := ⟨.ref p, xs.length, rfl, .inr ⟨xs, SqT.of h, rfl⟩, q⟩
theorem w_lenL (h : H p = some (.lst xs)) (q : Q (.int xs.length) H) : rLen K [.ref p] H Q := ⟨.ref p, xs.length, rfl, .inl ⟨xs, SqL.of h, rfl⟩, q⟩
theorem w_lenS {s : Str} (h : s.length ≤ sizeLine) (q : Q (.int s.length) H) : rLen K [.str s] H Q := ⟨.str s, s.length, rfl, ⟨h, rfl⟩, q⟩
theorem w_tupleL (h : H p = some (.lst xs)) (q : ∀ l H', H l = none → G [] H H' → H' l = some (.tup xs) → Q (.ref l) H') : rTuple K [.ref p] H Q := ⟨p, xs, rfl, .inl ⟨SqL.of h, fun l hl => q l _ hl (G.new hl) upd_same⟩⟩
theorem w_int (q : Q (.int i) H) : rInt1 [.int i] H Q := .inl ⟨i, rfl, q⟩
theorem w_intB {b : Bool} (q : Q (.int (if b then 1 else 0)) H) : rInt1 [.bl b] H Q := .inr ⟨b, rfl, q⟩
theorem w_min (q : Q (.int (if j < i then j else i)) H) : rMin2 [.int i, .int j] H Q := ⟨i, j, rfl, q⟩
theorem w_max (q : Q (.int (if j > i then j else i)) H) : rMax2 [.int i, .int j] H Q := ⟨i, j, rfl, q⟩
-- facts carried to a later heap
theorem f_tup (g : G A H H') (h : H p = some (.tup xs)) : H' p = some (.tup xs) := g.t _ _ h
theorem f_lst (g : G A H H') (n : l ∉ A.map (·.1)) (h : H l = some (.lst xs)) : H' l = some (.lst xs) := g.k _ _ n h
theorem f_rep (g : G A H H') (h : Rep H v d) : Rep H' v d := h.mono g.t
theorem f_reps (g : G A H H') (h : Reps H xs ds) : Reps H' xs ds := h.mono g.t
theorem f_ia {B : List (Addr × Nat)} (g : G A H H') (e : G A H H' → G B H H') (h : IA B H) : IA B H' := (e g).i h
theorem f_ia0 (g : G [] H H') (h : IA A H) : IA A H' := (g.any).i h
theorem f_iaA (g : G A H H') (h : IA A H) : IA A H' := g.i h
theorem f_g {B : List (Addr × Nat)} {H0 : Hp} (g : G B H H') (h : G B H0 H) : G B H0 H' := h.trans g
theorem f_g0 {B : List (Addr × Nat)} {H0 : Hp} (g : G [] H H') (h : G B H0 H) : G B H0 H' := h.trans g.any
theorem nil_nin {a : Addr} : a ∉ ([] : List (Addr × Nat)).map (·.1) := by simp
end

/-! ### 8. comprehensions and loops, as the readings ask for them -/
section
variable {K : PySem.W.Frag} {A : List (Addr × Nat)} {σ : L2.St} {H H' : Hp} {Q : VK} {D : Ends} {te tl : TE} {tt : TT} {tb : TS} {g : TG} {vs : List Nat} {p : Addr} {xs : List V} {ta : TA}
theorem w_lc (q : tl σ H fun x H1 => ∃ a, x = .ref a ∧ (∃ xs, SqT K H1 a xs) ∧ ∀ D, H1 D = none → ∃ W : Nat → Nat → Hp → Prop, (∃ m, W 0 m (upd H1 D (.lst []))) ∧ ∀ i m H, W i m H →
      ((Itt K a).stop i H ∧ Q (.ref D) H) ∨ ((Itt K a).go i H ∧ ∃ Nx : Hp → Prop, (∀ H', Nx H' → ∃ m', m' < m ∧ W (i + 1) m' H') ∧ ∀ x H', (Itt K a).yld i H x H' → g x (wipe σ vs) H' fun σ2 H2 => wipe σ2 vs = wipe σ vs ∧ tt σ2 H2 fun b H3 =>
        if b = true then te σ2 H3 fun y H4 => ∃ acc, H4 D = some (.lst acc) ∧ acc.length < sizeLine ∧ Nx (upd H4 D (.lst (acc ++ [y]))) else Nx H3)) : tLc (iTup K tl) g tt te vs σ H Q := q
theorem w_lcL (q : tl σ H fun x H1 => ∃ a, x = .ref a ∧ (∃ xs, SqL K H1 a xs) ∧ ∀ D, H1 D = none → ∃ W : Nat → Nat → Hp → Prop, (∃ m, W 0 m (upd H1 D (.lst []))) ∧ ∀ i m H, W i m H →
      ((Itl K a).stop i H ∧ Q (.ref D) H) ∨ ((Itl K a).go i H ∧ ∃ Nx : Hp → Prop, (∀ H', Nx H' → ∃ m', m' < m ∧ W (i + 1) m' H') ∧ ∀ x H', (Itl K a).yld i H x H' → g x (wipe σ vs) H' fun σ2 H2 => wipe σ2 vs = wipe σ vs ∧ tt σ2 H2 fun b H3 =>
        if b = true then te σ2 H3 fun y H4 => ∃ acc, H4 D = some (.lst acc) ∧ acc.length < sizeLine ∧ Nx (upd H4 D (.lst (acc ++ [y]))) else Nx H3)) : tLc (iList K tl) g tt te vs σ H Q := q
theorem w_lcR (q : ta σ H fun zs H1 => ∃ j : Int, zs = [.int j] ∧ -(2 ^ 62) ≤ j ∧ j < 2 ^ 62 ∧ ∀ D, H1 D = none → ∃ W : Nat → Nat → Hp → Prop, (∃ m, W 0 m (upd H1 D (.lst []))) ∧ ∀ i m H, W i m H →
      ((Itr 0 j.toNat).stop i H ∧ Q (.ref D) H) ∨ ((Itr 0 j.toNat).go i H ∧ ∃ Nx : Hp → Prop, (∀ H', Nx H' → ∃ m', m' < m ∧ W (i + 1) m' H') ∧ ∀ x H', (Itr 0 j.toNat).yld i H x H' → g x (wipe σ vs) H' fun σ2 H2 => wipe σ2 vs = wipe σ vs ∧ tt σ2 H2 fun b H3 =>
        if b = true then te σ2 H3 fun y H4 => ∃ acc, H4 D = some (.lst acc) ∧ acc.length < sizeLine ∧ Nx (upd H4 D (.lst (acc ++ [y]))) else Nx H3)) : tLc (iRng1 ta) g tt te vs σ H Q := q
theorem w_lcT {Qd : Addr → Hp → Prop} (A : List (Addr × Nat)) (P : Nat → V → Hp → Prop) (mono : ∀ i v H H', T H H' → P i v H → P i v H') (ia : IA A H) (ha : H p = some (.tup xs)) (hl : xs.length ≤ 100000)
    (step : ∀ (i : Nat) (x : V) (H1 : Hp) (Nx : VK), xs[i]? = some x → G A H H1 → (∀ y H3, G A H1 H3 → P i y H3 → Nx y H3) → g x (wipe σ vs) H1 fun σ2 H2 => wipe σ2 vs = wipe σ vs ∧ te σ2 H2 Nx)
    (done : ∀ D ys H', H D = none → G A H H' → H' D = some (.lst ys) → ys.length = xs.length → (∀ (i : Nat) y, ys[i]? = some y → P i y H') → Qd D H') :
    ∃ a, V.ref p = .ref a ∧ (∃ xs, SqT K H a xs) ∧ ∀ D, H D = none → ∃ W : Nat → Nat → Hp → Prop, (∃ m, W 0 m (upd H D (.lst []))) ∧ ∀ i m H, W i m H →
      ((Itt K a).stop i H ∧ Qd D H) ∨ ((Itt K a).go i H ∧ ∃ Nx : Hp → Prop, (∀ H', Nx H' → ∃ m', m' < m ∧ W (i + 1) m' H') ∧ ∀ x H', (Itt K a).yld i H x H' → g x (wipe σ vs) H' fun σ2 H2 => wipe σ2 vs = wipe σ vs ∧ tYes σ2 H2 fun b H3 =>
        if b = true then te σ2 H3 fun y H4 => ∃ acc, H4 D = some (.lst acc) ∧ acc.length < sizeLine ∧ Nx (upd H4 D (.lst (acc ++ [y]))) else Nx H3) :=
  ⟨p, rfl, ⟨xs, SqT.of ha⟩, fun D hD => lcT P mono ia hD ha hl step fun ys H' g1 e hl2 hp => done D ys H' hD g1 e hl2 hp⟩
theorem w_lcTf {Qd : Addr → Hp → Prop} (A : List (Addr × Nat)) (P : V → Hp → Prop) (mono : ∀ v H H', T H H' → P v H → P v H') (ia : IA A H) (ha : H p = some (.tup xs)) (hl : xs.length ≤ 100000)
    (step : ∀ (i : Nat) (x : V) (H1 : Hp) (Nx : VK) (No : Hp → Prop), xs[i]? = some x → G A H H1 → (∀ y H3, G A H1 H3 → P y H3 → Nx y H3) → (∀ H3, G A H1 H3 → No H3) → g x (wipe σ vs) H1 fun σ2 H2 => wipe σ2 vs = wipe σ vs ∧ tt σ2 H2 fun b H3 => if b = true then te σ2 H3 Nx else No H3)
    (done : ∀ D ys H', H D = none → G A H H' → H' D = some (.lst ys) → ys.length ≤ xs.length → (∀ y ∈ ys, P y H') → Qd D H') :
    ∃ a, V.ref p = .ref a ∧ (∃ xs, SqT K H a xs) ∧ ∀ D, H D = none → ∃ W : Nat → Nat → Hp → Prop, (∃ m, W 0 m (upd H D (.lst []))) ∧ ∀ i m H, W i m H →
      ((Itt K a).stop i H ∧ Qd D H) ∨ ((Itt K a).go i H ∧ ∃ Nx : Hp → Prop, (∀ H', Nx H' → ∃ m', m' < m ∧ W (i + 1) m' H') ∧ ∀ x H', (Itt K a).yld i H x H' → g x (wipe σ vs) H' fun σ2 H2 => wipe σ2 vs = wipe σ vs ∧ tt σ2 H2 fun b H3 =>
        if b = true then te σ2 H3 fun y H4 => ∃ acc, H4 D = some (.lst acc) ∧ acc.length < sizeLine ∧ Nx (upd H4 D (.lst (acc ++ [y]))) else Nx H3) :=
  ⟨p, rfl, ⟨xs, SqT.of ha⟩, fun D hD => lcTf P mono ia hD ha hl step fun ys H' g1 e hl2 hp => done D ys H' hD g1 e hl2 hp⟩
theorem w_lcLi {Qd : Addr → Hp → Prop} (A : List (Addr × Nat)) (P : Nat → V → Hp → Prop) (mono : ∀ i v H H', T H H' → P i v H → P i v H') (ia : IA A H) (ha : ∀ H1, G A H H1 → SqL K H1 p xs) (hl : xs.length ≤ 100000)
    (step : ∀ (i : Nat) (x : V) (H1 : Hp) (Nx : VK), xs[i]? = some x → G A H H1 → (∀ y H3, G A H1 H3 → P i y H3 → Nx y H3) → g x (wipe σ vs) H1 fun σ2 H2 => wipe σ2 vs = wipe σ vs ∧ te σ2 H2 Nx)
    (done : ∀ D ys H', H D = none → G A H H' → H' D = some (.lst ys) → ys.length = xs.length → (∀ (i : Nat) y, ys[i]? = some y → P i y H') → Qd D H') :
    ∃ a, V.ref p = .ref a ∧ (∃ xs, SqL K H a xs) ∧ ∀ D, H D = none → ∃ W : Nat → Nat → Hp → Prop, (∃ m, W 0 m (upd H D (.lst []))) ∧ ∀ i m H, W i m H →
      ((Itl K a).stop i H ∧ Qd D H) ∨ ((Itl K a).go i H ∧ ∃ Nx : Hp → Prop, (∀ H', Nx H' → ∃ m', m' < m ∧ W (i + 1) m' H') ∧ ∀ x H', (Itl K a).yld i H x H' → g x (wipe σ vs) H' fun σ2 H2 => wipe σ2 vs = wipe σ vs ∧ tYes σ2 H2 fun b H3 =>
        if b = true then te σ2 H3 fun y H4 => ∃ acc, H4 D = some (.lst acc) ∧ acc.length < sizeLine ∧ Nx (upd H4 D (.lst (acc ++ [y]))) else Nx H3) :=
  ⟨p, rfl, ⟨xs, ha H (G.refl A H)⟩, fun D hD => lcL P mono ia hD ha hl step fun ys H' g1 e hl2 hp => done D ys H' hD g1 e hl2 hp⟩
theorem w_lcLf {Qd : Addr → Hp → Prop} (A : List (Addr × Nat)) (P : V → Hp → Prop) (mono : ∀ v H H', T H H' → P v H → P v H') (ia : IA A H) (ha : ∀ H1, G A H H1 → SqL K H1 p xs) (hl : xs.length ≤ 100000)
    (step : ∀ (i : Nat) (x : V) (H1 : Hp) (Nx : VK) (No : Hp → Prop), xs[i]? = some x → G A H H1 → (∀ y H3, G A H1 H3 → P y H3 → Nx y H3) → (∀ H3, G A H1 H3 → No H3) → g x (wipe σ vs) H1 fun σ2 H2 => wipe σ2 vs = wipe σ vs ∧ tt σ2 H2 fun b H3 => if b = true then te σ2 H3 Nx else No H3)
    (done : ∀ D ys H', H D = none → G A H H' → H' D = some (.lst ys) → ys.length ≤ xs.length → (∀ y ∈ ys, P y H') → Qd D H') :
    ∃ a, V.ref p = .ref a ∧ (∃ xs, SqL K H a xs) ∧ ∀ D, H D = none → ∃ W : Nat → Nat → Hp → Prop, (∃ m, W 0 m (upd H D (.lst []))) ∧ ∀ i m H, W i m H →
      ((Itl K a).stop i H ∧ Qd D H) ∨ ((Itl K a).go i H ∧ ∃ Nx : Hp → Prop, (∀ H', Nx H' → ∃ m', m' < m ∧ W (i + 1) m' H') ∧ ∀ x H', (Itl K a).yld i H x H' → g x (wipe σ vs) H' fun σ2 H2 => wipe σ2 vs = wipe σ vs ∧ tt σ2 H2 fun b H3 =>
        if b = true then te σ2 H3 fun y H4 => ∃ acc, H4 D = some (.lst acc) ∧ acc.length < sizeLine ∧ Nx (upd H4 D (.lst (acc ++ [y]))) else Nx H3) :=
  ⟨p, rfl, ⟨xs, ha H (G.refl A H)⟩, fun D hD => lcLf P mono ia hD ha hl step fun ys H' g1 e hl2 hp => done D ys H' hD g1 e hl2 hp⟩
theorem w_lcRn {Qd : Addr → Hp → Prop} {j : Int} (A : List (Addr × Nat)) (P : Nat → V → Hp → Prop) (mono : ∀ i v H H', T H H' → P i v H → P i v H') (ia : IA A H) (h0 : 0 ≤ j) (hl : j ≤ 100000)
    (step : ∀ (i : Nat) (H1 : Hp) (Nx : VK), (i : Int) < j → G A H H1 → (∀ y H3, G A H1 H3 → P i y H3 → Nx y H3) → g (.int (0 + (i : Int))) (wipe σ vs) H1 fun σ2 H2 => wipe σ2 vs = wipe σ vs ∧ te σ2 H2 Nx)
    (done : ∀ D ys H', H D = none → G A H H' → H' D = some (.lst ys) → ys.length = j.toNat → (∀ (i : Nat) y, ys[i]? = some y → P i y H') → Qd D H') :
    ∃ j' : Int, [V.int j] = [.int j'] ∧ -(2 ^ 62) ≤ j' ∧ j' < 2 ^ 62 ∧ ∀ D, H D = none → ∃ W : Nat → Nat → Hp → Prop, (∃ m, W 0 m (upd H D (.lst []))) ∧ ∀ i m H, W i m H →
      ((Itr 0 j'.toNat).stop i H ∧ Qd D H) ∨ ((Itr 0 j'.toNat).go i H ∧ ∃ Nx : Hp → Prop, (∀ H', Nx H' → ∃ m', m' < m ∧ W (i + 1) m' H') ∧ ∀ x H', (Itr 0 j'.toNat).yld i H x H' → g x (wipe σ vs) H' fun σ2 H2 => wipe σ2 vs = wipe σ vs ∧ tYes σ2 H2 fun b H3 =>
        if b = true then te σ2 H3 fun y H4 => ∃ acc, H4 D = some (.lst acc) ∧ acc.length < sizeLine ∧ Nx (upd H4 D (.lst (acc ++ [y]))) else Nx H3) :=
  ⟨j, rfl, by omega, by omega, fun D hD => lcR P mono ia hD (by omega) (fun i H1 Nx hi => step i H1 Nx (by omega)) fun ys H' g1 e hl2 hp => done D ys H' hD g1 e hl2 hp⟩
-- loops
theorem w_for (q : tl σ H fun x H1 => ∃ a, x = .ref a ∧ (∃ xs, SqT K H1 a xs) ∧ ∃ W : Nat → Nat → L2.St → Hp → Prop, (∃ m, W 0 m σ H1) ∧ ∀ i m σ H, W i m σ H →
  ((Itt K a).stop i H ∧ D.nx σ H) ∨ ((Itt K a).go i H ∧ ∃ N : L2.St → Hp → Prop, (∀ σ' H', N σ' H' → ∃ m', m' < m ∧ W (i + 1) m' σ' H') ∧ ∀ x H', (Itt K a).yld i H x H' → g x σ H' fun σ2 H2 => tb { D with nx := N, ct := N, bk := D.nx } σ2 H2)) : tFor (iTup K tl) g tb D σ H := q
theorem w_forL (q : tl σ H fun x H1 => ∃ a, x = .ref a ∧ (∃ xs, SqL K H1 a xs) ∧ ∃ W : Nat → Nat → L2.St → Hp → Prop, (∃ m, W 0 m σ H1) ∧ ∀ i m σ H, W i m σ H →
  ((Itl K a).stop i H ∧ D.nx σ H) ∨ ((Itl K a).go i H ∧ ∃ N : L2.St → Hp → Prop, (∀ σ' H', N σ' H' → ∃ m', m' < m ∧ W (i + 1) m' σ' H') ∧ ∀ x H', (Itl K a).yld i H x H' → g x σ H' fun σ2 H2 => tb { D with nx := N, ct := N, bk := D.nx } σ2 H2)) : tFor (iList K tl) g tb D σ H := q
theorem w_forR (q : ta σ H fun zs H1 => ∃ j : Int, zs = [.int j] ∧ -(2 ^ 62) ≤ j ∧ j < 2 ^ 62 ∧ ∃ W : Nat → Nat → L2.St → Hp → Prop, (∃ m, W 0 m σ H1) ∧ ∀ i m σ H, W i m σ H →
  ((Itr 0 j.toNat).stop i H ∧ D.nx σ H) ∨ ((Itr 0 j.toNat).go i H ∧ ∃ N : L2.St → Hp → Prop, (∀ σ' H', N σ' H' → ∃ m', m' < m ∧ W (i + 1) m' σ' H') ∧ ∀ x H', (Itr 0 j.toNat).yld i H x H' → g x σ H' fun σ2 H2 => tb { D with nx := N, ct := N, bk := D.nx } σ2 H2)) : tFor (iRng1 ta) g tb D σ H := q
theorem w_forT {nx : L2.St → Hp → Prop} {rt : VK} (Pv : Nat → L2.St → Hp → Prop) (ha : H p = some (.tup xs)) (h0 : Pv 0 σ H) (ht : ∀ i σ' H', Pv i σ' H' → T H H')
    (hs : ∀ (i : Nat) x σ' H', xs[i]? = some x → Pv i σ' H' → g x σ' H' fun σ2 H2 => tb { nx := Pv (i + 1), rt := rt, bk := nx, ct := Pv (i + 1) } σ2 H2) (hd : ∀ σ' H', Pv xs.length σ' H' → nx σ' H') :
    ∃ a, V.ref p = .ref a ∧ (∃ xs, SqT K H a xs) ∧ ∃ W : Nat → Nat → L2.St → Hp → Prop, (∃ m, W 0 m σ H) ∧ ∀ i m σ H, W i m σ H →
  ((Itt K a).stop i H ∧ nx σ H) ∨ ((Itt K a).go i H ∧ ∃ N : L2.St → Hp → Prop, (∀ σ' H', N σ' H' → ∃ m', m' < m ∧ W (i + 1) m' σ' H') ∧ ∀ x H', (Itt K a).yld i H x H' → g x σ H' fun σ2 H2 => tb { nx := N, rt := rt, bk := nx, ct := N } σ2 H2) :=
  ⟨p, rfl, ⟨xs, SqT.of ha⟩, for_tup (D := { nx := nx, rt := rt }) Pv h0 (fun i σ' H' _ q => SqT.of (ht i σ' H' q _ _ ha)) hs hd⟩
theorem w_forLi {nx : L2.St → Hp → Prop} {rt : VK} (Pv : Nat → L2.St → Hp → Prop) (h0 : Pv 0 σ H) (ht : ∀ i σ' H', Pv i σ' H' → SqL K H' p xs)
    (hs : ∀ (i : Nat) x σ' H', xs[i]? = some x → Pv i σ' H' → g x σ' H' fun σ2 H2 => tb { nx := Pv (i + 1), rt := rt, bk := nx, ct := Pv (i + 1) } σ2 H2) (hd : ∀ σ' H', Pv xs.length σ' H' → nx σ' H') :
    ∃ a, V.ref p = .ref a ∧ (∃ xs, SqL K H a xs) ∧ ∃ W : Nat → Nat → L2.St → Hp → Prop, (∃ m, W 0 m σ H) ∧ ∀ i m σ H, W i m σ H →
  ((Itl K a).stop i H ∧ nx σ H) ∨ ((Itl K a).go i H ∧ ∃ N : L2.St → Hp → Prop, (∀ σ' H', N σ' H' → ∃ m', m' < m ∧ W (i + 1) m' σ' H') ∧ ∀ x H', (Itl K a).yld i H x H' → g x σ H' fun σ2 H2 => tb { nx := N, rt := rt, bk := nx, ct := N } σ2 H2) :=
  ⟨p, rfl, ⟨xs, ht 0 σ H h0⟩, for_list (D := { nx := nx, rt := rt }) Pv h0 (fun i σ' H' _ q => ht i σ' H' q) hs hd⟩
theorem w_forRn {j : Int} {nx : L2.St → Hp → Prop} {rt : VK} (Pv : Nat → L2.St → Hp → Prop) (h1 : 0 ≤ j) (h2 : j ≤ 100000) (h0 : Pv 0 σ H)
    (hs : ∀ (i : Nat) σ' H', (i : Int) < j → Pv i σ' H' → g (.int (0 + (i : Int))) σ' H' fun σ2 H2 => tb { nx := Pv (i + 1), rt := rt, bk := nx, ct := Pv (i + 1) } σ2 H2) (hd : ∀ σ' H', Pv j.toNat σ' H' → nx σ' H') :
    ∃ j' : Int, [V.int j] = [.int j'] ∧ -(2 ^ 62) ≤ j' ∧ j' < 2 ^ 62 ∧ ∃ W : Nat → Nat → L2.St → Hp → Prop, (∃ m, W 0 m σ H) ∧ ∀ i m σ H, W i m σ H →
  ((Itr 0 j'.toNat).stop i H ∧ nx σ H) ∨ ((Itr 0 j'.toNat).go i H ∧ ∃ N : L2.St → Hp → Prop, (∀ σ' H', N σ' H' → ∃ m', m' < m ∧ W (i + 1) m' σ' H') ∧ ∀ x H', (Itr 0 j'.toNat).yld i H x H' → g x σ H' fun σ2 H2 => tb { nx := N, rt := rt, bk := nx, ct := N } σ2 H2) :=
  ⟨j, rfl, by omega, by omega, for_range (D := { nx := nx, rt := rt }) Pv h0 (fun i σ' H' hi q => hs i σ' H' (by omega) q) hd⟩
-- targets that are tuples
theorem w_gtup {t : TGs} {n : Nat} {QS : L2.St → Hp → Prop} (h : H p = some (.tup xs)) (hn : xs.length = n) (q : t xs σ H QS) : gTup K n t (.ref p) σ H QS := ⟨p, xs, rfl, SqT.of h, hn, q⟩
theorem w_gcons {t : TG} {u : TGs} {v : V} {r : List V} {QS : L2.St → Hp → Prop} (q : t v σ H fun σ' H' => u r σ' H' QS) : gCons t u (v :: r) σ H QS := ⟨v, r, rfl, q⟩
theorem w_gnil {QS : L2.St → Hp → Prop} (q : QS σ H) : gNil [] σ H QS := ⟨rfl, q⟩
theorem w_dget2 {td ty tx : TE} (q : td σ H fun x H1 => ∃ a, x = .ref a ∧ IsD H1 a ∧ ty σ H1 fun y H2 => tx σ H2 fun z H3 => ∃ o, DGet H3 a y o ∧ Q (o.getD z) H3) : tDGet2 td ty tx σ H Q := q
theorem w_str2 {a b : Str} {QQ : Str → Str → Prop} (q : QQ a b) : ∃ i j, V.str a = .str i ∧ V.str b = .str j ∧ QQ i j := ⟨a, b, rfl, rfl, q⟩
theorem w_repS {z : Str} {n : Int} (h : MulOk z n) (q : Q (.str (Txt.mul z n)) H) : rRepS (.str z) (.int n) H Q := ⟨z, n, rfl, rfl, h, q⟩
theorem w_wipe {a b : L2.St} {Y : Prop} (h : a = b) (q : Y) : a = b ∧ Y := ⟨h, q⟩
theorem w_all {bs : List Bool} (h : H p = some (.lst (bs.map V.bl))) (q : Q (.bl (bs.all id)) H) : rAll K [.ref p] H Q := ⟨p, bs, rfl, SqL.of h, q⟩
theorem w_any {bs : List Bool} (h : H p = some (.lst (bs.map V.bl))) (q : Q (.bl (bs.any id)) H) : rAny K [.ref p] H Q := ⟨p, bs, rfl, SqL.of h, q⟩
theorem lst_map {α : Type} {ys : List V} {ds : List α} {F : α → V} (hl : ys.length = ds.length) (h : ∀ (i : Nat) y, ys[i]? = some y → ∃ d, ds[i]? = some d ∧ y = F d) : ys = ds.map F := by
  apply List.ext_getElem?
  intro i
  rw [List.getElem?_map]
  cases e : ys[i]? with
  | none =>
    have h1 := List.getElem?_eq_none_iff.mp e
    have h2 : ds[i]? = none := List.getElem?_eq_none_iff.mpr (by omega)
    rw [h2]
    rfl
  | some y =>
    obtain ⟨d, e2, e3⟩ := h i y e
    rw [e2, e3]
    rfl
end

section
variable {K : PySem.W.Frag} {H : Hp} {Q : VK} {p : Addr}
theorem w_allF {α : Type} {f : α → Bool} {ds : List α} {bs : List V} (h : H p = some (.lst bs)) (hl : bs.length = ds.length) (hp : ∀ (i : Nat) y, bs[i]? = some y → ∃ d, ds[i]? = some d ∧ y = .bl (f d)) (q : Q (.bl (ds.all f)) H) : rAll K [.ref p] H Q := by
  have eb := lst_map hl hp
  have e2 : bs = (ds.map f).map V.bl := by
    rw [List.map_map]
    exact eb
  rw [e2] at h
  refine w_all h ?_
  rw [List.all_map]
  exact q
theorem w_anyF {α : Type} {f : α → Bool} {ds : List α} {bs : List V} (h : H p = some (.lst bs)) (hl : bs.length = ds.length) (hp : ∀ (i : Nat) y, bs[i]? = some y → ∃ d, ds[i]? = some d ∧ y = .bl (f d)) (q : Q (.bl (ds.any f)) H) : rAny K [.ref p] H Q := by
  have eb := lst_map hl hp
  have e2 : bs = (ds.map f).map V.bl := by
    rw [List.map_map]
    exact eb
  rw [e2] at h
  refine w_any h ?_
  rw [List.any_map]
  exact q
end

/-! ### 9. tuples put together and cut, isinstance -/
section
variable {K : PySem.W.Frag} {A : List (Addr × Nat)} {σ : L2.St} {H H' : Hp} {Q : VK} {te : TE} {tl th : TO} {p p2 : Addr} {xs ys : List V} {i : Int}
theorem w_cat (h1 : H p = some (.tup xs)) (h2 : H p2 = some (.tup ys)) (hz : xs.length + ys.length ≤ 100000) (q : ∀ r H', G [] H H' → H' r = some (.tup (xs ++ ys)) → Q (.ref r) H') : rCatA K (.ref p) (.ref p2) H Q := by
  refine ⟨p, p2, xs, ys, rfl, rfl, SqT.of h1, SqT.of h2, Nat.le_trans hz (by decide), fun e => ?_, fun _ e => ?_, fun _ _ r hr => q r _ (G.new hr) upd_same⟩
  · subst e
    exact q p2 H (G.refl _ _) h2
  · subst e
    exact q p H (G.refl _ _) (by rw [List.append_nil]; exact h1)
theorem cut_whole (lo hi : Option Int) (h : HT.sIx xs.length 0 lo = 0 ∧ HT.sIx xs.length xs.length hi = xs.length) : cutV xs lo hi = xs := by
  unfold cutV
  rw [h.1, h.2, List.drop_zero, Nat.sub_zero, List.take_length]
theorem w_sl {lo hi : Option Int} (h : H p = some (.tup xs)) (q : ∀ r H', G [] H H' → H' r = some (.tup (cutV xs lo hi)) → Q (.ref r) H') : rSlA K (.ref p) lo hi H Q := by
  refine ⟨p, xs, rfl, SqT.of h, fun e => ?_, fun _ r hr => q r _ (G.new hr) upd_same⟩
  exact q p H (G.refl _ _) (by rw [cut_whole _ _ e]; exact h)
theorem w_slL {lo hi : Option Int} (h : SqL K H p xs) (q : ∀ r H', H r = none → G [] H H' → H' r = some (.lst (cutV xs lo hi)) → Q (.ref r) H') : rSlL K (.ref p) lo hi H Q :=
  ⟨p, xs, rfl, h, fun r hr => q r _ hr (G.new hr) upd_same⟩
theorem w_slc {r : V → Option Int → Option Int → Hp → VK → Prop} (q : te σ H fun x H1 => tl σ H1 fun l H2 => th σ H2 fun u H3 => r x l u H3 Q) : tSl r te tl th σ H Q := q
theorem w_nopart {QO : Option Int → Hp → Prop} (q : QO none H) : tNoPart σ H QO := q
theorem w_part {QO : Option Int → Hp → Prop} (q : te σ H fun x H1 => ∃ i, x = .int i ∧ QO (some i) H1) : tPart te σ H QO := q
theorem w_ex {QI : Int → Prop} (q : QI i) : ∃ j, V.int i = .int j ∧ QI j := ⟨i, rfl, q⟩
theorem cut_mem {lo hi : Option Int} {v : V} (h : v ∈ cutV xs lo hi) : v ∈ xs := List.mem_of_mem_drop (List.mem_of_mem_take h)
theorem cut_init : cutV xs none (some (-1)) = xs.dropLast := by
  unfold cutV
  have e : HT.sIx xs.length xs.length (some (-1)) = xs.length - 1 := by
    show (if (-1 : Int) < 0 then ((-1 : Int) + (xs.length : Int)).toNat else min (-1 : Int).toNat xs.length) = xs.length - 1
    rw [if_pos (by decide)]
    omega
  rw [HT.sIx_none, e, List.drop_zero, Nat.sub_zero, List.dropLast_eq_take]
theorem cut_tail : cutV xs (some 1) none = xs.drop 1 := by
  unfold cutV
  rw [show HT.sIx xs.length 0 (some 1) = min 1 xs.length from HT.sIx_nat xs.length 0 1, HT.sIx_none]
  cases xs with
  | nil => rfl
  | cons x r =>
    rw [show min 1 (x :: r).length = 1 by
      rw [List.length_cons]
      omega]
    show (List.take ((x :: r).length - 1) r) = r
    rw [List.length_cons, Nat.add_sub_cancel]
    exact List.take_length
theorem cut_lo {n : Nat} (hn : n ≤ xs.length) : cutV xs none (some (n : Int)) = xs.take n := by
  unfold cutV
  rw [HT.sIx_none, HT.sIx_nat, List.drop_zero, Nat.sub_zero, Nat.min_eq_left hn]
theorem cut_hi {n : Nat} (hn : n ≤ xs.length) : cutV xs (some (n : Int)) none = xs.drop n := by
  unfold cutV
  rw [HT.sIx_none, HT.sIx_nat, Nat.min_eq_left hn]
  exact List.take_of_length_le (by rw [List.length_drop]; exact Nat.le_refl _)
theorem cut_len (lo hi : Option Int) : (cutV xs lo hi).length ≤ xs.length := cutV_length xs lo hi
theorem w_isi_ii (q : Q (.bl true) H) : rIsi K [.int i, .ty "int"] H Q := ⟨_, _, _, _, true, rfl, .ty "int", .base (.int i), kit_ty (by decide +kernel), q⟩
theorem w_isi_is (q : Q (.bl false) H) : rIsi K [.int i, .ty "str"] H Q := ⟨_, _, _, _, false, rfl, .ty "str", .base (.int i), kit_ty (by decide +kernel), q⟩
theorem w_isi_si {s : Str} (q : Q (.bl false) H) : rIsi K [.str s, .ty "int"] H Q := ⟨_, _, _, _, false, rfl, .ty "int", .base (.str s), kit_ty (by decide +kernel), q⟩
theorem w_isi_ss {s : Str} (q : Q (.bl true) H) : rIsi K [.str s, .ty "str"] H Q := ⟨_, _, _, _, true, rfl, .ty "str", .base (.str s), kit_ty (by decide +kernel), q⟩
theorem w_isi_bb {s : Bool} (q : Q (.bl true) H) : rIsi K [.bl s, .ty "bool"] H Q := ⟨_, _, _, _, true, rfl, .ty "bool", .base (.bl s), kit_ty (by decide +kernel), q⟩
end

/-! ### 10. a statement, then the rest, with a word between them -/
section
variable {X : Cx}
def tCut (t u : TS) : TS := fun D σ H => ∃ Mid : L2.St → Hp → Prop, t { D with nx := Mid } σ H ∧ ∀ σ' H', Mid σ' H' → u D σ' H'
theorem pss_cut {st : Stmt} {rest : List Stmt} {t u : TS} (h1 : PS X st t) (h2 : PSs X rest u) : PSs X (st :: rest) (tCut t u) := by
  refine ⟨fun pins s σ H D I h => ?_⟩
  obtain ⟨Mid, hm, hu⟩ := h
  refine wpAny_execs_cons (thn (h1.run pins s σ H { D with nx := Mid } I hm) fun f s1 q => ?_)
  cases f with
  | next =>
    obtain ⟨σ', H', I', q⟩ := q
    exact h2.run pins s1 σ' H' D I' (hu σ' H' q)
  | ret v => exact q
  | brk => exact q
  | cont => exact q
theorem w_cut {t u : TS} {D : Ends} {σ : L2.St} {H : Hp} (Mid : L2.St → Hp → Prop) (h1 : t { D with nx := Mid } σ H) (h2 : ∀ σ' H', Mid σ' H' → u D σ' H') : tCut t u D σ H := ⟨Mid, h1, h2⟩
end
def topS (i : Nat) : Stmt := PySem.Challenge.pw_patchkept_k12_whole_valid_by_all_schemas.main.body.getD i (.Pass ⟨0, 0, 0, 0⟩)
abbrev sis_within : Stmt := topS 1
abbrev Nis_within : List Str := ["count", "low", "high"]
theorem scis_within : FnScope Nis_within ["count", "low", "high"] (defScope sis_within) := ⟨rfl, rfl, rfl, by decide +kernel, rfl, by decide +kernel, by decide +kernel⟩
abbrev sis_valid_list : Stmt := topS 2
abbrev Nis_valid_list : List Str := ["schema", "value", "item"]
theorem scis_valid_list : FnScope Nis_valid_list ["schema", "value"] (defScope sis_valid_list) := ⟨rfl, rfl, rfl, by decide +kernel, rfl, by decide +kernel, by decide +kernel⟩
abbrev sis_valid_tuple : Stmt := topS 3
abbrev Nis_valid_tuple : List Str := ["schema", "value", "part", "item"]
theorem scis_valid_tuple : FnScope Nis_valid_tuple ["schema", "value"] (defScope sis_valid_tuple) := ⟨rfl, rfl, rfl, by decide +kernel, rfl, by decide +kernel, by decide +kernel⟩
abbrev sis_valid_object : Stmt := topS 4
abbrev Nis_valid_object : List Str := ["schema", "value", "names", "name", "_", "required", "inner", "part", "item"]
theorem scis_valid_object : FnScope Nis_valid_object ["schema", "value"] (defScope sis_valid_object) := ⟨rfl, rfl, rfl, by decide +kernel, rfl, by decide +kernel, by decide +kernel⟩
abbrev sis_valid_part : Stmt := topS 5
abbrev Nis_valid_part : List Str := ["schema", "value", "word", "part"]
theorem scis_valid_part : FnScope Nis_valid_part ["schema", "value"] (defScope sis_valid_part) := ⟨rfl, rfl, rfl, by decide +kernel, rfl, by decide +kernel, by decide +kernel⟩
abbrev sis_valid : Stmt := topS 6
abbrev Nis_valid : List Str := ["schema", "value", "word"]
theorem scis_valid : FnScope Nis_valid ["schema", "value"] (defScope sis_valid) := ⟨rfl, rfl, rfl, by decide +kernel, rfl, by decide +kernel, by decide +kernel⟩
abbrev s_law_child : Stmt := topS 8
abbrev N_law_child : List Str := ["_law_value_here", "_law_token_here", "_law_field"]
theorem sc_law_child : FnScope N_law_child ["_law_value_here", "_law_token_here"] (defScope s_law_child) := ⟨rfl, rfl, rfl, by decide +kernel, rfl, by decide +kernel, by decide +kernel⟩
abbrev s_law_lookup : Stmt := topS 9
abbrev N_law_lookup : List Str := ["_law_value_here", "_law_path_here", "_law_token_here"]
theorem sc_law_lookup : FnScope N_law_lookup ["_law_value_here", "_law_path_here"] (defScope s_law_lookup) := ⟨rfl, rfl, rfl, by decide +kernel, rfl, by decide +kernel, by decide +kernel⟩
abbrev s_law_with : Stmt := topS 10
abbrev N_law_with : List Str := ["_law_value_here", "_law_token_here", "_law_new", "_law_smaller", "_law_field", "_law_greater"]
theorem sc_law_with : FnScope N_law_with ["_law_value_here", "_law_token_here", "_law_new"] (defScope s_law_with) := ⟨rfl, rfl, rfl, by decide +kernel, rfl, by decide +kernel, by decide +kernel⟩
abbrev s_law_replace : Stmt := topS 11
abbrev N_law_replace : List Str := ["_law_value_here", "_law_path_here", "_law_new", "_law_child_here", "_law_inner"]
theorem sc_law_replace : FnScope N_law_replace ["_law_value_here", "_law_path_here", "_law_new"] (defScope s_law_replace) := ⟨rfl, rfl, rfl, by decide +kernel, rfl, by decide +kernel, by decide +kernel⟩
abbrev s_law_put : Stmt := topS 12
abbrev N_law_put : List Str := ["_law_value_here", "_law_path_here", "_law_new", "_law_parent", "_law_token_here", "_law_made_here", "_law_index"]
theorem sc_law_put : FnScope N_law_put ["_law_value_here", "_law_path_here", "_law_new"] (defScope s_law_put) := ⟨rfl, rfl, rfl, by decide +kernel, rfl, by decide +kernel, by decide +kernel⟩
abbrev s_law_take : Stmt := topS 13
abbrev N_law_take : List Str := ["_law_value_here", "_law_path_here", "_law_parent", "_law_token_here", "_law_made_here", "_law_field"]
theorem sc_law_take : FnScope N_law_take ["_law_value_here", "_law_path_here"] (defScope s_law_take) := ⟨rfl, rfl, rfl, by decide +kernel, rfl, by decide +kernel, by decide +kernel⟩
abbrev s_law_between : Stmt := topS 14
abbrev N_law_between : List Str := ["_law_count", "_law_low", "_law_high"]
theorem sc_law_between : FnScope N_law_between ["_law_count", "_law_low", "_law_high"] (defScope s_law_between) := ⟨rfl, rfl, rfl, by decide +kernel, rfl, by decide +kernel, by decide +kernel⟩
abbrev s_law_fields_valid : Stmt := topS 15
abbrev N_law_fields_valid : List Str := ["_law_schema_here", "_law_fields", "_law_row", "_law_field", "_law_inner"]
theorem sc_law_fields_valid : FnScope N_law_fields_valid ["_law_schema_here", "_law_fields"] (defScope s_law_fields_valid) := ⟨rfl, rfl, rfl, by decide +kernel, rfl, by decide +kernel, by decide +kernel⟩
abbrev s_law_valid : Stmt := topS 16
abbrev N_law_valid : List Str := ["_law_schema_here", "_law_value_here", "_law_word", "_law_kind", "_law_part", "_law_item", "_law_k"]
theorem sc_law_valid : FnScope N_law_valid ["_law_schema_here", "_law_value_here"] (defScope s_law_valid) := ⟨rfl, rfl, rfl, by decide +kernel, rfl, by decide +kernel, by decide +kernel⟩
abbrev s_law_is_flag : Stmt := topS 17
abbrev N_law_is_flag : List Str := ["_law_actual", "_law_due"]
theorem sc_law_is_flag : FnScope N_law_is_flag ["_law_actual", "_law_due"] (defScope s_law_is_flag) := ⟨rfl, rfl, rfl, by decide +kernel, rfl, by decide +kernel, by decide +kernel⟩
abbrev s_law_cell : Stmt := topS 18
abbrev N_law_cell : List Str := ["_law_script", "_law_k"]
theorem sc_law_cell : FnScope N_law_cell ["_law_script", "_law_k"] (defScope s_law_cell) := ⟨rfl, rfl, rfl, by decide +kernel, rfl, by decide +kernel, by decide +kernel⟩
abbrev s_law_source : Stmt := topS 19
abbrev N_law_source : List Str := ["_law_cell_here"]
theorem sc_law_source : FnScope N_law_source ["_law_cell_here"] (defScope s_law_source) := ⟨rfl, rfl, rfl, by decide +kernel, rfl, by decide +kernel, by decide +kernel⟩
abbrev s_law_draw : Stmt := topS 20
abbrev N_law_draw : List Str := ["_law_source_here", "_law_many", "_law_digit", "_law_mixed"]
theorem sc_law_draw : FnScope N_law_draw ["_law_source_here", "_law_many"] (defScope s_law_draw) := ⟨rfl, rfl, rfl, by decide +kernel, rfl, by decide +kernel, by decide +kernel⟩
abbrev s_law_char : Stmt := topS 21
abbrev N_law_char : List Str := ["_law_source_here", "_law_chars"]
theorem sc_law_char : FnScope N_law_char ["_law_source_here"] (defScope s_law_char) := ⟨rfl, rfl, rfl, by decide +kernel, rfl, by decide +kernel, by decide +kernel⟩
abbrev s_law_name : Stmt := topS 22
abbrev N_law_name : List Str := ["_law_source_here", "_law_k", "_law_j"]
theorem sc_law_name : FnScope N_law_name ["_law_source_here"] (defScope s_law_name) := ⟨rfl, rfl, rfl, by decide +kernel, rfl, by decide +kernel, by decide +kernel⟩
abbrev s_law_number : Stmt := topS 23
abbrev N_law_number : List Str := ["_law_source_here", "_law_k"]
theorem sc_law_number : FnScope N_law_number ["_law_source_here"] (defScope s_law_number) := ⟨rfl, rfl, rfl, by decide +kernel, rfl, by decide +kernel, by decide +kernel⟩
abbrev s_law_leaf : Stmt := topS 24
abbrev N_law_leaf : List Str := ["_law_source_here", "_law_k"]
theorem sc_law_leaf : FnScope N_law_leaf ["_law_source_here"] (defScope s_law_leaf) := ⟨rfl, rfl, rfl, by decide +kernel, rfl, by decide +kernel, by decide +kernel⟩
abbrev s_law_object : Stmt := topS 25
abbrev N_law_object : List Str := ["_law_pairs", "_law_made_here", "_law_pair"]
theorem sc_law_object : FnScope N_law_object ["_law_pairs"] (defScope s_law_object) := ⟨rfl, rfl, rfl, by decide +kernel, rfl, by decide +kernel, by decide +kernel⟩
abbrev s_law_value : Stmt := topS 26
abbrev N_law_value : List Str := ["_law_source_here", "_law_depth", "_law_k", "_law_j"]
theorem sc_law_value : FnScope N_law_value ["_law_source_here", "_law_depth"] (defScope s_law_value) := ⟨rfl, rfl, rfl, by decide +kernel, rfl, by decide +kernel, by decide +kernel⟩
abbrev s_law_small : Stmt := topS 27
abbrev N_law_small : List Str := ["_law_source_here", "_law_k", "_law_j"]
theorem sc_law_small : FnScope N_law_small ["_law_source_here"] (defScope s_law_small) := ⟨rfl, rfl, rfl, by decide +kernel, rfl, by decide +kernel, by decide +kernel⟩
abbrev s_law_token : Stmt := topS 28
abbrev N_law_token : List Str := ["_law_source_here", "_law_value_here"]
theorem sc_law_token : FnScope N_law_token ["_law_source_here", "_law_value_here"] (defScope s_law_token) := ⟨rfl, rfl, rfl, by decide +kernel, rfl, by decide +kernel, by decide +kernel⟩
abbrev s_law_path : Stmt := topS 29
abbrev N_law_path : List Str := ["_law_source_here", "_law_value_here", "_law_most", "_law_path_here", "_law_k", "_law_token_here"]
theorem sc_law_path : FnScope N_law_path ["_law_source_here", "_law_value_here", "_law_most"] (defScope s_law_path) := ⟨rfl, rfl, rfl, by decide +kernel, rfl, by decide +kernel, by decide +kernel⟩
abbrev s_law_target : Stmt := topS 30
abbrev N_law_target : List Str := ["_law_source_here", "_law_value_here", "_law_most", "_law_path_here", "_law_place", "_law_k"]
theorem sc_law_target : FnScope N_law_target ["_law_source_here", "_law_value_here", "_law_most"] (defScope s_law_target) := ⟨rfl, rfl, rfl, by decide +kernel, rfl, by decide +kernel, by decide +kernel⟩
abbrev s_law_bounds : Stmt := topS 31
abbrev N_law_bounds : List Str := ["_law_source_here", "_law_least", "_law_low", "_law_high"]
theorem sc_law_bounds : FnScope N_law_bounds ["_law_source_here", "_law_least"] (defScope s_law_bounds) := ⟨rfl, rfl, rfl, by decide +kernel, rfl, by decide +kernel, by decide +kernel⟩
abbrev s_law_leaf_schema : Stmt := topS 32
abbrev N_law_leaf_schema : List Str := ["_law_source_here", "_law_room", "_law_k", "_law_bounds_here"]
theorem sc_law_leaf_schema : FnScope N_law_leaf_schema ["_law_source_here", "_law_room"] (defScope s_law_leaf_schema) := ⟨rfl, rfl, rfl, by decide +kernel, rfl, by decide +kernel, by decide +kernel⟩
abbrev s_law_broad : Stmt := topS 33
abbrev N_law_broad : List Str := ["_law_source_here", "_law_parts", "_law_j", "_law_k", "_law_rows_here", "_law_part", "_law_name_here", "_law_row"]
theorem sc_law_broad : FnScope N_law_broad ["_law_source_here"] (defScope s_law_broad) := ⟨rfl, rfl, rfl, by decide +kernel, rfl, by decide +kernel, by decide +kernel⟩
abbrev s_law_rows : Stmt := topS 34
abbrev N_law_rows : List Str := ["_law_source_here", "_law_depth", "_law_room", "_law_rows_here", "_law_k", "_law_name_here", "_law_row"]
theorem sc_law_rows : FnScope N_law_rows ["_law_source_here", "_law_depth", "_law_room"] (defScope s_law_rows) := ⟨rfl, rfl, rfl, by decide +kernel, rfl, by decide +kernel, by decide +kernel⟩
abbrev s_law_schema : Stmt := topS 35
abbrev N_law_schema : List Str := ["_law_source_here", "_law_depth", "_law_room", "_law_k", "_law_rows_here", "_law_bounds_here", "_law_j", "_law_word"]
theorem sc_law_schema : FnScope N_law_schema ["_law_source_here", "_law_depth", "_law_room"] (defScope s_law_schema) := ⟨rfl, rfl, rfl, by decide +kernel, rfl, by decide +kernel, by decide +kernel⟩
abbrev s_law_inside : Stmt := topS 36
abbrev N_law_inside : List Str := ["_law_source_here", "_law_low", "_law_high", "_law_far", "_law_k"]
theorem sc_law_inside : FnScope N_law_inside ["_law_source_here", "_law_low", "_law_high", "_law_far"] (defScope s_law_inside) := ⟨rfl, rfl, rfl, by decide +kernel, rfl, by decide +kernel, by decide +kernel⟩
abbrev s_law_made_list : Stmt := topS 37
abbrev N_law_made_list : List Str := ["_law_source_here", "_law_schema_here", "_law_count", "_law_items", "_law_j"]
theorem sc_law_made_list : FnScope N_law_made_list ["_law_source_here", "_law_schema_here"] (defScope s_law_made_list) := ⟨rfl, rfl, rfl, by decide +kernel, rfl, by decide +kernel, by decide +kernel⟩
abbrev s_law_made_object : Stmt := topS 38
abbrev N_law_made_object : List Str := ["_law_source_here", "_law_schema_here", "_law_pairs", "_law_row", "_law_item", "_law_j", "_law_name_here"]
theorem sc_law_made_object : FnScope N_law_made_object ["_law_source_here", "_law_schema_here"] (defScope s_law_made_object) := ⟨rfl, rfl, rfl, by decide +kernel, rfl, by decide +kernel, by decide +kernel⟩
abbrev s_law_made : Stmt := topS 39
abbrev N_law_made : List Str := ["_law_source_here", "_law_schema_here", "_law_word", "_law_number_here", "_law_j", "_law_items", "_law_part"]
theorem sc_law_made : FnScope N_law_made ["_law_source_here", "_law_schema_here"] (defScope s_law_made) := ⟨rfl, rfl, rfl, by decide +kernel, rfl, by decide +kernel, by decide +kernel⟩
abbrev s_law_changed : Stmt := topS 40
abbrev N_law_changed : List Str := ["_law_source_here", "_law_value_here", "_law_path_here", "_law_k", "_law_made_here"]
theorem sc_law_changed : FnScope N_law_changed ["_law_source_here", "_law_value_here"] (defScope s_law_changed) := ⟨rfl, rfl, rfl, by decide +kernel, rfl, by decide +kernel, by decide +kernel⟩
abbrev s_law_stretched : Stmt := topS 41
abbrev N_law_stretched : List Str := ["_law_source_here", "_law_value_here", "_law_items", "_law_j", "_law_item"]
theorem sc_law_stretched : FnScope N_law_stretched ["_law_source_here", "_law_value_here"] (defScope s_law_stretched) := ⟨rfl, rfl, rfl, by decide +kernel, rfl, by decide +kernel, by decide +kernel⟩
abbrev slaw : Stmt := topS 42
abbrev Nlaw : List Str := ["_law_script", "_law_source_here", "_law_schema_here", "_law_values", "_law_cell_here", "_law_value_here", "_law_other"]
theorem sclaw : FnScope Nlaw ["_law_script"] (defScope slaw) := ⟨rfl, rfl, rfl, by decide +kernel, rfl, by decide +kernel, by decide +kernel⟩
section

local macro_rules | `(tactic| walk_at "ft") => `(tactic| first
  | assumption
  | ((with_reducible refine f_tup (A := ?A) (H := ?H) ?g ?h); (case g => assumption); (case h => walk_at "ft"))
  | ((with_reducible refine f_lst (A := ?A) (H := ?H) ?g ?n ?h); (case g => assumption); (case n => first | exact nil_nin | assumption); (case h => walk_at "ft"))
  | ((with_reducible refine f_rep (A := ?A) (H := ?H) ?g ?h); (case g => assumption); (case h => walk_at "ft"))
  | ((with_reducible refine f_reps (A := ?A) (H := ?H) ?g ?h); (case g => assumption); (case h => walk_at "ft"))
  | ((with_reducible refine f_iaA (H := ?H) ?g ?h); (case g => assumption); (case h => walk_at "ft"))
  | ((with_reducible refine f_ia0 (H := ?H) ?g ?h); (case g => assumption); (case h => walk_at "ft"))
  | ((with_reducible refine f_g (H := ?H) ?g ?h); (case g => assumption); (case h => walk_at "ft"))
  | ((with_reducible refine f_g0 (H := ?H) ?g ?h); (case g => assumption); (case h => walk_at "ft"))
  | with_reducible exact G.refl _ _)
local macro_rules | `(tactic| walk_at "g1") => `(tactic| first
  | ((with_reducible refine w_var (v := ?v) ?h ?q); (case h => exact rfl))
  | with_reducible refine w_C ?_
  | with_reducible refine w_op ?_
  | with_reducible refine w_un ?_
  | with_reducible refine w_cons ?_
  | with_reducible refine w_nil ?_
  | with_reducible refine w_cb ?_
  | with_reducible refine w_call ?_
  | with_reducible refine w_tup ?_
  | with_reducible refine w_lst ?_
  | ((with_reducible refine w_mkT ?h ?q); (case h => exact sz100 rfl); intro p H' np g hp)
  | ((with_reducible refine w_mkL ?h ?q); (case h => exact sz100 rfl); intro p H' np g hp)
  | with_reducible refine w_seq ?_
  | with_reducible refine w_next ?_
  | with_reducible refine w_asg ?_
  | ((with_reducible refine w_gnameS (σ' := ?s) ?h ?q); (case h => (simp only [wipe, List.map_cons, List.map_nil, List.set_cons_zero, List.set_cons_succ]; exact rfl)))
  | with_reducible refine w_gname ?_
  | with_reducible refine w_ret ?_
  | with_reducible refine w_drop ?_
  | with_reducible refine w_ifS ?_
  | with_reducible refine w_B ?_
  | with_reducible refine w_test ?_
  | with_reducible refine w_bl ?_
  | with_reducible refine w_and ?_
  | with_reducible refine w_or ?_
  | with_reducible refine w_not ?_
  | with_reducible refine w_andV ?_
  | with_reducible refine w_orV ?_
  | with_reducible refine w_notV ?_
  | with_reducible refine w_isN ?_
  | with_reducible refine w_notN ?_
  | with_reducible refine w_I0 ?_
  | with_reducible refine w_U ?_
  | ((with_reducible refine w_I ?hc ?q); (case hc => first | (show (0 : Int) < _; first | decide | assumption) | exact Or.inr ⟨by decide, by decide⟩ | exact Or.inl ⟨by decide, by decide⟩ | exact cdivw (by decide) (by decide) | exact ⟨by decide, by decide, by decide⟩))
  | with_reducible refine w_app ?_
  | with_reducible refine w_gsub ?_
  | with_reducible refine w_m1 ?_
  | ((with_reducible refine w_eq ?h ?q); (case h => exact rfl))
  | ((with_reducible refine w_ne ?h ?q); (case h => exact rfl))
  | ((with_reducible refine w_ixTn (xs := ?xs) (v := ?v) (n := ?n) ?h ?hi ?e ?q); (case h => walk_at "ft"); (case hi => exact rfl); (case e => exact rfl))
  | ((with_reducible refine w_ixLn (xs := ?xs) (v := ?v) (n := ?n) ?h ?hi ?e ?q); (case h => walk_at "ft"); (case hi => exact rfl); (case e => exact rfl))
  | ((with_reducible refine w_lenT (xs := ?xs) ?h ?q); (case h => walk_at "ft"))
  | ((with_reducible refine w_lenL (xs := ?xs) ?h ?q); (case h => walk_at "ft"))
  | ((with_reducible refine w_tupleL (xs := ?xs) ?h ?q); (case h => walk_at "ft"); intro p H' np g hp)
  | with_reducible refine iteT ?_
  | with_reducible refine iteF ?_
  | ((with_reducible refine w_wipe ?h ?q); (case h => exact rfl))
  | with_reducible refine it_nt ?_
  | with_reducible refine it_nf ?_
  | with_reducible refine w_lc ?_
  | with_reducible refine w_lcL ?_
  | with_reducible refine w_lcR ?_
  | with_reducible refine w_for ?_
  | with_reducible refine w_forL ?_
  | with_reducible refine w_forR ?_
  | ((with_reducible refine w_gtup (xs := ?xs) ?h ?hn ?q); (case h => walk_at "ft"); (case hn => exact rfl))
  | with_reducible refine w_gcons ?_
  | with_reducible refine w_gnil ?_
  | with_reducible refine w_slc ?_
  | with_reducible refine w_nopart ?_
  | with_reducible refine w_part ?_
  | with_reducible refine w_ex ?_
  | ((with_reducible refine w_sl (xs := ?xs) ?h ?q); (case h => walk_at "ft"); intro p H' g hp)
  | with_reducible refine w_isi_ii ?_
  | with_reducible refine w_isi_is ?_
  | with_reducible refine w_isi_si ?_
  | with_reducible refine w_isi_ss ?_
  | with_reducible refine w_isi_bb ?_
  | with_reducible refine w_str2 ?_
  | with_reducible refine w_int ?_
  | with_reducible refine w_intB ?_
  | with_reducible refine w_min ?_
  | with_reducible refine w_max ?_)
local macro_rules | `(tactic| walk_at "go") => `(tactic| repeat walk_at "g1")
local macro_rules | `(tactic| walk_at "st") => `(tactic| simp only [L2.start, List.map_cons, List.map_nil, List.length_cons, List.length_nil, List.reduceReplicate, Nat.reduceAdd, Nat.reduceSub, List.cons_append, List.nil_append, List.append_nil])

/-- None or an int -/
def OI (d : PyData) : Prop := d = .none ∨ ∃ i : Int, d = .int i
theorem OkB.oi {d : PyData} (h : OkB d) : OI d := by
  rcases h with h | ⟨i, h, _⟩
  · exact .inl h
  · exact .inr ⟨i, h⟩
theorem OkC.oi {lo hi : PyData} (h : OkC lo hi) : OI lo ∧ OI hi := by
  obtain ⟨⟨i, h, _⟩, h2⟩ := h
  refine ⟨.inr ⟨i, h⟩, ?_⟩
  rcases h2 with h | ⟨i, h, _⟩
  · exact .inl h
  · exact .inr ⟨i, h⟩
def spWithin : Sp := fun vs H Q _ => ∃ (n : Int) (lo hi : PyData) (vlo vhi : V), vs = [.int n, vlo, vhi] ∧ Rep H vlo lo ∧ Rep H vhi hi ∧ OI lo ∧ OI hi ∧ Q (.bl (within n lo hi)) H
/-- the values that are looked at -/
abbrev GV (d : PyData) : Prop := OkV 2000 12 d
def spValid (k : Nat) : Sp := fun vs H Q _ => ∃ (x y : V) (s v : PyData), vs = [x, y] ∧ Rep H x s ∧ Rep H y v ∧ OkSch k s ∧ GV v ∧ ∀ H', G [] H H' → Q (.bl (valid k s v)) H'
def validList (k : Nat) (s lo hi v : PyData) : Bool := decide (word v = "list") && within ((args (arg 1 v)).length : Nat) lo hi && (args (arg 1 v)).all fun x => valid k s x
def spValidList (k : Nat) : Sp := fun vs H Q _ => ∃ (x y : V) (s lo hi v : PyData), vs = [x, y] ∧ Rep H x (tg "list" [s, lo, hi]) ∧ Rep H y v ∧ OkSch k s ∧ OkC lo hi ∧ GV v ∧ ∀ H', G [] H H' → Q (.bl (validList k s lo hi v)) H'
theorem Rep.tg {H : Hp} {v : V} {w : Str} {r : List PyData} (h : Rep H v (tg w r)) : ∃ p xs, v = .ref p ∧ H p = some (.tup (.str w :: xs)) ∧ Reps H xs r := by
  obtain ⟨p, xs, e, hp, hr⟩ := h.tupE
  cases hr with
  | cons h1 h2 =>
    cases h1
    exact ⟨p, _, e, hp, h2⟩
theorem word_tg (w : Str) (r : List PyData) : word (tg w r) = w := rfl
theorem dec_str {a b : Str} : decide (V.str a = V.str b) = decide (a = b) := by simp
theorem c_within {H : Hp} {Q : VK} {E : XK} {n : Int} {lo hi : PyData} {vlo vhi : V} (h1 : Rep H vlo lo) (h2 : Rep H vhi hi) (o1 : OI lo) (o2 : OI hi) (q : Q (.bl (within n lo hi)) H) : spWithin [.int n, vlo, vhi] H Q E := ⟨_, _, _, _, _, rfl, h1, h2, o1, o2, q⟩
theorem c_valid {H : Hp} {Q : VK} {E : XK} {k : Nat} {x y : V} {s v : PyData} (h1 : Rep H x s) (h2 : Rep H y v) (o1 : OkSch k s) (o2 : GV v) (q : ∀ H', G [] H H' → Q (.bl (valid k s v)) H') : spValid k [x, y] H Q E := ⟨_, _, _, _, rfl, h1, h2, o1, o2, q⟩
theorem all_map {α : Type} (f : α → Bool) (l : List α) : (l.map f).all id = l.all f := by
  rw [List.all_map]
  rfl
theorem any_map {α : Type} (f : α → Bool) (l : List α) : (l.map f).any id = l.any f := by
  rw [List.any_map]
  rfl
theorem gv_item {k : Nat} {x : PyData} (hk : k ≤ 12) (h : OkV 2000 k x) : GV x := OkV.mono (Nat.le_refl _) hk h
def validTuple (k : Nat) (ss : List PyData) (v : PyData) : Bool := decide (word v = "list") && decide ((args (arg 1 v)).length = ss.length) && zipAll (valid k) ss (args (arg 1 v))
def spValidTuple (k : Nat) : Sp := fun vs H Q _ => ∃ (x y : V) (ss : List PyData) (v : PyData), vs = [x, y] ∧ Rep H x (tg "tuple" [.tuple ss]) ∧ Rep H y v ∧ ss.length ≤ 20 ∧ (∀ s ∈ ss, OkSch k s) ∧ GV v ∧ ∀ H', G [] H H' → Q (.bl (validTuple k ss v)) H'
def validObject (k : Nat) (rows : List PyData) (o v : PyData) : Bool := decide (word v = "object") && (rows.all fun r => !(boolD (arg 2 r) && !hasName (args (arg 1 v)) (strD (arg 0 r)))) &&
      (args (arg 1 v)).all fun f => valid k (inner rows (strD (arg 0 f)) o) (arg 1 f)
def spValidObject (k : Nat) : Sp := fun vs H Q _ => ∃ (x y : V) (rows : List PyData) (o v : PyData), vs = [x, y] ∧ Rep H x (tg "object" [.tuple rows, o]) ∧ Rep H y v ∧ rows.length ≤ 20 ∧ (∀ r ∈ rows, OkR k r) ∧ OkSch k o ∧ GV v ∧ ∀ H', G [] H H' → Q (.bl (validObject k rows o v)) H'
/-- a schema that contains others -/
def Parts (w : Str) : Prop := w = "list" ∨ w = "tuple" ∨ w = "either" ∨ w = "all" ∨ w = "not" ∨ w = "object"
def spValidPart (k : Nat) : Sp := fun vs H Q _ => ∃ (x y : V) (s v : PyData), vs = [x, y] ∧ Rep H x s ∧ Rep H y v ∧ OkSch (k + 1) s ∧ Parts (word s) ∧ GV v ∧ ∀ H', G [] H H' → Q (.bl (valid (k + 1) s v)) H'
section
variable {K : PySem.W.Frag} {A : List (Addr × Nat)} {σ : L2.St} {H H' : Hp} {Q : VK} {te : TE} {g : TG} {vs : List Nat} {p p2 : Addr} {xs ys : List V} {ta : TA}
theorem w_lcZ0 (q : ta σ H fun zs H1 => ∃ a b xs ys, zs = [.ref a, .ref b] ∧ ((SqL K H1 a xs ∧ SqL K H1 b ys ∧ ∀ D, H1 D = none → ∃ W : Nat → Nat → Hp → Prop, (∃ m, W 0 m (upd H1 D (.lst []))) ∧ ∀ i m H, W i m H →
      ((Itz K a b).stop i H ∧ Q (.ref D) H) ∨ ((Itz K a b).go i H ∧ ∃ Nx : Hp → Prop, (∀ H', Nx H' → ∃ m', m' < m ∧ W (i + 1) m' H') ∧ ∀ x H', (Itz K a b).yld i H x H' → g x (wipe σ vs) H' fun σ2 H2 => wipe σ2 vs = wipe σ vs ∧ tYes σ2 H2 fun b H3 =>
        if b = true then te σ2 H3 fun y H4 => ∃ acc, H4 D = some (.lst acc) ∧ acc.length < sizeLine ∧ Nx (upd H4 D (.lst (acc ++ [y]))) else Nx H3)) ∨ (SqT K H1 a xs ∧ SqT K H1 b ys ∧ ∀ D, H1 D = none → ∃ W : Nat → Nat → Hp → Prop, (∃ m, W 0 m (upd H1 D (.lst []))) ∧ ∀ i m H, W i m H →
      ((RZ.ItzT K a b).stop i H ∧ Q (.ref D) H) ∨ ((RZ.ItzT K a b).go i H ∧ ∃ Nx : Hp → Prop, (∀ H', Nx H' → ∃ m', m' < m ∧ W (i + 1) m' H') ∧ ∀ x H', (RZ.ItzT K a b).yld i H x H' → g x (wipe σ vs) H' fun σ2 H2 => wipe σ2 vs = wipe σ vs ∧ tYes σ2 H2 fun b H3 =>
        if b = true then te σ2 H3 fun y H4 => ∃ acc, H4 D = some (.lst acc) ∧ acc.length < sizeLine ∧ Nx (upd H4 D (.lst (acc ++ [y]))) else Nx H3)))) : tLc (RZ.iZipA K ta) g tYes te vs σ H Q := q
end
theorem zipAll_zip (f : PyData → PyData → Bool) : ∀ (xs ys : List PyData), ((xs.zip ys).all fun p => f p.1 p.2) = zipAll f xs ys
  | [], _ => by simp [zipAll]
  | _ :: _, [] => by simp [zipAll]
  | x :: xs, y :: ys => by
    rw [List.zip_cons_cons, List.all_cons, zipAll_zip f xs ys]
    rfl
theorem zip_get {xs ys : List PyData} {i : Nat} {x y : PyData} (h1 : xs[i]? = some x) (h2 : ys[i]? = some y) : (xs.zip ys)[i]? = some (x, y) := by
  rw [List.getElem?_zip_eq_some]
  exact ⟨h1, h2⟩
theorem inV_names (n : Str) (fs : List PyData) : inV (.str n) (fs.map fun f => V.str (strD (arg 0 f))) = hasName fs n := by
  unfold inV hasName
  rw [List.any_map]
  congr 1
theorem names_flat (fs : List PyData) : (fs.map fun f => V.str (strD (arg 0 f))).all flatV = true := by
  rw [List.all_map]
  exact List.all_eq_true.mpr fun _ _ => rfl
theorem w_notIn {K : PySem.W.Frag} {H : Hp} {Q : VK} {p : Addr} {n : Str} {fs : List PyData} (h : H p = some (.lst (fs.map fun f => V.str (strD (arg 0 f))))) (q : Q (.bl (!hasName fs n)) H) : rIn K true (.str n) (.ref p) H Q := by
  refine ⟨p, _, rfl, .inl (SqL.of h), rfl, names_flat fs, ?_⟩
  rw [inV_names]
  exact q

/-! how deep the data are -/
theorem lay_all : ∀ (xs : List PyData) (m : Nat), (∀ x ∈ xs, x.canLay0 = true ∧ x.depth ≤ m) → PyData.canLayAll0 xs = true ∧ PyData.depthAll xs ≤ m
  | [], m, _ => by simp [PyData.canLayAll0, PyData.depthAll]
  | x :: xs, m, h => by
    obtain ⟨h1, h2⟩ := h x (by simp)
    obtain ⟨h3, h4⟩ := lay_all xs m fun y hy => h y (by simp [hy])
    simp only [PyData.canLayAll0, PyData.depthAll, h1, h3, Bool.and_self, true_and]
    omega
theorem lay_tup {xs : List PyData} {m : Nat} (h : ∀ x ∈ xs, x.canLay0 = true ∧ x.depth ≤ m) : (PyData.tuple xs).canLay0 = true ∧ (PyData.tuple xs).depth ≤ m + 1 := by
  obtain ⟨h1, h2⟩ := lay_all xs m h
  simp only [PyData.canLay0, PyData.depth]
  exact ⟨h1, by omega⟩
theorem lay_str {s : Str} {m : Nat} (h : s.cps.all (· < 0x110000) = true) : (PyData.str s).canLay0 = true ∧ (PyData.str s).depth ≤ m := by
  simp only [PyData.canLay0, PyData.depth]
  exact ⟨h, Nat.zero_le _⟩
theorem gv_shape {N : Nat} : ∀ (k : Nat) (d : PyData), OkV N k d → d.canLay0 = true ∧ d.depth ≤ 3 * k + 1 := by
  have leaf : ∀ d, OkL d → d.canLay0 = true ∧ d.depth ≤ 1 := by
    intro d h
    rcases h with rfl | ⟨b, rfl⟩ | ⟨i, rfl⟩ | ⟨s, rfl, hs⟩
    · exact lay_tup (m := 0) fun x hx => by
        rw [List.mem_singleton.mp hx]
        exact lay_str (by decide +kernel)
    · refine lay_tup (m := 0) fun x hx => ?_
      rcases List.mem_cons.mp hx with rfl | hx
      · exact lay_str (by decide +kernel)
      · rw [List.mem_singleton.mp hx]
        simp [PyData.canLay0, PyData.depth]
    · refine lay_tup (m := 0) fun x hx => ?_
      rcases List.mem_cons.mp hx with rfl | hx
      · exact lay_str (by decide +kernel)
      · rw [List.mem_singleton.mp hx]
        simp [PyData.canLay0, PyData.depth]
    · refine lay_tup (m := 0) fun x hx => ?_
      rcases List.mem_cons.mp hx with rfl | hx
      · exact lay_str (by decide +kernel)
      · rw [List.mem_singleton.mp hx]
        exact lay_str hs.2
  intro k
  induction k with
  | zero => exact fun d h => leaf d h
  | succ k ih =>
    intro d h
    rcases h with h | ⟨xs, rfl, _, hx⟩ | ⟨fs, rfl, _, hf⟩
    · obtain ⟨h1, h2⟩ := leaf d h
      exact ⟨h1, by omega⟩
    · obtain ⟨h1, h2⟩ : (tg "list" [.tuple xs]).canLay0 = true ∧ (tg "list" [.tuple xs]).depth ≤ (3 * k + 1 + 1) + 1 := by
        refine lay_tup fun x hx2 => ?_
        rcases List.mem_cons.mp hx2 with rfl | hx2
        · exact lay_str (by decide +kernel)
        · rw [List.mem_singleton.mp hx2]
          exact lay_tup fun y hy => ih y (hx y hy)
      exact ⟨h1, by omega⟩
    · obtain ⟨h1, h2⟩ : (tg "object" [.tuple fs]).canLay0 = true ∧ (tg "object" [.tuple fs]).depth ≤ (3 * k + 1 + 1 + 1) + 1 := by
        refine lay_tup fun x hx2 => ?_
        rcases List.mem_cons.mp hx2 with rfl | hx2
        · exact lay_str (by decide +kernel)
        · rw [List.mem_singleton.mp hx2]
          refine lay_tup fun y hy => ?_
          obtain ⟨n, x, rfl, hn, hx⟩ := hf y hy
          refine lay_tup fun z hz => ?_
          rcases List.mem_cons.mp hz with rfl | hz
          · exact lay_str hn.2
          · rw [List.mem_singleton.mp hz]
            exact ih x hx
      exact ⟨h1, by omega⟩
theorem shaped_gv {d : PyData} (h : GV d) : SeqAt.shaped d = true := by
  obtain ⟨h1, h2⟩ := gv_shape 12 d h
  unfold SeqAt.shaped
  rw [h1, Bool.true_and]
  exact decide_eq_true (by omega)

section
variable {K : PySem.W.Frag} {σ : L2.St} {H : Hp} {Q : VK} {tl tk tv : TE} {g : TG} {vs : List Nat} {p : Addr} {xs : List V}
theorem w_dc (q : tl σ H fun x H1 => ∃ a, x = .ref a ∧ (∃ xs, SqT K H1 a xs) ∧ ∀ D, H1 D = none → ∃ W : Nat → Nat → Hp → Prop, (∃ m, W 0 m (upd H1 D (.dK []))) ∧ ∀ i m H, W i m H →
      ((Itt K a).stop i H ∧ Q (.ref D) H) ∨ ((Itt K a).go i H ∧ ∃ Nx : Hp → Prop, (∀ H', Nx H' → ∃ m', m' < m ∧ W (i + 1) m' H') ∧ ∀ x H', (Itt K a).yld i H x H' → g x (wipe σ vs) H' fun σ2 H2 => wipe σ2 vs = wipe σ vs ∧ tYes σ2 H2 fun b H3 =>
        if b = true then tk σ2 H3 fun y H4 => tv σ2 H4 fun z H5 => ∃ kvs k, y = kV k ∧ H5 D = some (.dK kvs) ∧ kvs.length < sizeLine ∧ Nx (upd H5 D (.dK (putK kvs k z))) else Nx H3)) : tDc (iTup K tl) g tYes tk tv vs σ H Q := q
theorem w_dcT {Qd : Addr → Hp → Prop} (J : Nat → List (Key × V) → Hp → Prop) (mono : ∀ i kvs H H', T H H' → J i kvs H → J i kvs H') (ha : H p = some (.tup xs)) (hl : xs.length ≤ 1000) (h0 : ∀ H', J 0 [] H')
    (step : ∀ (i : Nat) (x : V) (H1 : Hp) (Nx : V → V → Hp → Prop), xs[i]? = some x → G [] H H1 → (∀ n z, (∀ kvs, J i kvs H1 → J (i + 1) (putK kvs (.inr n) z) H1) → Nx (.str n) z H1) → g x (wipe σ vs) H1 fun σ2 H2 => wipe σ2 vs = wipe σ vs ∧ tk σ2 H2 fun y H4 => tv σ2 H4 fun z H5 => Nx y z H5)
    (done : ∀ D kvs H', H D = none → G [] H H' → H' D = some (.dK kvs) → J xs.length kvs H' → Qd D H') :
    ∃ a, V.ref p = .ref a ∧ (∃ xs, SqT K H a xs) ∧ ∀ D, H D = none → ∃ W : Nat → Nat → Hp → Prop, (∃ m, W 0 m (upd H D (.dK []))) ∧ ∀ i m H, W i m H →
      ((Itt K a).stop i H ∧ Qd D H) ∨ ((Itt K a).go i H ∧ ∃ Nx : Hp → Prop, (∀ H', Nx H' → ∃ m', m' < m ∧ W (i + 1) m' H') ∧ ∀ x H', (Itt K a).yld i H x H' → g x (wipe σ vs) H' fun σ2 H2 => wipe σ2 vs = wipe σ vs ∧ tYes σ2 H2 fun b H3 =>
        if b = true then tk σ2 H3 fun y H4 => tv σ2 H4 fun z H5 => ∃ kvs k, y = kV k ∧ H5 D = some (.dK kvs) ∧ kvs.length < sizeLine ∧ Nx (upd H5 D (.dK (putK kvs k z))) else Nx H3) := by
  refine ⟨p, rfl, ⟨xs, SqT.of ha⟩, fun D hD => ?_⟩
  refine dc_tup (xs := xs) (fun i H1 => G [] H H1 ∧ ∃ kvs, H1 D = some (.dK kvs) ∧ kvs.length ≤ i ∧ J i kvs H1) ⟨G.new hD, [], upd_same, Nat.le_refl _, h0 _⟩ (fun i H1 _ q => SqT.of (q.1.t _ _ ha)) (fun i x H1 hi q => ?_) fun H1 q => ?_
  · obtain ⟨g1, kvs, e, hl2, j⟩ := q
    have hi2 := (List.getElem?_eq_some_iff.mp hi).1
    refine step i x H1 _ hi g1 fun n z hj => ?_
    refine ⟨kvs, .inr n, rfl, e, Nat.lt_of_lt_of_le (by omega : kvs.length < 100000) (by decide), g1.mut hD, _, upd_same, ?_, mono _ _ _ _ (T.dK e) (hj kvs j)⟩
    have := length_putK kvs (.inr n : Key) z
    omega
  · obtain ⟨g1, kvs, e, hl2, j⟩ := q
    exact done D kvs H1 hD g1 e j
end
/-- the rows looked at so far, as the dict tells them -/
def DJ (rows : List PyData) (i : Nat) (kvs : List (Key × V)) (H : Hp) : Prop :=
  ∀ n o, (valV kvs (.inr n) = none → inner (rows.take i) n o = o) ∧ ∀ v, valV kvs (.inr n) = some v → Rep H v (inner (rows.take i) n o)
theorem inner_snoc (rows : List PyData) (r : PyData) (n : Str) (o : PyData) : inner (rows ++ [r]) n o = if strD (arg 0 r) = n then arg 1 r else inner rows n o := by
  unfold inner
  rw [List.foldl_append]
  rfl
theorem take_snoc {rows : List PyData} {i : Nat} {r : PyData} (h : rows[i]? = some r) : rows.take (i + 1) = rows.take i ++ [r] := by
  rw [List.take_add_one, h]
  rfl
theorem DJ.put {rows : List PyData} {i : Nat} {kvs : List (Key × V)} {H : Hp} {m : Str} {s x : PyData} {v : V} (h : DJ rows i kvs H) (hr : rows[i]? = some (.tuple [.str m, s, x])) (hv : Rep H v s) : DJ rows (i + 1) (putK kvs (.inr m) v) H := by
  intro n o
  obtain ⟨h1, h2⟩ := h n o
  rw [take_snoc hr, inner_snoc, valV_put]
  have e0 : strD (arg 0 (.tuple [.str m, s, x])) = m := rfl
  have e1 : arg 1 (.tuple [.str m, s, x]) = s := rfl
  rw [e0, e1]
  by_cases c : m = n
  · subst c
    rw [if_pos rfl, if_pos rfl]
    refine ⟨fun z => ?_, fun u z => ?_⟩
    · cases z
    · cases z
      exact hv
  · rw [if_neg c, if_neg (fun z => c (Sum.inr.inj z).symm)]
    exact ⟨h1, h2⟩
theorem inner_ok {k : Nat} {rows : List PyData} {n : Str} {o : PyData} (h : ∀ r ∈ rows, OkR k r) (ho : OkSch k o) : OkSch k (inner rows n o) := by
  unfold inner
  induction rows generalizing o with
  | nil => exact ho
  | cons r rs ih =>
    rw [List.foldl_cons]
    refine ih (fun r hr => h r (by simp [hr])) ?_
    obtain ⟨m, s, b, rfl, _, hs⟩ := h r (by simp)
    split
    · exact hs
    · exact ho

/-! a def that is not called -/
def spNever : Sp := fun _ _ _ _ => False
theorem At.never {P : Program} {w : World} {K : PySem.W.Frag} {mg : Str → Option Value} {base : Heap} {x : Str} {st : Stmt} {ps : List Str} (F : At K mg x st ps) : Def P w K mg base 0 x ps spNever := by
  obtain ⟨f, fd, F, e, b⟩ := F.ex
  exact ⟨f, fd, ⟨fun _ _ _ _ h => h.elim, fun _ _ _ _ _ _ _ _ _ _ _ _ _ h => h.elim⟩, e, F.kp, b⟩
end
section

local macro_rules | `(tactic| walk_at "ft") => `(tactic| first
  | assumption
  | ((with_reducible refine f_tup (A := ?A) (H := ?H) ?g ?h); (case g => assumption); (case h => walk_at "ft"))
  | ((with_reducible refine f_lst (A := ?A) (H := ?H) ?g ?n ?h); (case g => assumption); (case n => first | exact nil_nin | assumption); (case h => walk_at "ft"))
  | ((with_reducible refine f_rep (A := ?A) (H := ?H) ?g ?h); (case g => assumption); (case h => walk_at "ft"))
  | ((with_reducible refine f_reps (A := ?A) (H := ?H) ?g ?h); (case g => assumption); (case h => walk_at "ft"))
  | ((with_reducible refine f_iaA (H := ?H) ?g ?h); (case g => assumption); (case h => walk_at "ft"))
  | ((with_reducible refine f_ia0 (H := ?H) ?g ?h); (case g => assumption); (case h => walk_at "ft"))
  | ((with_reducible refine f_g (H := ?H) ?g ?h); (case g => assumption); (case h => walk_at "ft"))
  | ((with_reducible refine f_g0 (H := ?H) ?g ?h); (case g => assumption); (case h => walk_at "ft"))
  | with_reducible exact G.refl _ _)
local macro_rules | `(tactic| walk_at "g1") => `(tactic| first
  | ((with_reducible refine w_var (v := ?v) ?h ?q); (case h => exact rfl))
  | with_reducible refine w_C ?_
  | with_reducible refine w_op ?_
  | with_reducible refine w_un ?_
  | with_reducible refine w_cons ?_
  | with_reducible refine w_nil ?_
  | with_reducible refine w_cb ?_
  | with_reducible refine w_call ?_
  | with_reducible refine w_tup ?_
  | with_reducible refine w_lst ?_
  | ((with_reducible refine w_mkT ?h ?q); (case h => exact sz100 rfl); intro p H' np g hp)
  | ((with_reducible refine w_mkL ?h ?q); (case h => exact sz100 rfl); intro p H' np g hp)
  | with_reducible refine w_seq ?_
  | with_reducible refine w_next ?_
  | with_reducible refine w_asg ?_
  | ((with_reducible refine w_gnameS (σ' := ?s) ?h ?q); (case h => (simp only [wipe, List.map_cons, List.map_nil, List.set_cons_zero, List.set_cons_succ]; exact rfl)))
  | with_reducible refine w_gname ?_
  | with_reducible refine w_ret ?_
  | with_reducible refine w_drop ?_
  | with_reducible refine w_ifS ?_
  | with_reducible refine w_B ?_
  | with_reducible refine w_test ?_
  | with_reducible refine w_bl ?_
  | with_reducible refine w_and ?_
  | with_reducible refine w_or ?_
  | with_reducible refine w_not ?_
  | with_reducible refine w_andV ?_
  | with_reducible refine w_orV ?_
  | with_reducible refine w_notV ?_
  | with_reducible refine w_isN ?_
  | with_reducible refine w_notN ?_
  | with_reducible refine w_I0 ?_
  | with_reducible refine w_U ?_
  | ((with_reducible refine w_I ?hc ?q); (case hc => first | (show (0 : Int) < _; first | decide | assumption) | exact Or.inr ⟨by decide, by decide⟩ | exact Or.inl ⟨by decide, by decide⟩ | exact cdivw (by decide) (by decide) | exact ⟨by decide, by decide, by decide⟩))
  | with_reducible refine w_app ?_
  | with_reducible refine w_gsub ?_
  | with_reducible refine w_m1 ?_
  | ((with_reducible refine w_eq ?h ?q); (case h => exact rfl))
  | ((with_reducible refine w_ne ?h ?q); (case h => exact rfl))
  | ((with_reducible refine w_ixTn (xs := ?xs) (v := ?v) (n := ?n) ?h ?hi ?e ?q); (case h => walk_at "ft"); (case hi => exact rfl); (case e => exact rfl))
  | ((with_reducible refine w_ixLn (xs := ?xs) (v := ?v) (n := ?n) ?h ?hi ?e ?q); (case h => walk_at "ft"); (case hi => exact rfl); (case e => exact rfl))
  | ((with_reducible refine w_lenT (xs := ?xs) ?h ?q); (case h => walk_at "ft"))
  | ((with_reducible refine w_lenL (xs := ?xs) ?h ?q); (case h => walk_at "ft"))
  | ((with_reducible refine w_tupleL (xs := ?xs) ?h ?q); (case h => walk_at "ft"); intro p H' np g hp)
  | with_reducible refine iteT ?_
  | with_reducible refine iteF ?_
  | ((with_reducible refine w_wipe ?h ?q); (case h => exact rfl))
  | with_reducible refine it_nt ?_
  | with_reducible refine it_nf ?_
  | with_reducible refine w_lc ?_
  | with_reducible refine w_lcL ?_
  | with_reducible refine w_lcR ?_
  | with_reducible refine w_for ?_
  | with_reducible refine w_forL ?_
  | with_reducible refine w_forR ?_
  | ((with_reducible refine w_gtup (xs := ?xs) ?h ?hn ?q); (case h => walk_at "ft"); (case hn => exact rfl))
  | with_reducible refine w_gcons ?_
  | with_reducible refine w_gnil ?_
  | with_reducible refine w_slc ?_
  | with_reducible refine w_nopart ?_
  | with_reducible refine w_part ?_
  | with_reducible refine w_ex ?_
  | ((with_reducible refine w_sl (xs := ?xs) ?h ?q); (case h => walk_at "ft"); intro p H' g hp)
  | with_reducible refine w_isi_ii ?_
  | with_reducible refine w_isi_is ?_
  | with_reducible refine w_isi_si ?_
  | with_reducible refine w_isi_ss ?_
  | with_reducible refine w_isi_bb ?_
  | with_reducible refine w_str2 ?_
  | with_reducible refine w_int ?_
  | with_reducible refine w_intB ?_
  | with_reducible refine w_min ?_
  | with_reducible refine w_max ?_)
local macro_rules | `(tactic| walk_at "go") => `(tactic| repeat walk_at "g1")
local macro_rules | `(tactic| walk_at "st") => `(tactic| simp only [L2.start, List.map_cons, List.map_nil, List.length_cons, List.length_nil, List.reduceReplicate, Nat.reduceAdd, Nat.reduceSub, List.cons_append, List.nil_append, List.append_nil])

section
variable {P : Program} {w : World} {K : PySem.W.Frag} {mg : Str → Option Value} {base : Heap}
theorem D_is_within (F : At K mg "is_within" sis_within ["count", "low", "high"]) (Tg : Glob mg) : Def P w K mg base 1 "is_within" ["count", "low", "high"] spWithin := by
  refine F.def scis_within (fun vs H Q E h => ?_) (fun f cdv A outer s H vs Q E hr h => ?_)
  · obtain ⟨n, lo, hi, vlo, vhi, rfl, _⟩ := h
    rfl
  obtain ⟨n, lo, hi, vlo, vhi, rfl, h1, h2, o1, o2, q⟩ := h
  refine ⟨_, (pss_one (ps_ret (pe_and (pe_or (pe_cmp (pc_isN (pv 1))) (pe_one (pe_cmpR op_le (pv 1) (pv 0) (nomark _)))) (pe_one (pe_or (pe_cmp (pc_isN (pv 2))) (pe_one (pe_cmpR op_le (pv 0) (pv 2) (nomark _)))))))), ?_⟩
  walk_at "st"
  unfold within at q
  rcases o1 with rfl | ⟨i, rfl⟩ <;> rcases o2 with rfl | ⟨j, rfl⟩ <;> cases h1 <;> cases h2 <;> simp only [tRet, tAndV, tOrV, tIsN, tVar, tOp, rI0, L2.start] <;> simp <;> simp at q
  · exact q
  · exact q
  · refine ite2 (fun c => ?_) (fun c => ?_)
    · rw [decide_eq_true c] at q
      exact q
    · rw [decide_eq_false c] at q
      exact q
  · refine ite2 (fun c => ?_) (fun c => ?_)
    · rw [decide_eq_true c, Bool.true_and] at q
      exact q
    · rw [decide_eq_false c, Bool.false_and] at q
      exact q
theorem D_is_valid_list {k j : Nat} (F : At K mg "is_valid_list" sis_valid_list ["schema", "value"]) (Tg : Glob mg) (Dis_within : Def P w K mg base 1 "is_within" ["count", "low", "high"] spWithin)
    (Dis_valid : Def P w K mg base (j + 1) "is_valid" ["schema", "value"] (spValid k)) : Def P w K mg base (j + 2) "is_valid_list" ["schema", "value"] (spValidList k) := by
  refine F.def scis_valid_list (fun vs H Q E h => ?_) (fun f cdv A outer s H vs Q E hr h => ?_)
  · obtain ⟨x, y, s, lo, hi, v, rfl, _⟩ := h
    rfl
  obtain ⟨x, y, ds, lo, hi, d, rfl, h1, h2, ok, oc, gv, q⟩ := h
  have T := Tg
  refine ⟨_, (pss_cons (ps_if (PW.pt (pw_or (pt_cmpR op_ne (pe_ix (ix_tupK K) (pv 1) pe_int (fun _ _ => rfl)) pe_str (nomark _)) (pw_or1 (pt_not (pt_val (pe_def Dis_within hr (by rfl) (pa_cons (pe_callB (call_lenK K) (by rfl) T.n_len (by decide +kernel) (pa_cons (pe_ix (ix_tupK K) (pv 1) pe_int (fun _ _ => rfl)) pa_nil)) (pa_cons (pe_ix (ix_tupK K) (pv 0) pe_int (fun _ _ => rfl)) (pa_cons (pe_ix (ix_tupK K) (pv 0) pe_int (fun _ _ => rfl)) pa_nil)))))))))
(pss_one (ps_ret pe_bl))
pss_nil)
(pss_one (ps_ret (pe_callB (cr_allK K rfl) (by rfl) T.n_all (by decide +kernel) (pa_cons (pe_lc (own := [("item", 2)]) rfl scis_valid_list.nd (pi_tupK K (pe_ix (ix_tupK K) (pv 1) pe_int (fun _ _ => rfl))) (blkOk_by (N := Nis_valid_list) (sc := defScope sis_valid_list) (by decide +kernel)) (fun _ _ _ _ _ => (pg_name (i := 2) scis_valid_list.nd rfl (by first | exact .inl rfl | exact .inr rfl))) (fun _ _ _ _ _ => pts_nil) (fun _ _ _ _ _ => (pe_def Dis_valid hr (by rfl) (pa_cons (pe_ix (ix_tupK K) (pv 0) pe_int (fun _ _ => rfl)) (pa_cons (pv 2) pa_nil))))) pa_nil))))), ?_⟩
  walk_at "st"
  obtain ⟨p, xs, rfl, hp, hr1⟩ := h1.tg
  obtain ⟨wd, r, rfl, sv⟩ := gv.sh
  obtain ⟨p2, ys, rfl, hp2, hr2⟩ := h2.tg
  walk_at "go"
  refine w_iteNeS (fun c => ?_) (fun c => ?_)
  · walk_at "go"
    have z := q H (G.refl _ _)
    rw [show validList k ds lo hi (tg wd r) = false by unfold validList; rw [word_tg, decide_eq_false c]; rfl] at z
    exact z
  subst c
  obtain ⟨k', vs, ek, rfl, hl, hx⟩ := sv.list rfl
  cases hr2 with
  | cons hv hnil =>
  cases hnil
  obtain ⟨p3, zs, rfl, hp3, hr3⟩ := hv.tupE
  cases hr1 with
  | cons hs hr1 =>
  cases hr1 with
  | cons hlo hr1 =>
  cases hr1 with
  | cons hhi hr1 =>
  cases hr1
  have lz : zs.length = vs.length := hr3.len
  walk_at "go"
  refine c_within hlo hhi oc.oi.1 oc.oi.2 ?_
  walk_at "go"
  rw [lz]
  have ev : validList k ds lo hi (tg "list" [.tuple vs]) = (within (vs.length : Nat) lo hi && vs.all fun x => valid k ds x) := by
    unfold validList
    rw [word_tg, decide_eq_true rfl, Bool.true_and]
    rfl
  rw [ev] at q
  cases hw : within (vs.length : Nat) lo hi with
  | false =>
    rw [hw, Bool.false_and] at q
    walk_at "go"
    exact q H (G.refl _ _)
  | true =>
    rw [hw, Bool.true_and] at q
    walk_at "go"
    refine w_lcT [] (fun i y _ => ∃ d, vs[i]? = some d ∧ y = .bl (valid k ds d)) (fun _ _ _ _ _ h => h) (ianil _) hp3 (by omega) ?step ?done
    case step =>
      intro i x H1 Nx hi g1 nx
      obtain ⟨d, hd, hxd⟩ := hr3.get hi
      walk_at "go"
      refine c_valid (by walk_at "ft") (by walk_at "ft") ok (gv_item (by omega) (hx d (List.mem_of_getElem? hd))) fun H2 g2 => ?_
      exact nx _ _ g2 ⟨d, hd, rfl⟩
    case done =>
      intro D bs H2 hD g2 e hl2 hp
      walk_at "go"
      exact w_allF e (by omega) hp (q _ g2)
end
section
variable {P : Program} {w : World} {K : PySem.W.Frag} {mg : Str → Option Value} {base : Heap}
theorem D_is_valid_tuple {k j : Nat} (F : At K mg "is_valid_tuple" sis_valid_tuple ["schema", "value"]) (Tg : Glob mg)
    (Dis_valid : Def P w K mg base (j + 1) "is_valid" ["schema", "value"] (spValid k)) : Def P w K mg base (j + 2) "is_valid_tuple" ["schema", "value"] (spValidTuple k) := by
  refine F.def scis_valid_tuple (fun vs H Q E h => ?_) (fun f cdv A outer s H vs Q E hr h => ?_)
  · obtain ⟨x, y, ss, v, rfl, _⟩ := h
    rfl
  obtain ⟨x, y, ss, d, rfl, h1, h2, hlen, hss, gv, q⟩ := h
  have T := Tg
  refine ⟨_, (pss_cons (ps_if (PW.pt (pw_or (pt_cmpR op_ne (pe_ix (ix_tupK K) (pv 1) pe_int (fun _ _ => rfl)) pe_str (nomark _)) (pw_or1 (pt_cmpR op_ne (pe_callB (call_lenK K) (by rfl) T.n_len (by decide +kernel) (pa_cons (pe_ix (ix_tupK K) (pv 1) pe_int (fun _ _ => rfl)) pa_nil)) (pe_callB (call_lenK K) (by rfl) T.n_len (by decide +kernel) (pa_cons (pe_ix (ix_tupK K) (pv 0) pe_int (fun _ _ => rfl)) pa_nil)) (nomark _)))))
(pss_one (ps_ret pe_bl))
pss_nil)
(pss_one (ps_ret (pe_callB (cr_allK K rfl) (by rfl) T.n_all (by decide +kernel) (pa_cons (pe_lc (own := [("part", 2), ("item", 3)]) rfl scis_valid_tuple.nd (pi_zipK K (by rfl) T.n_zip (pa_cons (pe_ix (ix_tupK K) (pv 0) pe_int (fun _ _ => rfl)) (pa_cons (pe_ix (ix_tupK K) (pv 1) pe_int (fun _ _ => rfl)) pa_nil))) (blkOk_by (N := Nis_valid_tuple) (sc := defScope sis_valid_tuple) (by decide +kernel)) (fun _ _ _ _ _ => (pg_tupK (n := 2) K rfl (pgs_cons (pg_name (i := 2) scis_valid_tuple.nd rfl (by first | exact .inl rfl | exact .inr rfl)) (pgs_cons (pg_name (i := 3) scis_valid_tuple.nd rfl (by first | exact .inl rfl | exact .inr rfl)) pgs_nil)))) (fun _ _ _ _ _ => pts_nil) (fun _ _ _ _ _ => (pe_def Dis_valid hr (by rfl) (pa_cons (pv 2) (pa_cons (pv 3) pa_nil))))) pa_nil))))), ?_⟩
  walk_at "st"
  obtain ⟨p, xs, rfl, hp, hr1⟩ := h1.tg
  obtain ⟨wd, r, rfl, sv⟩ := gv.sh
  obtain ⟨p2, ys, rfl, hp2, hr2⟩ := h2.tg
  cases hr1 with
  | cons hs hr1 =>
  cases hr1
  obtain ⟨p4, zs1, rfl, hp4, hr4⟩ := hs.tupE
  have lz1 : zs1.length = ss.length := hr4.len
  walk_at "go"
  refine w_iteNeS (fun c => ?_) (fun c => ?_)
  · walk_at "go"
    have z := q H (G.refl _ _)
    rw [show validTuple k ss (tg wd r) = false by unfold validTuple; rw [word_tg, decide_eq_false c]; rfl] at z
    exact z
  subst c
  obtain ⟨k', vs, ek, rfl, hl, hx⟩ := sv.list rfl
  cases hr2 with
  | cons hv hnil =>
  cases hnil
  obtain ⟨p3, zs, rfl, hp3, hr3⟩ := hv.tupE
  have lz : zs.length = vs.length := hr3.len
  have ev : validTuple k ss (tg "list" [.tuple vs]) = (decide (vs.length = ss.length) && zipAll (valid k) ss vs) := by
    unfold validTuple
    rw [word_tg, decide_eq_true rfl, Bool.true_and]
    rfl
  rw [ev] at q
  walk_at "go"
  refine w_iteNeI (fun c => ?_) (fun c => ?_)
  · have c2 : ¬ vs.length = ss.length := by omega
    rw [decide_eq_false c2, Bool.false_and] at q
    walk_at "go"
    exact q H (G.refl _ _)
  have c2 : vs.length = ss.length := by omega
  rw [decide_eq_true c2, Bool.true_and] at q
  walk_at "go"
  refine w_lcZ0 ?_
  walk_at "go"
  refine ⟨_, _, _, _, rfl, .inr ⟨SqT.of hp4, SqT.of hp3, fun D hD => ?_⟩⟩
  refine lcZ (A := []) (fun i y _ => ∃ d, (ss.zip vs)[i]? = some d ∧ y = .bl (valid k d.1 d.2)) (fun _ _ _ _ _ h => h) (ianil _) hD hp4 hp3 (by omega) (by omega) ?step ?done
  case step =>
    intro i x y T1 H1 Nx hx1 hy1 g1 hT1 nx
    obtain ⟨d1, hd1, hxd1⟩ := hr4.get hx1
    obtain ⟨d2, hd2, hxd2⟩ := hr3.get hy1
    walk_at "go"
    refine c_valid (by walk_at "ft") (by walk_at "ft") (hss d1 (List.mem_of_getElem? hd1)) (gv_item (by omega) (hx d2 (List.mem_of_getElem? hd2))) fun H2 g2 => ?_
    exact nx _ _ g2 ⟨_, zip_get hd1 hd2, rfl⟩
  case done =>
    intro bs H2 g2 e hl2 hp
    walk_at "go"
    refine w_allF (f := fun p : PyData × PyData => valid k p.1 p.2) (ds := ss.zip vs) e (by rw [List.length_zip]; omega) hp ?_
    rw [zipAll_zip]
    exact q _ g2
end
section
variable {P : Program} {w : World} {K : PySem.W.Frag} {mg : Str → Option Value} {base : Heap}
theorem D_is_valid_object {k j : Nat} (F : At K mg "is_valid_object" sis_valid_object ["schema", "value"]) (Tg : Glob mg)
    (Dis_valid : Def P w K mg base (j + 1) "is_valid" ["schema", "value"] (spValid k)) : Def P w K mg base (j + 2) "is_valid_object" ["schema", "value"] (spValidObject k) := by
  refine F.def scis_valid_object (fun vs H Q E h => ?_) (fun f cdv A outer s H vs Q E hr h => ?_)
  · obtain ⟨x, y, ss, o, v, rfl, _⟩ := h
    rfl
  obtain ⟨x, y, rows, o, d, rfl, h1, h2, hlen, hrow, ho, gv, q⟩ := h
  have T := Tg
  refine ⟨_, (pss_cons (ps_if (pt_cmpR op_ne (pe_ix (ix_tupK K) (pv 1) pe_int (fun _ _ => rfl)) pe_str (nomark _))
(pss_one (ps_ret pe_bl))
pss_nil)
(pss_cons (ps_set (i := 2) scis_valid_object.nd rfl (by first | exact .inl rfl | exact .inr rfl) (pe_lc (own := [("name", 3), ("_", 4)]) rfl scis_valid_object.nd (pi_tupK K (pe_ix (ix_tupK K) (pv 1) pe_int (fun _ _ => rfl))) (blkOk_by (N := Nis_valid_object) (sc := defScope sis_valid_object) (by decide +kernel)) (fun _ _ _ _ _ => (pg_tupK (n := 2) K rfl (pgs_cons (pg_name (i := 3) scis_valid_object.nd rfl (by first | exact .inl rfl | exact .inr rfl)) (pgs_cons (pg_name (i := 4) scis_valid_object.nd rfl (by first | exact .inl rfl | exact .inr rfl)) pgs_nil)))) (fun _ _ _ _ _ => pts_nil) (fun _ _ _ _ _ => (pv 3))))
(pss_cons (ps_if (pt_val (pe_callB (cr_anyK K rfl) (by rfl) T.n_any (by decide +kernel) (pa_cons (pe_lc (own := [("name", 3), ("_", 4), ("required", 5)]) rfl scis_valid_object.nd (pi_tupK K (pe_ix (ix_tupK K) (pv 0) pe_int (fun _ _ => rfl))) (blkOk_by (N := Nis_valid_object) (sc := defScope sis_valid_object) (by decide +kernel)) (fun _ _ _ _ _ => (pg_tupK (n := 3) K rfl (pgs_cons (pg_name (i := 3) scis_valid_object.nd rfl (by first | exact .inl rfl | exact .inr rfl)) (pgs_cons (pg_name (i := 4) scis_valid_object.nd rfl (by first | exact .inl rfl | exact .inr rfl)) (pgs_cons (pg_name (i := 5) scis_valid_object.nd rfl (by first | exact .inl rfl | exact .inr rfl)) pgs_nil))))) (fun _ _ _ _ _ => pts_nil) (fun _ _ _ _ _ => (pe_and (pv 5) (pe_one (pe_cmpR (op_notInK K) (pv 3) (pv 2) rfl))))) pa_nil)))
(pss_one (ps_ret pe_bl))
pss_nil)
(pss_cons (ps_set (i := 6) scis_valid_object.nd rfl (by first | exact .inl rfl | exact .inr rfl) (pe_dc (own := [("name", 3), ("part", 7), ("_", 4)]) rfl scis_valid_object.nd (pi_tupK K (pe_ix (ix_tupK K) (pv 0) pe_int (fun _ _ => rfl))) (blkOk_by (N := Nis_valid_object) (sc := defScope sis_valid_object) (by decide +kernel)) (fun _ _ _ _ _ => (pg_tupK (n := 3) K rfl (pgs_cons (pg_name (i := 3) scis_valid_object.nd rfl (by first | exact .inl rfl | exact .inr rfl)) (pgs_cons (pg_name (i := 7) scis_valid_object.nd rfl (by first | exact .inl rfl | exact .inr rfl)) (pgs_cons (pg_name (i := 4) scis_valid_object.nd rfl (by first | exact .inl rfl | exact .inr rfl)) pgs_nil))))) (fun _ _ _ _ _ => pts_nil) (fun _ _ _ _ _ => (pv 3)) (fun _ _ _ _ _ => (pv 7))))
(pss_one (ps_ret (pe_callB (cr_allK K rfl) (by rfl) T.n_all (by decide +kernel) (pa_cons (pe_lc (own := [("name", 3), ("item", 8)]) rfl scis_valid_object.nd (pi_tupK K (pe_ix (ix_tupK K) (pv 1) pe_int (fun _ _ => rfl))) (blkOk_by (N := Nis_valid_object) (sc := defScope sis_valid_object) (by decide +kernel)) (fun _ _ _ _ _ => (pg_tupK (n := 2) K rfl (pgs_cons (pg_name (i := 3) scis_valid_object.nd rfl (by first | exact .inl rfl | exact .inr rfl)) (pgs_cons (pg_name (i := 8) scis_valid_object.nd rfl (by first | exact .inl rfl | exact .inr rfl)) pgs_nil)))) (fun _ _ _ _ _ => pts_nil) (fun _ _ _ _ _ => (pe_def Dis_valid hr (by rfl) (pa_cons (pe_dget2 (hu_of hr) (pv 6) (pv 3) (pe_ix (ix_tupK K) (pv 0) pe_int (fun _ _ => rfl)) ⟨rfl, rfl, rfl, rfl⟩) (pa_cons (pv 8) pa_nil))))) pa_nil)))))))), ?_⟩
  walk_at "st"
  obtain ⟨p, xs, rfl, hp, hr1⟩ := h1.tg
  obtain ⟨wd, r, rfl, sv⟩ := gv.sh
  obtain ⟨p2, ys, rfl, hp2, hr2⟩ := h2.tg
  cases hr1 with
  | cons hs hr1 =>
  cases hr1 with
  | cons hho hr1 =>
  cases hr1
  obtain ⟨p4, zs1, rfl, hp4, hr4⟩ := hs.tupE
  have lz1 : zs1.length = rows.length := hr4.len
  walk_at "go"
  refine w_iteNeS (fun c => ?_) (fun c => ?_)
  · walk_at "go"
    have z := q H (G.refl _ _)
    rw [show validObject k rows o (tg wd r) = false by unfold validObject; rw [word_tg, decide_eq_false c]; rfl] at z
    exact z
  subst c
  obtain ⟨k', vs, ek, rfl, hl, hx⟩ := sv.object rfl
  cases hr2 with
  | cons hv hnil =>
  cases hnil
  obtain ⟨p3, zs, rfl, hp3, hr3⟩ := hv.tupE
  have lz : zs.length = vs.length := hr3.len
  have ev : validObject k rows o (tg "object" [.tuple vs]) = ((rows.all fun r => !(boolD (arg 2 r) && !hasName vs (strD (arg 0 r)))) && vs.all fun f => valid k (inner rows (strD (arg 0 f)) o) (arg 1 f)) := by
    unfold validObject
    rw [word_tg, decide_eq_true rfl, Bool.true_and]
    rfl
  rw [ev] at q
  walk_at "go"
  refine w_lcT [] (fun i y _ => ∃ f, vs[i]? = some f ∧ y = .str (strD (arg 0 f))) (fun _ _ _ _ _ h => h) (ianil _) hp3 (by omega) ?step ?done
  case step =>
    intro i x H1 Nx hi g1 nx
    obtain ⟨f, hf, hxf⟩ := hr3.get hi
    obtain ⟨n, fv, rfl, hn, hfv⟩ := hx f (List.mem_of_getElem? hf)
    obtain ⟨pf, fs, rfl, hpf, hrf⟩ := hxf.tupE
    cases hrf with
    | cons hn1 hrf =>
    cases hn1
    cases hrf with
    | cons hfx hrf =>
    cases hrf
    walk_at "go"
    exact nx _ _ (G.refl _ _) ⟨_, hf, rfl⟩
  case done =>
  intro D bs H1 hD g1 e1 hl1 hp1
  have eb := lst_map (F := fun f => V.str (strD (arg 0 f))) (by omega) hp1
  rw [eb] at e1
  walk_at "go"
  refine w_lcT [] (fun i y _ => ∃ r, rows[i]? = some r ∧ y = .bl (boolD (arg 2 r) && !hasName vs (strD (arg 0 r)))) (fun _ _ _ _ _ h => h) (ianil _) (show H1 p4 = some (.tup zs1) by walk_at "ft") (by omega) ?step ?done
  case step =>
    intro i x H2 Nx hi g2 nx
    obtain ⟨rw0, hrw, hxf⟩ := hr4.get hi
    obtain ⟨n, sv1, b, rfl, hn, hsv⟩ := hrow rw0 (List.mem_of_getElem? hrw)
    obtain ⟨pf, fs, rfl, hpf, hrf⟩ := hxf.tupE
    cases hrf with
    | cons hn1 hrf =>
    cases hn1
    cases hrf with
    | cons hfx hrf =>
    cases hrf with
    | cons hb hrf =>
    cases hb
    cases hrf
    walk_at "go"
    cases b with
    | false =>
      walk_at "go"
      exact nx _ _ (G.refl _ _) ⟨_, hrw, rfl⟩
    | true =>
      walk_at "go"
      refine w_notIn (fs := vs) (by walk_at "ft") ?_
      exact nx _ _ (G.refl _ _) ⟨_, hrw, rfl⟩
  case done =>
  intro D2 bs2 H2 hD2 g2 e2 hl2 hp2
  walk_at "go"
  refine w_anyF e2 (by omega) hp2 ?_
  have ea : (rows.all fun r => !(boolD (arg 2 r) && !hasName vs (strD (arg 0 r)))) = !(rows.any fun r => boolD (arg 2 r) && !hasName vs (strD (arg 0 r))) := by
    rw [List.all_eq_not_any_not]
    simp
  rw [ea] at q
  walk_at "go"
  cases hany : rows.any fun r => boolD (arg 2 r) && !hasName vs (strD (arg 0 r)) with
  | true =>
    rw [hany] at q
    walk_at "go"
    exact q _ (by walk_at "ft")
  | false =>
  rw [hany] at q
  walk_at "go"
  refine w_dc ?_
  walk_at "go"
  refine w_dcT (DJ rows) (fun i kvs H H' t j n o => ⟨(j n o).1, fun v e => ((j n o).2 v e).mono t⟩) (show H2 p4 = some (.tup zs1) by walk_at "ft") (by omega) (fun H' n o => ⟨fun _ => rfl, fun v e => nomatch e⟩) ?step ?done
  case step =>
    intro i x H3 Nx hi g3 nx
    obtain ⟨rw0, hrw, hxf⟩ := hr4.get hi
    obtain ⟨n, sv1, b, rfl, hn, hsv⟩ := hrow rw0 (List.mem_of_getElem? hrw)
    obtain ⟨pf, fs, rfl, hpf, hrf⟩ := hxf.tupE
    cases hrf with
    | cons hn1 hrf =>
    cases hn1
    cases hrf with
    | cons hfx hrf =>
    cases hrf with
    | cons hb hrf =>
    cases hb
    cases hrf
    walk_at "go"
    exact nx _ _ fun kvs j => j.put hrw (by walk_at "ft")
  case done =>
  intro D3 kvs H3 hD3 g3 e3 j
  rw [lz1] at j
  unfold DJ at j
  rw [List.take_length] at j
  walk_at "go"
  refine w_lcT [] (fun i y _ => ∃ f, vs[i]? = some f ∧ y = .bl (valid k (inner rows (strD (arg 0 f)) o) (arg 1 f))) (fun _ _ _ _ _ h => h) (ianil _) (show H3 p3 = some (.tup zs) by walk_at "ft") (by omega) ?step ?done
  case step =>
    intro i x H4 Nx hi g4 nx
    obtain ⟨f, hf, hxf⟩ := hr3.get hi
    obtain ⟨n, fv, rfl, hn, hfv⟩ := hx f (List.mem_of_getElem? hf)
    obtain ⟨pf, fs, rfl, hpf, hrf⟩ := hxf.tupE
    cases hrf with
    | cons hn1 hrf =>
    cases hn1
    cases hrf with
    | cons hfx hrf =>
    cases hrf
    have e4 : H4 D3 = some (.dK kvs) := g4.k _ _ (by simp) e3
    walk_at "go"
    refine w_dget2 ?_
    walk_at "go"
    refine ⟨_, rfl, .inl ⟨kvs, .inl e4⟩, ?_⟩
    walk_at "go"
    refine ⟨_, DGet.k (k := .inr n) e4, ?_⟩
    obtain ⟨j1, j2⟩ := j n o
    have e : (arg 1 (PyData.tuple [.str n, fv])) = fv := rfl
    have e2 : strD (arg 0 (PyData.tuple [.str n, fv])) = n := rfl
    walk_at "go"
    cases ev2 : valV kvs (.inr n) with
    | none =>
      have ei := j1 ev2
      refine c_valid (s := o) (v := fv) (by show Rep H4 _ o; walk_at "ft") (by walk_at "ft") ho (gv_item (by omega) hfv) fun H5 g5 => ?_
      refine nx _ _ g5 ⟨_, hf, ?_⟩
      rw [e, e2, ei]
    | some u =>
      have hu := j2 u ev2
      refine c_valid (s := inner rows n o) (v := fv) (by show Rep H4 u _; walk_at "ft") (by walk_at "ft") (inner_ok hrow ho) (gv_item (by omega) hfv) fun H5 g5 => ?_
      exact nx _ _ g5 ⟨_, hf, rfl⟩
  case done =>
    intro D bs H4 hD g4 e hl2 hp
    walk_at "go"
    exact w_allF e (by omega) hp (q _ (by walk_at "ft"))
end
section
variable {P : Program} {w : World} {K : PySem.W.Frag} {mg : Str → Option Value} {base : Heap}
theorem D_is_valid_part {k j : Nat} (F : At K mg "is_valid_part" sis_valid_part ["schema", "value"]) (Tg : Glob mg)
    (Dis_valid : Def P w K mg base (j + 1) "is_valid" ["schema", "value"] (spValid k)) (Dis_valid_list : Def P w K mg base (j + 2) "is_valid_list" ["schema", "value"] (spValidList k))
    (Dis_valid_tuple : Def P w K mg base (j + 2) "is_valid_tuple" ["schema", "value"] (spValidTuple k)) (Dis_valid_object : Def P w K mg base (j + 2) "is_valid_object" ["schema", "value"] (spValidObject k)) :
    Def P w K mg base (j + 3) "is_valid_part" ["schema", "value"] (spValidPart k) := by
  refine F.def scis_valid_part (fun vs H Q E h => ?_) (fun f cdv A outer s H vs Q E hr h => ?_)
  · obtain ⟨x, y, ss, v, rfl, _⟩ := h
    rfl
  obtain ⟨x, y, ds, d, rfl, h1, h2, ok, hpart, gv, q⟩ := h
  have T := Tg
  refine ⟨_, (pss_cons (ps_set (i := 2) scis_valid_part.nd rfl (by first | exact .inl rfl | exact .inr rfl) (pe_ix (ix_tupK K) (pv 0) pe_int (fun _ _ => rfl)))
(pss_cons (ps_if (pt_cmpR op_eq (pv 2) pe_str (nomark _))
(pss_one (ps_ret (pe_callB (cr_anyK K rfl) (by rfl) T.n_any (by decide +kernel) (pa_cons (pe_lc (own := [("part", 3)]) rfl scis_valid_part.nd (pi_tupK K (pe_ix (ix_tupK K) (pv 0) pe_int (fun _ _ => rfl))) (blkOk_by (N := Nis_valid_part) (sc := defScope sis_valid_part) (by decide +kernel)) (fun _ _ _ _ _ => (pg_name (i := 3) scis_valid_part.nd rfl (by first | exact .inl rfl | exact .inr rfl))) (fun _ _ _ _ _ => pts_nil) (fun _ _ _ _ _ => (pe_def Dis_valid hr (by rfl) (pa_cons (pv 3) (pa_cons (pv 1) pa_nil))))) pa_nil))))
pss_nil)
(pss_cons (ps_if (pt_cmpR op_eq (pv 2) pe_str (nomark _))
(pss_one (ps_ret (pe_callB (cr_allK K rfl) (by rfl) T.n_all (by decide +kernel) (pa_cons (pe_lc (own := [("part", 3)]) rfl scis_valid_part.nd (pi_tupK K (pe_ix (ix_tupK K) (pv 0) pe_int (fun _ _ => rfl))) (blkOk_by (N := Nis_valid_part) (sc := defScope sis_valid_part) (by decide +kernel)) (fun _ _ _ _ _ => (pg_name (i := 3) scis_valid_part.nd rfl (by first | exact .inl rfl | exact .inr rfl))) (fun _ _ _ _ _ => pts_nil) (fun _ _ _ _ _ => (pe_def Dis_valid hr (by rfl) (pa_cons (pv 3) (pa_cons (pv 1) pa_nil))))) pa_nil))))
pss_nil)
(pss_cons (ps_if (pt_cmpR op_eq (pv 2) pe_str (nomark _))
(pss_one (ps_ret (pe_not (pe_def Dis_valid hr (by rfl) (pa_cons (pe_ix (ix_tupK K) (pv 0) pe_int (fun _ _ => rfl)) (pa_cons (pv 1) pa_nil))))))
pss_nil)
(pss_cons (ps_if (pt_cmpR op_eq (pv 2) pe_str (nomark _))
(pss_one (ps_ret (pe_def Dis_valid_list hr (by rfl) (pa_cons (pv 0) (pa_cons (pv 1) pa_nil)))))
pss_nil)
(pss_cons (ps_if (pt_cmpR op_eq (pv 2) pe_str (nomark _))
(pss_one (ps_ret (pe_def Dis_valid_tuple hr (by rfl) (pa_cons (pv 0) (pa_cons (pv 1) pa_nil)))))
pss_nil)
(pss_one (ps_ret (pe_def Dis_valid_object hr (by rfl) (pa_cons (pv 0) (pa_cons (pv 1) pa_nil))))))))))), ?_⟩
  walk_at "st"
  obtain ⟨wd, r, rfl, ss⟩ := ok.sh
  obtain ⟨p, xs, rfl, hp, hr1⟩ := h1.tg
  walk_at "go"
  refine w_iteEqS (fun c => ?_) (fun c1 => ?_)
  · subst c
    obtain ⟨es, rfl, hel, hes⟩ := ss.many (.inr (.inl rfl))
    cases hr1 with
    | cons hs hr1 =>
    cases hr1
    obtain ⟨p4, zs1, rfl, hp4, hr4⟩ := hs.tupE
    have lz1 : zs1.length = es.length := hr4.len
    walk_at "go"
    refine w_lcT [] (fun i y _ => ∃ e, es[i]? = some e ∧ y = .bl (valid k e d)) (fun _ _ _ _ _ h => h) (ianil _) (by walk_at "ft") (by omega) ?step ?done
    case step =>
      intro i x H1 Nx hi g1 nx
      obtain ⟨e, he, hxe⟩ := hr4.get hi
      walk_at "go"
      refine c_valid (by walk_at "ft") (by walk_at "ft") (hes e (List.mem_of_getElem? he)) gv fun H2 g2 => ?_
      exact nx _ _ g2 ⟨e, he, rfl⟩
    case done =>
      intro D bs H2 hD g2 e hl2 hp
      walk_at "go"
      exact w_anyF e (by omega) hp (q _ g2)
  walk_at "go"
  refine w_iteEqS (fun c => ?_) (fun c2 => ?_)
  · subst c
    obtain ⟨es, rfl, hel, hes⟩ := ss.many (.inr (.inr rfl))
    cases hr1 with
    | cons hs hr1 =>
    cases hr1
    obtain ⟨p4, zs1, rfl, hp4, hr4⟩ := hs.tupE
    have lz1 : zs1.length = es.length := hr4.len
    walk_at "go"
    refine w_lcT [] (fun i y _ => ∃ e, es[i]? = some e ∧ y = .bl (valid k e d)) (fun _ _ _ _ _ h => h) (ianil _) (by walk_at "ft") (by omega) ?step ?done
    case step =>
      intro i x H1 Nx hi g1 nx
      obtain ⟨e, he, hxe⟩ := hr4.get hi
      walk_at "go"
      refine c_valid (by walk_at "ft") (by walk_at "ft") (hes e (List.mem_of_getElem? he)) gv fun H2 g2 => ?_
      exact nx _ _ g2 ⟨e, he, rfl⟩
    case done =>
      intro D bs H2 hD g2 e hl2 hp
      walk_at "go"
      exact w_allF e (by omega) hp (q _ g2)
  walk_at "go"
  refine w_iteEqS (fun c => ?_) (fun c3 => ?_)
  · subst c
    obtain ⟨e, rfl, he⟩ := ss.neg rfl
    cases hr1 with
    | cons hs hr1 =>
    cases hr1
    walk_at "go"
    refine c_valid (by walk_at "ft") (by walk_at "ft") he gv fun H2 g2 => ?_
    walk_at "go"
    exact q _ g2
  walk_at "go"
  refine w_iteEqS (fun c => ?_) (fun c4 => ?_)
  · subst c
    obtain ⟨e, lo, hi, rfl, he, hc⟩ := ss.list rfl
    walk_at "go"
    exact ⟨_, _, e, lo, hi, d, rfl, h1, h2, he, hc, gv, fun H' g' => q H' g'⟩
  walk_at "go"
  refine w_iteEqS (fun c => ?_) (fun c5 => ?_)
  · subst c
    obtain ⟨es, rfl, hel, hes⟩ := ss.many (.inl rfl)
    walk_at "go"
    exact ⟨_, _, es, d, rfl, h1, h2, hel, hes, gv, fun H' g' => q H' g'⟩
  walk_at "go"
  have c6 : wd = "object" := by
    rcases hpart with z | z | z | z | z | z
    · exact absurd z c4
    · exact absurd z c5
    · exact absurd z c1
    · exact absurd z c2
    · exact absurd z c3
    · exact z
  subst c6
  obtain ⟨rows, o, rfl, hel, hrs, ho⟩ := ss.object rfl
  exact ⟨_, _, rows, o, d, rfl, h1, h2, hel, hrs, ho, gv, fun H' g' => q H' g'⟩
end
section
variable {P : Program} {w : World} {K : PySem.W.Frag} {mg : Str → Option Value} {base : Heap}
theorem D_is_valid {k j : Nat} (F : At K mg "is_valid" sis_valid ["schema", "value"]) (Tg : Glob mg) (Dis_within : Def P w K mg base 1 "is_within" ["count", "low", "high"] spWithin)
    (Dis_valid_part : Def P w K mg base (j + 1) "is_valid_part" ["schema", "value"] (spValidPart k)) :
    Def P w K mg base (j + 2) "is_valid" ["schema", "value"] (spValid (k + 1)) := by
  refine F.def scis_valid (fun vs H Q E h => ?_) (fun f cdv A outer s H vs Q E hr h => ?_)
  · obtain ⟨x, y, ss, v, rfl, _⟩ := h
    rfl
  obtain ⟨x, y, ds, d, rfl, h1, h2, ok, gv, q⟩ := h
  have T := Tg
  refine ⟨_, (pss_cons (ps_set (i := 2) scis_valid.nd rfl (by first | exact .inl rfl | exact .inr rfl) (pe_ix (ix_tupK K) (pv 0) pe_int (fun _ _ => rfl)))
(pss_cons (ps_if (pt_cmpR op_eq (pv 2) pe_str (nomark _))
(pss_one (ps_ret pe_bl))
pss_nil)
(pss_cons (ps_if (pt_cmpR op_eq (pv 2) pe_str (nomark _))
(pss_one (ps_ret pe_bl))
pss_nil)
(pss_cons (ps_if (PW.pt (pw_or (pt_cmpR op_eq (pv 2) pe_str (nomark _)) (pw_or1 (pt_cmpR op_eq (pv 2) pe_str (nomark _)))))
(pss_one (ps_ret (pe_cmpR op_eq (pe_ix (ix_tupK K) (pv 1) pe_int (fun _ _ => rfl)) (pv 2) (nomark _))))
pss_nil)
(pss_cons (ps_if (pt_cmpR op_eq (pv 2) pe_str (nomark _))
(pss_one (ps_ret (pe_and (pe_cmpR op_eq (pe_ix (ix_tupK K) (pv 1) pe_int (fun _ _ => rfl)) pe_str (nomark _)) (pe_one (pe_def Dis_within hr (by rfl) (pa_cons (pe_ix (ix_tupK K) (pv 1) pe_int (fun _ _ => rfl)) (pa_cons (pe_ix (ix_tupK K) (pv 0) pe_int (fun _ _ => rfl)) (pa_cons (pe_ix (ix_tupK K) (pv 0) pe_int (fun _ _ => rfl)) pa_nil))))))))
pss_nil)
(pss_cons (ps_if (pt_cmpR op_eq (pv 2) pe_str (nomark _))
(pss_one (ps_ret (pe_and (pe_cmpR op_eq (pe_ix (ix_tupK K) (pv 1) pe_int (fun _ _ => rfl)) pe_str (nomark _)) (pe_one (pe_def Dis_within hr (by rfl) (pa_cons (pe_callB (call_lenK K) (by rfl) T.n_len (by decide +kernel) (pa_cons (pe_ix (ix_tupK K) (pv 1) pe_int (fun _ _ => rfl)) pa_nil)) (pa_cons (pe_ix (ix_tupK K) (pv 0) pe_int (fun _ _ => rfl)) (pa_cons (pe_ix (ix_tupK K) (pv 0) pe_int (fun _ _ => rfl)) pa_nil))))))))
pss_nil)
(pss_cons (ps_if (pt_cmpR op_eq (pv 2) pe_str (nomark _))
(pss_one (ps_ret (pe_cmpR (op_eqDK K hr.units) (pv 1) (pe_ix (ix_tupK K) (pv 0) pe_int (fun _ _ => rfl)) (nomark _))))
pss_nil)
(pss_one (ps_ret (pe_def Dis_valid_part hr (by rfl) (pa_cons (pv 0) (pa_cons (pv 1) pa_nil)))))))))))), ?_⟩
  walk_at "st"
  obtain ⟨wd, r, rfl, ss⟩ := ok.sh
  obtain ⟨p, xs, rfl, hp, hr1⟩ := h1.tg
  obtain ⟨wv, rv, rfl, sv⟩ := gv.sh
  obtain ⟨p2, ys, rfl, hp2, hr2⟩ := h2.tg
  walk_at "go"
  refine w_iteEqS (fun c => ?_) (fun c1 => ?_)
  · subst c
    walk_at "go"
    exact q _ (G.refl _ _)
  walk_at "go"
  refine w_iteEqS (fun c => ?_) (fun c2 => ?_)
  · subst c
    walk_at "go"
    exact q _ (G.refl _ _)
  walk_at "go"
  have nb : wd = "null" ∨ wd = "bool" → Q (.bl (decide (V.str wv = V.str wd))) H := fun c => by
    have z := q _ (G.refl _ _)
    have e : valid (k + 1) (tg wd r) (tg wv rv) = decide (V.str wv = V.str wd) := by
      unfold valid
      rw [word_tg, word_tg, if_neg c1, if_neg c2, if_pos c, dec_str]
    rw [e] at z
    exact z
  refine w_iteEqS (fun c => ?_) (fun c3 => ?_)
  · walk_at "go"
    exact nb (.inl c)
  walk_at "go"
  refine w_iteEqS (fun c => ?_) (fun c4 => ?_)
  · walk_at "go"
    exact nb (.inr c)
  walk_at "go"
  refine w_iteEqS (fun c => ?_) (fun c5 => ?_)
  · subst c
    obtain ⟨lo, hi, rfl, hlo, hhi⟩ := ss.int rfl
    cases hr1 with
    | cons hs1 hr1 =>
    cases hr1 with
    | cons hs2 hr1 =>
    cases hr1
    walk_at "go"
    refine w_iteEqS (fun c => ?_) (fun c => ?_)
    · subst c
      obtain ⟨i, rfl⟩ := sv.int rfl
      cases hr2 with
      | cons hv hnil =>
      cases hnil
      cases hv
      walk_at "go"
      refine c_within hs1 hs2 hlo.oi hhi.oi ?_
      exact q _ (G.refl _ _)
    · have e : valid (k + 1) (tg "int" [lo, hi]) (tg wv rv) = false := by
        show (decide (wv = "int") && _) = false
        rw [decide_eq_false c]
        rfl
      rw [e] at q
      exact q _ (G.refl _ _)
  walk_at "go"
  refine w_iteEqS (fun c => ?_) (fun c6 => ?_)
  · subst c
    obtain ⟨lo, hi, rfl, hlo⟩ := ss.text rfl
    cases hr1 with
    | cons hs1 hr1 =>
    cases hr1 with
    | cons hs2 hr1 =>
    cases hr1
    walk_at "go"
    refine w_iteEqS (fun c => ?_) (fun c => ?_)
    · subst c
      obtain ⟨z, rfl, hz⟩ := sv.text rfl
      cases hr2 with
      | cons hv hnil =>
      cases hnil
      cases hv
      walk_at "go"
      refine w_lenS (Nat.le_trans hz.1 (by decide)) ?_
      walk_at "go"
      refine c_within hs1 hs2 hlo.oi.1 hlo.oi.2 ?_
      exact q _ (G.refl _ _)
    · have e : valid (k + 1) (tg "text" [lo, hi]) (tg wv rv) = false := by
        show (decide (wv = "text") && _) = false
        rw [decide_eq_false c]
        rfl
      rw [e] at q
      exact q _ (G.refl _ _)
  walk_at "go"
  refine w_iteEqS (fun c => ?_) (fun c7 => ?_)
  · subst c
    obtain ⟨v, rfl, hv⟩ := ss.const rfl
    cases hr1 with
    | cons hs1 hr1 =>
    cases hr1
    walk_at "go"
    exact ⟨_, _, h2.dp, hs1.dp, shaped_gv gv, shaped_gv (OkV.mono (by decide) (by decide) hv), q _ (G.refl _ _)⟩
  walk_at "go"
  refine ⟨_, _, _, _, rfl, h1, h2, ok, ?_, gv, fun H' g' => q H' g'⟩
  rcases ss.one with z | z | z | z | z | z | z | z | z | z | z | z | z
  · exact absurd z c1
  · exact absurd z c2
  · exact absurd z c3
  · exact absurd z c4
  · exact absurd z c5
  · exact absurd z c6
  · exact absurd z c7
  · exact .inl z
  · exact .inr (.inl z)
  · exact .inr (.inr (.inl z))
  · exact .inr (.inr (.inr (.inl z)))
  · exact .inr (.inr (.inr (.inr (.inl z))))
  · exact .inr (.inr (.inr (.inr (.inr z))))
end
end
/-! ### children, places -/
def OkT (t : PyData) : Prop := (∃ i, t = .int i) ∨ ∃ s, t = .str s ∧ OkS s
def childD (d t : PyData) : Option PyData :=
  if word d = "list" then (match t with | .int i => if 0 ≤ i ∧ i < ((args (arg 1 d)).length : Nat) then (args (arg 1 d))[i.toNat]? else none | _ => none)
  else if word d = "object" then (match t with | .str s => ((args (arg 1 d)).find? fun f => decide (strD (arg 0 f) = s)).map (arg 1) | _ => none)
  else none
def RepO (H : Hp) (v : V) : Option PyData → Prop
  | none => v = .non
  | some d => Rep H v d
theorem RepO.mono {H H' : Hp} {v : V} (t : T H H') : ∀ {o : Option PyData}, RepO H v o → RepO H' v o
  | none, h => h
  | some _, h => Rep.mono t h
def lookupD (d : PyData) (ts : List PyData) : Option PyData := ts.foldl (fun o t => o.bind fun x => childD x t) (some d)
/-- what the child of a value is -/
theorem child_cases {N k : Nat} {d t c : PyData} (h : OkV N k d) (e : childD d t = some c) :
    ∃ k', k = k' + 1 ∧ OkV N k' c ∧ ((∃ xs i, d = tg "list" [.tuple xs] ∧ t = .int i ∧ 0 ≤ i ∧ i < (xs.length : Nat) ∧ xs.length ≤ N ∧ ∀ x ∈ xs, OkV N k' x) ∨
      ∃ fs s, d = tg "object" [.tuple fs] ∧ t = .str s ∧ fs.length ≤ N ∧ ∀ f ∈ fs, OkF N k' f) := by
  obtain ⟨w, r, rfl, sh⟩ := h.sh
  unfold childD at e
  rw [word_tg] at e
  by_cases c1 : w = "list"
  · subst c1
    rw [if_pos rfl] at e
    obtain ⟨k', xs, rfl, rfl, hl, hx⟩ := sh.list rfl
    cases t with
    | int i =>
      have e : (if 0 ≤ i ∧ i < (xs.length : Nat) then xs[i.toNat]? else none) = some c := e
      by_cases ci : 0 ≤ i ∧ i < (xs.length : Nat)
      · rw [if_pos ci] at e
        exact ⟨k', rfl, hx c (List.mem_of_getElem? e), .inl ⟨xs, i, rfl, rfl, ci.1, ci.2, hl, hx⟩⟩
      · rw [if_neg ci] at e
        cases e
    | _ => cases e
  · rw [if_neg c1] at e
    by_cases c2 : w = "object"
    · subst c2
      rw [if_pos rfl] at e
      obtain ⟨k', fs, rfl, rfl, hl, hf⟩ := sh.object rfl
      cases t with
      | str s =>
        have e : ((fs.find? fun f => decide (strD (arg 0 f) = s)).map (arg 1)) = some c := e
        cases hfi : fs.find? fun f => decide (strD (arg 0 f) = s) with
        | none =>
          rw [hfi] at e
          cases e
        | some f =>
          rw [hfi] at e
          have e2 : arg 1 f = c := Option.some.inj e
          obtain ⟨n, x, rfl, hn, hx⟩ := hf f (List.mem_of_find?_eq_some hfi)
          have e3 : x = c := e2
          subst e3
          exact ⟨k', rfl, hx, .inr ⟨fs, s, rfl, rfl, hl, hf⟩⟩
      | _ => cases e
    · rw [if_neg c2] at e
      cases e
theorem lookup_ok {N k : Nat} : ∀ (ts : List PyData) (d : PyData), OkV N k d → ∀ c, lookupD d ts = some c → OkV N k c := by
  intro ts
  induction ts with
  | nil =>
    intro d h c e
    cases e
    exact h
  | cons t ts ih =>
    intro d h c e
    unfold lookupD at e
    rw [List.foldl_cons] at e
    cases hc : childD d t with
    | none =>
      have e : ts.foldl (fun o t => o.bind fun x => childD x t) ((some d).bind fun x => childD x t) = some c := e
      rw [show ((some d).bind fun x => childD x t) = none from hc] at e
      have no : ∀ l : List PyData, l.foldl (fun o t => o.bind fun x => childD x t) (none : Option PyData) = none := fun l => by
        induction l with
        | nil => rfl
        | cons _ _ ih => exact ih
      rw [no] at e
      cases e
    | some x =>
      have e : ts.foldl (fun o t => o.bind fun x => childD x t) ((some d).bind fun x => childD x t) = some c := e
      rw [show ((some d).bind fun x => childD x t) = some x from hc] at e
      obtain ⟨k', rfl, hx, _⟩ := child_cases h hc
      exact ih x (OkV.mono (Nat.le_refl _) (by omega) hx) c e
theorem lookup_snoc (d : PyData) (ts : List PyData) (t : PyData) : lookupD d (ts ++ [t]) = (lookupD d ts).bind fun x => childD x t := by
  unfold lookupD
  rw [List.foldl_append]
  rfl
def spChild : Sp := fun vs H Q _ => ∃ (x y : V) (d t : PyData) (N k : Nat), vs = [x, y] ∧ Rep H x d ∧ OkV N k d ∧ Rep H y t ∧ OkT t ∧ ∀ v H', G [] H H' → RepO H' v (childD d t) → Q v H'
theorem c_child {H : Hp} {Q : VK} {E : XK} {x y : V} {d t : PyData} {N k : Nat} (h1 : Rep H x d) (h2 : OkV N k d) (h3 : Rep H y t) (h4 : OkT t) (q : ∀ v H', G [] H H' → RepO H' v (childD d t) → Q v H') : spChild [x, y] H Q E := ⟨x, y, d, t, N, k, rfl, h1, h2, h3, h4, q⟩
def spLookup : Sp := fun vs H Q _ => ∃ (x y : V) (d : PyData) (ts : List PyData) (N k : Nat), vs = [x, y] ∧ Rep H x d ∧ OkV N k d ∧ Rep H y (.tuple ts) ∧ (∀ t ∈ ts, OkT t) ∧ ∀ v H', G [] H H' → RepO H' v (lookupD d ts) → Q v H'
theorem c_lookup {H : Hp} {Q : VK} {E : XK} {x y : V} {d : PyData} {ts : List PyData} {N k : Nat} (h1 : Rep H x d) (h2 : OkV N k d) (h3 : Rep H y (.tuple ts)) (h4 : ∀ t ∈ ts, OkT t) (q : ∀ v H', G [] H H' → RepO H' v (lookupD d ts) → Q v H') : spLookup [x, y] H Q E := ⟨x, y, d, ts, N, k, rfl, h1, h2, h3, h4, q⟩
/-- the parts of a list, of an object -/
def Cont (N k : Nat) (w : Str) (xs : List PyData) : Prop := (w = "list" ∧ ∀ x ∈ xs, OkV N k x) ∨ (w = "object" ∧ ∀ x ∈ xs, OkF N k x)
theorem Cont.ok {N k : Nat} {w : Str} {xs : List PyData} (h : Cont N k w xs) (hl : xs.length ≤ N) : OkV N (k + 1) (tg w [.tuple xs]) := by
  rcases h with ⟨rfl, h⟩ | ⟨rfl, h⟩
  · exact OkV.list hl h
  · exact OkV.object hl h
/-- a token that leads somewhere (a name always) -/
def Lead (w : Str) (xs : List PyData) (t : PyData) : Prop := (w = "list" ∧ ∃ i : Int, t = .int i ∧ 0 ≤ i ∧ i < (xs.length : Nat)) ∨ (w = "object" ∧ ∃ s, t = .str s ∧ OkS s)
def spWith : Sp := fun vs H Q _ => ∃ (x y z : V) (w : Str) (xs : List PyData) (t n : PyData) (N k : Nat), vs = [x, y, z] ∧ Rep H x (tg w [.tuple xs]) ∧ Cont N k w xs ∧ xs.length ≤ 5000 ∧ Rep H y t ∧ Lead w xs t ∧ Rep H z n ∧ OkV N k n ∧
  ∀ v H' ys, G [] H H' → Rep H' v (tg w [.tuple ys]) → Cont N k w ys → ys.length ≤ xs.length + 1 → Q v H'
theorem c_with {H : Hp} {Q : VK} {E : XK} {x y z : V} {w : Str} {xs : List PyData} {t n : PyData} {N k : Nat} (h1 : Rep H x (tg w [.tuple xs])) (h2 : Cont N k w xs) (h3 : xs.length ≤ 5000) (h4 : Rep H y t) (h5 : Lead w xs t) (h6 : Rep H z n) (h7 : OkV N k n)
    (q : ∀ v H' ys, G [] H H' → Rep H' v (tg w [.tuple ys]) → Cont N k w ys → ys.length ≤ xs.length + 1 → Q v H') : spWith [x, y, z] H Q E := ⟨x, y, z, w, xs, t, n, N, k, rfl, h1, h2, h3, h4, h5, h6, h7, q⟩
/-- a value or None -/
def OptV (N k : Nat) (H : Hp) (v : V) : Prop := v = .non ∨ ∃ d, Rep H v d ∧ OkV N k d
theorem OptV.mono {N k : Nat} {H H' : Hp} {v : V} (t : T H H') (h : OptV N k H v) : OptV N k H' v := by
  rcases h with h | ⟨d, h, o⟩
  · exact .inl h
  · exact .inr ⟨d, h.mono t, o⟩
/-- L: the length of the path -/
def spReplace (L : Nat) : Sp := fun vs H Q _ => ∃ (x y z : V) (d : PyData) (ts : List PyData) (n : PyData) (N k m : Nat), vs = [x, y, z] ∧ Rep H x d ∧ OkV N k d ∧ N ≤ 4000 ∧ Rep H y (.tuple ts) ∧ (∀ t ∈ ts, OkT t) ∧ ts.length ≤ L ∧ Rep H z n ∧ OkV N m n ∧ m + L ≤ k ∧
  ∀ v H', G [] H H' → OptV (N + 1) k H' v → Q v H'
theorem c_replace {H : Hp} {Q : VK} {E : XK} {L : Nat} {x y z : V} {d : PyData} {ts : List PyData} {n : PyData} {N k m : Nat} (h1 : Rep H x d) (h2 : OkV N k d) (h3 : N ≤ 4000) (h4 : Rep H y (.tuple ts)) (h5 : ∀ t ∈ ts, OkT t) (h6 : ts.length ≤ L) (h7 : Rep H z n) (h8 : OkV N m n) (h9 : m + L ≤ k)
    (q : ∀ v H', G [] H H' → OptV (N + 1) k H' v → Q v H') : spReplace L [x, y, z] H Q E := ⟨x, y, z, d, ts, n, N, k, m, rfl, h1, h2, h3, h4, h5, h6, h7, h8, h9, q⟩
def spPut : Sp := fun vs H Q _ => ∃ (x y z : V) (d : PyData) (ts : List PyData) (n : PyData) (N k : Nat), vs = [x, y, z] ∧ Rep H x d ∧ OkV N k d ∧ N ≤ 3000 ∧ Rep H y (.tuple ts) ∧ (∀ t ∈ ts, OkT t) ∧ ts.length ≤ 4 ∧ Rep H z n ∧ OkL n ∧
  ∀ v H', G [] H H' → OptV (N + 2) (k + 4) H' v → Q v H'
theorem c_put {H : Hp} {Q : VK} {E : XK} {x y z : V} {d : PyData} {ts : List PyData} {n : PyData} {N k : Nat} (h1 : Rep H x d) (h2 : OkV N k d) (h3 : N ≤ 3000) (h4 : Rep H y (.tuple ts)) (h5 : ∀ t ∈ ts, OkT t) (h6 : ts.length ≤ 4) (h7 : Rep H z n) (h8 : OkL n)
    (q : ∀ v H', G [] H H' → OptV (N + 2) (k + 4) H' v → Q v H') : spPut [x, y, z] H Q E := ⟨x, y, z, d, ts, n, N, k, rfl, h1, h2, h3, h4, h5, h6, h7, h8, q⟩
def spTake : Sp := fun vs H Q _ => ∃ (x y : V) (d : PyData) (ts : List PyData) (N k : Nat), vs = [x, y] ∧ Rep H x d ∧ OkV N k d ∧ N ≤ 3000 ∧ Rep H y (.tuple ts) ∧ (∀ t ∈ ts, OkT t) ∧ ts.length ≤ 4 ∧
  ∀ v H', G [] H H' → OptV (N + 2) (k + 4) H' v → Q v H'
theorem c_take {H : Hp} {Q : VK} {E : XK} {x y : V} {d : PyData} {ts : List PyData} {N k : Nat} (h1 : Rep H x d) (h2 : OkV N k d) (h3 : N ≤ 3000) (h4 : Rep H y (.tuple ts)) (h5 : ∀ t ∈ ts, OkT t) (h6 : ts.length ≤ 4)
    (q : ∀ v H', G [] H H' → OptV (N + 2) (k + 4) H' v → Q v H') : spTake [x, y] H Q E := ⟨x, y, d, ts, N, k, rfl, h1, h2, h3, h4, h5, h6, q⟩
/-- the law's own validity -/
def spFieldsValid (k : Nat) : Sp := fun vs H Q _ => ∃ (x y : V) (rows : List PyData) (o : PyData) (fs : List PyData) (k' : Nat), vs = [x, y] ∧ Rep H x (tg "object" [.tuple rows, o]) ∧ rows.length ≤ 20 ∧ (∀ r ∈ rows, OkR k r) ∧ OkSch k o ∧ Rep H y (.tuple fs) ∧ fs.length ≤ 2000 ∧ (∀ f ∈ fs, OkF 2000 k' f) ∧ k' + 1 ≤ 12 ∧
  ∀ H', G [] H H' → Q (.bl ((rows.all fun r => !(boolD (arg 2 r) && !hasName fs (strD (arg 0 r)))) && fs.all fun f => valid k (inner rows (strD (arg 0 f)) o) (arg 1 f))) H'

theorem childD_li {xs : List PyData} {i : Int} : childD (tg "list" [.tuple xs]) (.int i) = if 0 ≤ i ∧ i < (xs.length : Nat) then xs[i.toNat]? else none := by
  unfold childD
  rw [word_tg, if_pos rfl]
  rfl
theorem childD_ls {r : List PyData} {s : Str} : childD (tg "list" r) (.str s) = none := by
  unfold childD
  rw [word_tg, if_pos rfl]
theorem childD_oi {r : List PyData} {i : Int} : childD (tg "object" r) (.int i) = none := by
  unfold childD
  rw [word_tg, if_neg (by decide +kernel), if_pos rfl]
theorem childD_os {fs : List PyData} {s : Str} : childD (tg "object" [.tuple fs]) (.str s) = (fs.find? fun f => decide (strD (arg 0 f) = s)).map (arg 1) := by
  unfold childD
  rw [word_tg, if_neg (by decide +kernel), if_pos rfl]
  rfl
theorem childD_no {w : Str} {r : List PyData} {t : PyData} (h1 : w ≠ "list") (h2 : w ≠ "object") : childD (tg w r) t = none := by
  unfold childD
  rw [word_tg, if_neg h1, if_neg h2]
theorem find_at {α : Type} {l : List α} {i : Nat} {x : α} {P : α → Bool} (h : l[i]? = some x) (h0 : (l.take i).find? P = none) (hx : P x = true) : l.find? P = some x := by
  obtain ⟨hi, e⟩ := List.getElem?_eq_some_iff.mp h
  have e2 : l = l.take i ++ x :: l.drop (i + 1) := by
    rw [← e, ← List.drop_eq_getElem_cons hi, List.take_append_drop]
  rw [e2, List.find?_append, h0, List.find?_cons, hx]
  rfl
theorem find_next {α : Type} {l : List α} {i : Nat} {x : α} {P : α → Bool} (h : l[i]? = some x) (h0 : (l.take i).find? P = none) (hx : P x = false) : (l.take (i + 1)).find? P = none := by
  rw [List.take_add_one, h, List.find?_append, h0]
  show (none : Option α).or ([x].find? P) = none
  rw [List.find?_cons, hx]
  rfl

/-! ### filters -/
section
variable {K : PySem.W.Frag} {A : List (Addr × Nat)} {σ : L2.St} {H H' : Hp} {tt : TT} {te : TE} {g : TG} {vs : List Nat} {p : Addr} {xs : List V}
theorem w_lcFil {Qd : Addr → Hp → Prop} (f : V → Bool) (ha : H p = some (.tup xs)) (hl : xs.length ≤ 100000)
    (step : ∀ (i : Nat) (x : V) (H1 : Hp) (Nx : VK) (No : Hp → Prop), xs[i]? = some x → G [] H H1 → (f x = true → Nx x H1) → (f x = false → No H1) → g x (wipe σ vs) H1 fun σ2 H2 => wipe σ2 vs = wipe σ vs ∧ tt σ2 H2 fun b H3 => if b = true then te σ2 H3 Nx else No H3)
    (done : ∀ D H', H D = none → G [] H H' → H' D = some (.lst (xs.filter f)) → Qd D H') :
    ∃ a, V.ref p = .ref a ∧ (∃ xs, SqT K H a xs) ∧ ∀ D, H D = none → ∃ W : Nat → Nat → Hp → Prop, (∃ m, W 0 m (upd H D (.lst []))) ∧ ∀ i m H, W i m H →
      ((Itt K a).stop i H ∧ Qd D H) ∨ ((Itt K a).go i H ∧ ∃ Nx : Hp → Prop, (∀ H', Nx H' → ∃ m', m' < m ∧ W (i + 1) m' H') ∧ ∀ x H', (Itt K a).yld i H x H' → g x (wipe σ vs) H' fun σ2 H2 => wipe σ2 vs = wipe σ vs ∧ tt σ2 H2 fun b H3 =>
        if b = true then te σ2 H3 fun y H4 => ∃ acc, H4 D = some (.lst acc) ∧ acc.length < sizeLine ∧ Nx (upd H4 D (.lst (acc ++ [y]))) else Nx H3) := by
  refine ⟨p, rfl, ⟨xs, SqT.of ha⟩, fun D hD => ?_⟩
  refine lc_tup (xs := xs) (fun i H1 => G [] H H1 ∧ H1 D = some (.lst ((xs.take i).filter f))) ⟨G.new hD, upd_same⟩ (fun i H1 _ q => SqT.of (q.1.t _ _ ha)) (fun i x H1 hi q => ?_) fun H1 q => ?_
  · have hi2 := (List.getElem?_eq_some_iff.mp hi).1
    have et : xs.take (i + 1) = xs.take i ++ [x] := by rw [List.take_add_one, hi]; rfl
    refine step i x H1 _ _ hi q.1 (fun hf => ?_) fun hf => ?_
    · refine ⟨_, q.2, ?_, q.1.mut hD, ?_⟩
      · have h1 := List.length_filter_le f (xs.take i)
        rw [List.length_take] at h1
        exact Nat.lt_of_lt_of_le (by omega : ((xs.take i).filter f).length < 100000) (by decide)
      · rw [upd_same, et, List.filter_append, List.filter_cons, if_pos hf, List.filter_nil]
    · refine ⟨q.1, ?_⟩
      rw [et, List.filter_append, List.filter_cons, if_neg (by rw [hf]; decide), List.filter_nil, List.append_nil]
      exact q.2
  · have q2 := q.2
    rw [List.take_length] at q2
    exact done D H1 hD q.1 q2
end
theorem filter_two {α : Type} (p q : α → Bool) (h : ∀ x, p x = true → q x = true → False) : ∀ l : List α, (l.filter p).length + (l.filter q).length ≤ l.length
  | [] => Nat.le_refl _
  | x :: l => by
    have ih := filter_two p q h l
    rw [List.filter_cons, List.filter_cons]
    cases hp : p x with
    | true =>
      cases hq : q x with
      | true => exact (h x hp hq).elim
      | false =>
        simp only [if_true, Bool.false_eq_true, if_false, List.length_cons]
        omega
    | false =>
      cases hq : q x with
      | true =>
        simp only [if_true, Bool.false_eq_true, if_false, List.length_cons]
        omega
      | false =>
        simp only [Bool.false_eq_true, if_false, List.length_cons]
        omega
/-- the first part of the tuple at v, a name -/
def nm (H : Hp) (v : V) : Str :=
  match v with
  | .ref q => (match H q with
    | some (.tup (.str n :: _)) => n
    | _ => Str.empty)
  | _ => Str.empty
theorem nm_at {H : Hp} {q : Addr} {n : Str} {r : List V} (h : H q = some (.tup (.str n :: r))) : nm H (.ref q) = n := by
  unfold nm
  simp only [h]
theorem rep_tg1 {H : Hp} {p q : Addr} {w : Str} {xs : List V} {ds : List PyData} (hp : H p = some (.tup [.str w, .ref q])) (hq : H q = some (.tup xs)) (hr : Reps H xs ds) : Rep H (.ref p) (tg w [.tuple ds]) :=
  .tup hp (.cons (.str _) (.cons (.tup hq hr) .nil))
theorem rep_pair {H : Hp} {p : Addr} {n : Str} {v : V} {d : PyData} (hp : H p = some (.tup [.str n, v])) (hr : Rep H v d) : Rep H (.ref p) (.tuple [.str n, d]) :=
  .tup hp (.cons (.str _) (.cons hr .nil))

theorem Reps.snoc {H : Hp} : ∀ {zs : List V} {ts : List PyData}, Reps H zs ts → ts ≠ [] → ∃ zi zl ti tl, zs = zi ++ [zl] ∧ ts = ti ++ [tl] ∧ Reps H zi ti ∧ Rep H zl tl
  | _, _, .nil, h => absurd rfl h
  | _, _, .cons (vs := []) hv hr, _ => by
    cases hr
    exact ⟨[], _, [], _, rfl, rfl, .nil, hv⟩
  | _, _, .cons (v := v) (d := d) (vs := w :: vs) hv hr, _ => by
    obtain ⟨zi, zl, ti, tl, e1, e2, h1, h2⟩ := Reps.snoc hr (by cases hr; simp)
    exact ⟨v :: zi, zl, d :: ti, tl, by rw [e1]; rfl, by rw [e2]; rfl, .cons hv h1, h2⟩
theorem atI_end {xs : List V} {x : V} : atI (xs ++ [x]) (-1) = some x := by
  unfold atI ixN
  rw [if_neg (by decide), if_pos (by rw [List.length_append, List.length_singleton]; omega)]
  show (xs ++ [x])[((-1 : Int) + ((xs ++ [x]).length : Nat)).toNat]? = some x
  have e : ((-1 : Int) + ((xs ++ [x]).length : Nat)).toNat = xs.length := by
    rw [List.length_append, List.length_singleton]
    omega
  rw [e, List.getElem?_append_right (Nat.le_refl _), Nat.sub_self]
  rfl
theorem ok_nn {N k : Nat} {H : Hp} {v : V} {d : PyData} (h : Rep H v d) (o : OkV N k d) : v ≠ .non := fun e => by
  obtain ⟨wd, r, rfl, sv⟩ := o.sh
  obtain ⟨p, xs, e2, _⟩ := h.tg
  rw [e] at e2
  cases e2
theorem Cont.of {N N' k : Nat} {w : Str} {r : List PyData} (o : OkV N k (tg w r)) (hw : w = "list" ∨ w = "object") (h : N ≤ N') : ∃ k' xs, k = k' + 1 ∧ r = [.tuple xs] ∧ xs.length ≤ N ∧ Cont N' k' w xs := by
  obtain ⟨w', r', e, sh⟩ := o.sh
  cases e
  rcases hw with rfl | rfl
  · obtain ⟨k', xs, rfl, rfl, hl, hx⟩ := sh.list rfl
    exact ⟨k', xs, rfl, rfl, hl, .inl ⟨rfl, fun x m => OkV.mono h (Nat.le_refl _) (hx x m)⟩⟩
  · obtain ⟨k', xs, rfl, rfl, hl, hx⟩ := sh.object rfl
    refine ⟨k', xs, rfl, rfl, hl, .inr ⟨rfl, fun x m => ?_⟩⟩
    obtain ⟨n, y, e, hn, hy⟩ := hx x m
    exact ⟨n, y, e, hn, OkV.mono h (Nat.le_refl _) hy⟩

theorem Reps.cut {H : Hp} {zs : List V} {ds : List PyData} (h : Reps H zs ds) (lo hi : Option Int) : ∃ es, Reps H (cutV zs lo hi) es ∧ (∀ d ∈ es, d ∈ ds) ∧ es.length = (cutV zs lo hi).length :=
  ⟨_, (h.drop _).take _, fun _ hd => List.mem_of_mem_drop (List.mem_of_mem_take hd), ((h.drop _).take _).len.symm⟩
theorem cut_part (zs : List V) (i : Int) : (cutV zs none (some i)).length + (cutV zs (some i) none).length = zs.length := by
  have h := HT.sIx_le zs.length 0 (Nat.zero_le _) (some i)
  have e : HT.sIx zs.length zs.length (some i) = HT.sIx zs.length 0 (some i) := rfl
  unfold cutV
  rw [HT.sIx_none, HT.sIx_none, List.length_take, List.length_take, List.length_drop, List.length_drop, e]
  omega

def spFlag : Sp := fun vs H Q _ => ∃ a : Bool, vs = [.bl a, .bl a] ∧ Q (.bl true) H
theorem c_flag {H : Hp} {Q : VK} {E : XK} {a : Bool} (q : Q (.bl true) H) : spFlag [.bl a, .bl a] H Q E := ⟨a, rfl, q⟩
theorem c_fields {H : Hp} {Q : VK} {E : XK} {k : Nat} {x y : V} {rows : List PyData} {o : PyData} {fs : List PyData} {k' : Nat} (h1 : Rep H x (tg "object" [.tuple rows, o])) (h2 : rows.length ≤ 20) (h3 : ∀ r ∈ rows, OkR k r) (h4 : OkSch k o) (h5 : Rep H y (.tuple fs)) (h6 : fs.length ≤ 2000) (h7 : ∀ f ∈ fs, OkF 2000 k' f) (h8 : k' + 1 ≤ 12)
    (q : ∀ H', G [] H H' → Q (.bl ((rows.all fun r => !(boolD (arg 2 r) && !hasName fs (strD (arg 0 r)))) && fs.all fun f => valid k (inner rows (strD (arg 0 f)) o) (arg 1 f))) H') : spFieldsValid k [x, y] H Q E := ⟨x, y, rows, o, fs, k', rfl, h1, h2, h3, h4, h5, h6, h7, h8, q⟩
section

local macro_rules | `(tactic| walk_at "ft") => `(tactic| first
  | assumption
  | ((with_reducible refine f_tup (A := ?A) (H := ?H) ?g ?h); (case g => assumption); (case h => walk_at "ft"))
  | ((with_reducible refine f_lst (A := ?A) (H := ?H) ?g ?n ?h); (case g => assumption); (case n => first | exact nil_nin | assumption); (case h => walk_at "ft"))
  | ((with_reducible refine f_rep (A := ?A) (H := ?H) ?g ?h); (case g => assumption); (case h => walk_at "ft"))
  | ((with_reducible refine f_reps (A := ?A) (H := ?H) ?g ?h); (case g => assumption); (case h => walk_at "ft"))
  | ((with_reducible refine f_iaA (H := ?H) ?g ?h); (case g => assumption); (case h => walk_at "ft"))
  | ((with_reducible refine f_ia0 (H := ?H) ?g ?h); (case g => assumption); (case h => walk_at "ft"))
  | ((with_reducible refine f_g (H := ?H) ?g ?h); (case g => assumption); (case h => walk_at "ft"))
  | ((with_reducible refine f_g0 (H := ?H) ?g ?h); (case g => assumption); (case h => walk_at "ft"))
  | with_reducible exact G.refl _ _)
local macro_rules | `(tactic| walk_at "g1") => `(tactic| first
  | ((with_reducible refine w_var (v := ?v) ?h ?q); (case h => exact rfl))
  | with_reducible refine w_C ?_
  | with_reducible refine w_op ?_
  | with_reducible refine w_un ?_
  | with_reducible refine w_cons ?_
  | with_reducible refine w_nil ?_
  | with_reducible refine w_cb ?_
  | with_reducible refine w_call ?_
  | with_reducible refine w_tup ?_
  | with_reducible refine w_lst ?_
  | ((with_reducible refine w_mkT ?h ?q); (case h => exact sz100 rfl); intro p H' np g hp)
  | ((with_reducible refine w_mkL ?h ?q); (case h => exact sz100 rfl); intro p H' np g hp)
  | with_reducible refine w_seq ?_
  | with_reducible refine w_next ?_
  | with_reducible refine w_asg ?_
  | ((with_reducible refine w_gnameS (σ' := ?s) ?h ?q); (case h => (simp only [wipe, List.map_cons, List.map_nil, List.set_cons_zero, List.set_cons_succ]; exact rfl)))
  | with_reducible refine w_gname ?_
  | with_reducible refine w_ret ?_
  | with_reducible refine w_drop ?_
  | with_reducible refine w_ifS ?_
  | with_reducible refine w_B ?_
  | with_reducible refine w_test ?_
  | with_reducible refine w_bl ?_
  | with_reducible refine w_and ?_
  | with_reducible refine w_or ?_
  | with_reducible refine w_not ?_
  | with_reducible refine w_andV ?_
  | with_reducible refine w_orV ?_
  | with_reducible refine w_notV ?_
  | with_reducible refine w_isN ?_
  | with_reducible refine w_notN ?_
  | with_reducible refine w_I0 ?_
  | with_reducible refine w_U ?_
  | ((with_reducible refine w_I ?hc ?q); (case hc => first | (show (0 : Int) < _; first | decide | assumption) | exact Or.inr ⟨by decide, by decide⟩ | exact Or.inl ⟨by decide, by decide⟩ | exact cdivw (by decide) (by decide) | exact ⟨by decide, by decide, by decide⟩))
  | with_reducible refine w_app ?_
  | with_reducible refine w_gsub ?_
  | with_reducible refine w_m1 ?_
  | ((with_reducible refine w_eq ?h ?q); (case h => exact rfl))
  | ((with_reducible refine w_ne ?h ?q); (case h => exact rfl))
  | ((with_reducible refine w_ixTn (xs := ?xs) (v := ?v) (n := ?n) ?h ?hi ?e ?q); (case h => walk_at "ft"); (case hi => exact rfl); (case e => exact rfl))
  | ((with_reducible refine w_ixLn (xs := ?xs) (v := ?v) (n := ?n) ?h ?hi ?e ?q); (case h => walk_at "ft"); (case hi => exact rfl); (case e => exact rfl))
  | ((with_reducible refine w_lenT (xs := ?xs) ?h ?q); (case h => walk_at "ft"))
  | ((with_reducible refine w_lenL (xs := ?xs) ?h ?q); (case h => walk_at "ft"))
  | ((with_reducible refine w_tupleL (xs := ?xs) ?h ?q); (case h => walk_at "ft"); intro p H' np g hp)
  | with_reducible refine iteT ?_
  | with_reducible refine iteF ?_
  | ((with_reducible refine w_wipe ?h ?q); (case h => exact rfl))
  | with_reducible refine it_nt ?_
  | with_reducible refine it_nf ?_
  | with_reducible refine w_lc ?_
  | with_reducible refine w_lcL ?_
  | with_reducible refine w_lcR ?_
  | with_reducible refine w_for ?_
  | with_reducible refine w_forL ?_
  | with_reducible refine w_forR ?_
  | ((with_reducible refine w_gtup (xs := ?xs) ?h ?hn ?q); (case h => walk_at "ft"); (case hn => exact rfl))
  | with_reducible refine w_gcons ?_
  | with_reducible refine w_gnil ?_
  | with_reducible refine w_slc ?_
  | with_reducible refine w_nopart ?_
  | with_reducible refine w_part ?_
  | with_reducible refine w_ex ?_
  | ((with_reducible refine w_sl (xs := ?xs) ?h ?q); (case h => walk_at "ft"); intro p H' g hp)
  | with_reducible refine w_isi_ii ?_
  | with_reducible refine w_isi_is ?_
  | with_reducible refine w_isi_si ?_
  | with_reducible refine w_isi_ss ?_
  | with_reducible refine w_isi_bb ?_
  | with_reducible refine w_str2 ?_
  | with_reducible refine w_int ?_
  | with_reducible refine w_intB ?_
  | with_reducible refine w_min ?_
  | with_reducible refine w_max ?_)
local macro_rules | `(tactic| walk_at "go") => `(tactic| repeat walk_at "g1")
local macro_rules | `(tactic| walk_at "st") => `(tactic| simp only [L2.start, List.map_cons, List.map_nil, List.length_cons, List.length_nil, List.reduceReplicate, Nat.reduceAdd, Nat.reduceSub, List.cons_append, List.nil_append, List.append_nil])

section
variable {P : Program} {w : World} {K : PySem.W.Frag} {mg : Str → Option Value} {base : Heap}
theorem D_law_child (F : At K mg "_law_child" s_law_child ["_law_value_here", "_law_token_here"]) (Tg : Glob mg) : Def P w K mg base 1 "_law_child" ["_law_value_here", "_law_token_here"] spChild := by
  refine F.def sc_law_child (fun vs H Q E h => ?_) (fun f cdv A outer s H vs Q E hr h => ?_)
  · obtain ⟨x, y, d, t, N, k, rfl, _⟩ := h
    rfl
  obtain ⟨x, y, d, t, N, k, rfl, h1, hd, h2, ht, q⟩ := h
  have T := Tg
  refine ⟨_, (pss_cons (ps_if (PW.pt (pw_and (pt_cmpR op_eq (pe_ix (ix_tupK K) (pv 0) pe_int (fun _ _ => rfl)) pe_str (nomark _)) (pw_and1 (pt_val (pe_callB (call_isiK' K) (by rfl) T.n_isinstance (by decide +kernel) (pa_cons (pv 1) (pa_cons (pe_bltn (v := .ty "int") (by rfl) T.n_int (by decide +kernel) rfl) pa_nil)))))))
(pss_one (ps_if (PW.pt (pw_and (pt_cmpR op_le pe_int (pv 1) (nomark _)) (pw_and1 (pt_cmpR op_lt (pv 1) (pe_callB (call_lenK K) (by rfl) T.n_len (by decide +kernel) (pa_cons (pe_ix (ix_tupK K) (pv 0) pe_int (fun _ _ => rfl)) pa_nil)) (nomark _)))))
(pss_one (ps_ret (pe_ix (ix_tupK K) (pe_ix (ix_tupK K) (pv 0) pe_int (fun _ _ => rfl)) (pv 1) (fun _ _ => rfl))))
pss_nil))
pss_nil)
(pss_cons (ps_if (PW.pt (pw_and (pt_cmpR op_eq (pe_ix (ix_tupK K) (pv 0) pe_int (fun _ _ => rfl)) pe_str (nomark _)) (pw_and1 (pt_val (pe_callB (call_isiK' K) (by rfl) T.n_isinstance (by decide +kernel) (pa_cons (pv 1) (pa_cons (pe_bltn (v := .ty "str") (by rfl) T.n_str (by decide +kernel) rfl) pa_nil)))))))
(pss_one (ps_for PassesOwn.never rfl (pi_tupK K (pe_ix (ix_tupK K) (pv 0) pe_int (fun _ _ => rfl))) (pg_name (i := 2) sc_law_child.nd rfl (by first | exact .inl rfl | exact .inr rfl))
(pss_one (ps_if (pt_cmpR op_eq (pe_ix (ix_tupK K) (pv 2) pe_int (fun _ _ => rfl)) (pv 1) (nomark _))
(pss_one (ps_ret (pe_ix (ix_tupK K) (pv 2) pe_int (fun _ _ => rfl))))
pss_nil))))
pss_nil)
(pss_one (ps_ret pe_non)))), ?_⟩
  walk_at "st"
  obtain ⟨wd, r, rfl, sv⟩ := hd.sh
  obtain ⟨p, xs, rfl, hp, hr1⟩ := h1.tg
  walk_at "go"
  refine w_iteEqS (fun c => ?_) (fun c1 => ?_)
  · subst c
    obtain ⟨k', ds, rfl, rfl, hl, hx⟩ := sv.list rfl
    cases hr1 with
    | cons hs hr1 =>
    cases hr1
    obtain ⟨p3, zs, rfl, hp3, hr3⟩ := hs.tupE
    have lz : zs.length = ds.length := hr3.len
    rcases ht with ⟨i, rfl⟩ | ⟨z, rfl, hz⟩
    · cases h2
      rw [childD_li] at q
      walk_at "go"
      refine w_iteD (fun c1 => ?_) (fun c1 => ?_)
      · walk_at "go"
        refine w_iteD (fun c2 => ?_) (fun c2 => ?_)
        · have c3 : 0 ≤ i ∧ i < (ds.length : Nat) := ⟨c1, by omega⟩
          rw [if_pos c3] at q
          have hz : zs[i.toNat]? = some (zs[i.toNat]'(by omega)) := List.getElem?_eq_getElem (by omega)
          obtain ⟨c, hc, hr⟩ := hr3.get hz
          rw [hc] at q
          walk_at "go"
          refine w_ixTn (n := i.toNat) hp3 (by omega) hz ?_
          exact q _ _ (G.refl _ _) hr
        · have c3 : ¬ (0 ≤ i ∧ i < (ds.length : Nat)) := fun z => c2 (by omega)
          rw [if_neg c3] at q
          walk_at "go"
          refine w_iteEqS (fun c => absurd c (by decide +kernel)) (fun _ => ?_)
          walk_at "go"
          exact q _ _ (G.refl _ _) rfl
      · have c3 : ¬ (0 ≤ i ∧ i < (ds.length : Nat)) := fun z => c1 z.1
        rw [if_neg c3] at q
        walk_at "go"
        refine w_iteEqS (fun c => absurd c (by decide +kernel)) (fun _ => ?_)
        walk_at "go"
        exact q _ _ (G.refl _ _) rfl
    · cases h2
      rw [childD_ls] at q
      walk_at "go"
      refine w_iteEqS (fun c => absurd c (by decide +kernel)) (fun _ => ?_)
      walk_at "go"
      exact q _ _ (G.refl _ _) rfl
  walk_at "go"
  refine w_iteEqS (fun c => ?_) (fun c2 => ?_)
  · subst c
    obtain ⟨k', ds, rfl, rfl, hl, hx⟩ := sv.object rfl
    cases hr1 with
    | cons hs hr1 =>
    cases hr1
    obtain ⟨p3, zs, rfl, hp3, hr3⟩ := hs.tupE
    have lz : zs.length = ds.length := hr3.len
    rcases ht with ⟨i, rfl⟩ | ⟨z, rfl, hz⟩
    · cases h2
      rw [childD_oi] at q
      walk_at "go"
      exact q _ _ (G.refl _ _) rfl
    cases h2
    rw [childD_os] at q
    walk_at "go"
    refine w_forT (fun i σ' H' => ∃ o, σ' = [some (.ref p), some (.str z), o] ∧ H' = H ∧ (ds.take i).find? (fun f => decide (strD (arg 0 f) = z)) = none) hp3 ⟨none, rfl, rfl, rfl⟩ (fun i σ' H' h => by obtain ⟨_, _, rfl, _⟩ := h; exact Pk.T.refl _) ?hs ?hd
    case hs =>
      rintro i x σ' H' hi ⟨o, rfl, rfl, hn⟩
      obtain ⟨f, hf, hxf⟩ := hr3.get hi
      obtain ⟨n, fv, rfl, hn2, hfv⟩ := hx f (List.mem_of_getElem? hf)
      obtain ⟨pf, fs, rfl, hpf, hrf⟩ := hxf.tupE
      cases hrf with
      | cons hn1 hrf =>
      cases hn1
      cases hrf with
      | cons hfx hrf =>
      cases hrf
      walk_at "go"
      refine w_iteEqS (fun c => ?_) (fun c => ?_)
      · walk_at "go"
        rw [find_at hf hn (decide_eq_true (show strD (arg 0 (PyData.tuple [.str n, fv])) = z from c))] at q
        exact q _ _ (G.refl _ _) hfx
      · walk_at "go"
        exact ⟨_, rfl, rfl, find_next hf hn (decide_eq_false (show ¬ strD (arg 0 (PyData.tuple [.str n, fv])) = z from c))⟩
    case hd =>
      rintro σ' H' ⟨o, rfl, rfl, hn⟩
      rw [lz, List.take_length] at hn
      rw [hn] at q
      walk_at "go"
      exact q _ _ (G.refl _ _) rfl
  · rw [childD_no c1 c2] at q
    walk_at "go"
    exact q _ _ (G.refl _ _) rfl
end
section
variable {P : Program} {w : World} {K : PySem.W.Frag} {mg : Str → Option Value} {base : Heap}
theorem D_law_lookup (F : At K mg "_law_lookup" s_law_lookup ["_law_value_here", "_law_path_here"]) (Tg : Glob mg) (D_law_child : Def P w K mg base 1 "_law_child" ["_law_value_here", "_law_token_here"] spChild) :
    Def P w K mg base 2 "_law_lookup" ["_law_value_here", "_law_path_here"] spLookup := by
  refine F.def sc_law_lookup (fun vs H Q E h => ?_) (fun f cdv A outer s H vs Q E hr h => ?_)
  · obtain ⟨x, y, d, t, N, k, rfl, _⟩ := h
    rfl
  obtain ⟨x, y, d, ts, N, k, rfl, h1, hd, h2, ht, q⟩ := h
  have T := Tg
  refine ⟨_, (pss_cons (ps_for PassesOwn.never rfl (pi_tupK K (pv 1)) (pg_name (i := 2) sc_law_lookup.nd rfl (by first | exact .inl rfl | exact .inr rfl))
(pss_one (ps_if (pt_cmp (pc_notN (pv 0)))
(pss_one (ps_set (i := 0) sc_law_lookup.nd rfl (by first | exact .inl rfl | exact .inr rfl) (pe_def D_law_child hr (by rfl) (pa_cons (pv 0) (pa_cons (pv 2) pa_nil)))))
pss_nil)))
(pss_one (ps_ret (pv 0)))), ?_⟩
  walk_at "st"
  obtain ⟨p3, zs, rfl, hp3, hr3⟩ := h2.tupE
  have lz : zs.length = ts.length := hr3.len
  walk_at "go"
  refine w_forT (fun i σ' H' => ∃ v o, σ' = [some v, some (.ref p3), o] ∧ G [] H H' ∧ RepO H' v (lookupD d (ts.take i))) hp3 ⟨x, none, rfl, G.refl _ _, h1⟩ (fun i σ' H' h => by obtain ⟨_, _, _, g, _⟩ := h; exact g.t) ?hs ?hd
  case hs =>
    rintro i t σ' H' hi ⟨v, o, rfl, g, hv⟩
    obtain ⟨td, htd, hrt⟩ := hr3.get hi
    have el : lookupD d (ts.take (i + 1)) = (lookupD d (ts.take i)).bind fun x => childD x td := by
      rw [take_snoc htd, lookup_snoc]
    walk_at "go"
    cases eo : lookupD d (ts.take i) with
    | none =>
      rw [eo] at hv el
      obtain rfl : v = .non := hv
      refine w_ite (fun c => absurd c (by decide)) (fun _ => ?_)
      walk_at "go"
      exact ⟨_, _, rfl, g, by rw [el]; exact rfl⟩
    | some c =>
      rw [eo] at hv el
      have hv : Rep H' v c := hv
      have hc := lookup_ok _ _ hd c eo
      obtain ⟨wd, r, rfl, sv⟩ := hc.sh
      obtain ⟨p, xs, rfl, hp, hr1⟩ := hv.tg
      refine w_ite (fun _ => ?_) (fun c => absurd c (by simp))
      walk_at "go"
      refine c_child hv hc (by walk_at "ft") (ht td (List.mem_of_getElem? htd)) fun v2 H2 g2 hv2 => ?_
      walk_at "go"
      exact ⟨_, _, rfl, g.trans g2, by rw [el]; exact hv2⟩
  case hd =>
    rintro σ' H' ⟨v, o, rfl, g, hv⟩
    rw [lz, List.take_length] at hv
    walk_at "go"
    exact q _ _ g hv
end
section
variable {P : Program} {w : World} {K : PySem.W.Frag} {mg : Str → Option Value} {base : Heap}
theorem D_law_with (F : At K mg "_law_with" s_law_with ["_law_value_here", "_law_token_here", "_law_new"]) (Tg : Glob mg) : Def P w K mg base 1 "_law_with" ["_law_value_here", "_law_token_here", "_law_new"] spWith := by
  refine F.def sc_law_with (fun vs H Q E h => ?_) (fun f cdv A outer s H vs Q E hr h => ?_)
  · obtain ⟨x, y, z, wd, xs, t, n, N, k, rfl, _⟩ := h
    rfl
  obtain ⟨x, y, z, wd, ds, t, nd, N, k, rfl, h1, hc, hlen, h2, hld, h3, hnd, q⟩ := h
  have T := Tg
  refine ⟨_, (pss_cons (ps_if (pt_cmpR op_eq (pe_ix (ix_tupK K) (pv 0) pe_int (fun _ _ => rfl)) pe_str (nomark _))
(pss_one (ps_ret (pe_tup (pa_cons pe_str (pa_cons (pe_op (op_catK K) (pe_op (op_catK K) (pe_slice (sl_tupK K) (pe_ix (ix_tupK K) (pv 0) pe_int (fun _ _ => rfl)) po_none (po_some (pv 1))) (pe_tup (pa_cons (pv 2) pa_nil))) (pe_slice (sl_tupK K) (pe_ix (ix_tupK K) (pv 0) pe_int (fun _ _ => rfl)) (po_some (pe_op op_add (pv 1) pe_int)) po_none)) pa_nil)))))
pss_nil)
(pss_cons (ps_setLc (i := 3) (own := [("_law_field", 4)]) rfl sc_law_with.nd rfl rfl (sw_true rfl rfl rfl (by decide +kernel)) (pi_tupK K (pe_ix (ix_tupK K) (pv 0) pe_int (fun _ _ => rfl))) (blkOk_by (N := N_law_with) (sc := defScope s_law_with) (by decide +kernel)) (fun _ _ _ _ _ => (pg_name (i := 4) sc_law_with.nd rfl (by first | exact .inl rfl | exact .inr rfl))) (fun _ _ _ _ _ => pts_one (pt_cmpR op_lt_str (pe_ix (ix_tupK K) (pv 4) pe_int (fun _ _ => rfl)) (pv 1) (nomark _))) (fun _ _ _ _ _ => (pv 4)))
(pss_cons (ps_setLc (i := 5) (own := [("_law_field", 4)]) rfl sc_law_with.nd rfl rfl (sw_true rfl rfl rfl (by decide +kernel)) (pi_tupK K (pe_ix (ix_tupK K) (pv 0) pe_int (fun _ _ => rfl))) (blkOk_by (N := N_law_with) (sc := defScope s_law_with) (by decide +kernel)) (fun _ _ _ _ _ => (pg_name (i := 4) sc_law_with.nd rfl (by first | exact .inl rfl | exact .inr rfl))) (fun _ _ _ _ _ => pts_one (pt_cmpR op_gt_str (pe_ix (ix_tupK K) (pv 4) pe_int (fun _ _ => rfl)) (pv 1) (nomark _))) (fun _ _ _ _ _ => (pv 4)))
(pss_one (ps_ret (pe_tup (pa_cons pe_str (pa_cons (pe_op (op_catK K) (pe_op (op_catK K) (pe_callTy (call_tupleK K) (by rfl) T.n_tuple (by decide +kernel) (pa_cons (pv 3) pa_nil)) (pe_tup (pa_cons (pe_tup (pa_cons (pv 1) (pa_cons (pv 2) pa_nil))) pa_nil))) (pe_callTy (call_tupleK K) (by rfl) T.n_tuple (by decide +kernel) (pa_cons (pv 5) pa_nil))) pa_nil)))))))), ?_⟩
  walk_at "st"
  obtain ⟨p, xs, rfl, hp, hr1⟩ := h1.tg
  cases hr1 with
  | cons hs hr1 =>
  cases hr1
  obtain ⟨p3, zs, rfl, hp3, hr3⟩ := hs.tupE
  have lz : zs.length = ds.length := hr3.len
  rcases hld with ⟨rfl, i, rfl, i0, i1⟩ | ⟨rfl, s, rfl, hs⟩
  · cases h2
    obtain ⟨n, rfl⟩ : ∃ n : Nat, i = (n : Int) := ⟨i.toNat, by omega⟩
    have hn : n < zs.length := by omega
    walk_at "go"
    refine w_iteEqS (fun _ => ?_) (fun c => absurd rfl c)
    walk_at "go"
    refine w_cat (xs := cutV zs none (some (n : Int))) (ys := [z]) (by walk_at "ft") (by walk_at "ft") (by rw [cut_lo (by omega), List.length_take, List.length_singleton]; omega) fun r1 H1 g1 hr1 => ?_
    walk_at "go"
    refine w_cat (xs := cutV zs none (some (n : Int)) ++ [z]) (ys := cutV zs (some (((n + 1 : Nat)) : Int)) none) (by walk_at "ft") (by walk_at "ft") (by rw [cut_lo (by omega), cut_hi (by omega), List.length_append, List.length_take, List.length_drop, List.length_singleton]; omega) fun r2 H2 g2 hr2 => ?_
    rw [cut_lo (by omega), cut_hi (by omega)] at hr2
    walk_at "go"
    refine q _ _ (ds.take n ++ [nd] ++ ds.drop (n + 1)) (by walk_at "ft") (rep_tg1 (xs := zs.take n ++ [z] ++ zs.drop (n + 1)) (by walk_at "ft") (by walk_at "ft") (Reps.append (Reps.append (Reps.take _ (by walk_at "ft")) (.cons (by walk_at "ft") .nil)) (Reps.drop _ (by walk_at "ft")))) ?_ ?_
    · rcases hc with ⟨_, hc⟩ | ⟨c, _⟩
      · refine .inl ⟨rfl, fun x hx => ?_⟩
        rcases List.mem_append.mp hx with hx | hx
        · rcases List.mem_append.mp hx with hx | hx
          · exact hc x (List.mem_of_mem_take hx)
          · rw [List.mem_singleton.mp hx]
            exact hnd
        · exact hc x (List.mem_of_mem_drop hx)
      · exact absurd c (by decide +kernel)
    · rw [List.length_append, List.length_append, List.length_take, List.length_drop, List.length_singleton]
      omega
  · cases h2
    have hf : ∀ f ∈ ds, OkF N k f := by
      rcases hc with ⟨c, _⟩ | ⟨_, hc⟩
      · exact absurd c (by decide +kernel)
      · exact hc
    walk_at "go"
    refine w_iteEqS (fun c => absurd c (by decide +kernel)) (fun _ => ?_)
    walk_at "go"
    refine w_lcFil (fun v => decide ((nm H v).cps.toList < s.cps.toList)) hp3 (by omega) ?step ?done
    case step =>
      intro i x H1 Nx No hi g1 nx no
      obtain ⟨f, hf1, hxf⟩ := hr3.get hi
      obtain ⟨n, fv, rfl, hn2, hfv⟩ := hf f (List.mem_of_getElem? hf1)
      obtain ⟨pf, fs, rfl, hpf, hrf⟩ := hxf.tupE
      cases hrf with
      | cons hn1 hrf =>
      cases hn1
      cases hrf with
      | cons hfx hrf =>
      cases hrf
      rw [nm_at hpf] at nx no
      walk_at "go"
      refine w_ite (fun c => ?_) (fun c => no c)
      walk_at "go"
      exact nx c
    case done =>
    intro D1 H1 hD1 g1 e1
    walk_at "go"
    refine w_lcFil (fun v => decide (s.cps.toList < (nm H v).cps.toList)) (show H1 p3 = some (.tup zs) by walk_at "ft") (by omega) ?step ?done
    case step =>
      intro i x H2 Nx No hi g2 nx no
      obtain ⟨f, hf1, hxf⟩ := hr3.get hi
      obtain ⟨n, fv, rfl, hn2, hfv⟩ := hf f (List.mem_of_getElem? hf1)
      obtain ⟨pf, fs, rfl, hpf, hrf⟩ := hxf.tupE
      cases hrf with
      | cons hn1 hrf =>
      cases hn1
      cases hrf with
      | cons hfx hrf =>
      cases hrf
      rw [nm_at hpf] at nx no
      walk_at "go"
      refine w_ite (fun c => ?_) (fun c => no c)
      walk_at "go"
      exact nx c
    case done =>
    intro D2 H2 hD2 g2 e2
    have l1 := filter_two (fun v => decide ((nm H v).cps.toList < s.cps.toList)) (fun v => decide (s.cps.toList < (nm H v).cps.toList)) (fun x c1 c2 => List.lt_asymm (of_decide_eq_true c1) (of_decide_eq_true c2)) zs
    generalize ef1 : zs.filter (fun v => decide ((nm H v).cps.toList < s.cps.toList)) = ys1 at e1 l1
    generalize ef2 : zs.filter (fun v => decide (s.cps.toList < (nm H v).cps.toList)) = ys2 at e2 l1
    obtain ⟨ds1, hds1, ok1⟩ : ∃ ds1, Reps H ys1 ds1 ∧ ∀ d ∈ ds1, OkF N k d := Reps.ofM fun v hv => by
      rw [← ef1] at hv
      obtain ⟨d, hd, hr⟩ := hr3.mem (List.mem_filter.mp hv).1
      exact ⟨d, hr, hf d hd⟩
    obtain ⟨ds2, hds2, ok2⟩ : ∃ ds2, Reps H ys2 ds2 ∧ ∀ d ∈ ds2, OkF N k d := Reps.ofM fun v hv => by
      rw [← ef2] at hv
      obtain ⟨d, hd, hr⟩ := hr3.mem (List.mem_filter.mp hv).1
      exact ⟨d, hr, hf d hd⟩
    have ld1 := hds1.len
    have ld2 := hds2.len
    walk_at "go"
    rename_i pa Ha npa ga hpa pb Hb npb gb hpb pc Hc npc gc hpc
    refine w_cat (xs := ys1) (ys := [V.ref pb]) (by walk_at "ft") (by walk_at "ft") (by rw [List.length_singleton]; omega) fun r1 H1 g1 hr1 => ?_
    walk_at "go"
    refine w_cat (xs := ys1 ++ [V.ref pb]) (ys := ys2) (by walk_at "ft") (by walk_at "ft") (by rw [List.length_append, List.length_singleton]; omega) fun r2 H2 g2 hr2 => ?_
    walk_at "go"
    refine q _ _ (ds1 ++ [.tuple [.str s, nd]] ++ ds2) (by walk_at "ft") (rep_tg1 (xs := ys1 ++ [V.ref pb] ++ ys2) (by walk_at "ft") (by walk_at "ft") (Reps.append (Reps.append (by walk_at "ft") (.cons (rep_pair (v := z) (by walk_at "ft") (by walk_at "ft")) .nil)) (by walk_at "ft"))) ?_ ?_
    · refine .inr ⟨rfl, fun x hx => ?_⟩
      rcases List.mem_append.mp hx with hx | hx
      · rcases List.mem_append.mp hx with hx | hx
        · exact ok1 x hx
        · rw [List.mem_singleton.mp hx]
          exact ⟨s, nd, rfl, hs, hnd⟩
      · exact ok2 x hx
    · rw [List.length_append, List.length_append, List.length_singleton]
      omega
end
section
variable {P : Program} {w : World} {K : PySem.W.Frag} {mg : Str → Option Value} {base : Heap}
theorem D_law_replace_s {L j : Nat} {sp' : Sp} (F : At K mg "_law_replace" s_law_replace ["_law_value_here", "_law_path_here", "_law_new"]) (Tg : Glob mg)
    (D_law_child : Def P w K mg base 1 "_law_child" ["_law_value_here", "_law_token_here"] spChild) (D_law_with : Def P w K mg base 1 "_law_with" ["_law_value_here", "_law_token_here", "_law_new"] spWith)
    (D_law_replace : Def P w K mg base (j + 1) "_law_replace" ["_law_value_here", "_law_path_here", "_law_new"] sp') (hsp : ∀ L', L = L' + 1 → ∀ vs H Q E, spReplace L' vs H Q E → sp' vs H Q E) :
    Def P w K mg base (j + 2) "_law_replace" ["_law_value_here", "_law_path_here", "_law_new"] (spReplace L) := by
  refine F.def sc_law_replace (fun vs H Q E h => ?_) (fun f cdv A outer s H vs Q E hr h => ?_)
  · obtain ⟨x, y, z, d, ts, n, N, k, m, rfl, _⟩ := h
    rfl
  obtain ⟨x, y, z, d, ts, n, N, k, m, rfl, h1, hd, hN, h2, ht, hL, h3, hn, hm, q⟩ := h
  have T := Tg
  refine ⟨_, (pss_cons (ps_if (pt_cmpR op_eq (pe_callB (call_lenK K) (by rfl) T.n_len (by decide +kernel) (pa_cons (pv 1) pa_nil)) pe_int (nomark _))
(pss_one (ps_ret (pv 2)))
pss_nil)
(pss_cons (ps_set (i := 3) sc_law_replace.nd rfl (by first | exact .inl rfl | exact .inr rfl) (pe_def D_law_child hr (by rfl) (pa_cons (pv 0) (pa_cons (pe_ix (ix_tupK K) (pv 1) pe_int (fun _ _ => rfl)) pa_nil))))
(pss_cons (ps_if (pt_cmp (pc_isN (pv 3)))
(pss_one (ps_ret pe_non))
pss_nil)
(pss_cons (ps_set (i := 4) sc_law_replace.nd rfl (by first | exact .inl rfl | exact .inr rfl) (pe_def D_law_replace hr (by rfl) (pa_cons (pv 3) (pa_cons (pe_slice (sl_tupK K) (pv 1) (po_some pe_int) po_none) (pa_cons (pv 2) pa_nil)))))
(pss_cons (ps_if (pt_cmp (pc_isN (pv 4)))
(pss_one (ps_ret pe_non))
pss_nil)
(pss_one (ps_ret (pe_def D_law_with hr (by rfl) (pa_cons (pv 0) (pa_cons (pe_ix (ix_tupK K) (pv 1) pe_int (fun _ _ => rfl)) (pa_cons (pv 4) pa_nil))))))))))), ?_⟩
  walk_at "st"
  obtain ⟨p3, zs, rfl, hp3, hr3⟩ := h2.tupE
  walk_at "go"
  cases hr3 with
  | nil =>
    refine w_iteEqI (fun _ => ?_) (fun c => absurd rfl c)
    walk_at "go"
    exact q _ _ (G.refl _ _) (.inr ⟨n, h3, OkV.mono (by omega) (by omega) hn⟩)
  | @cons tv zs t ts htv hr3 =>
  refine w_iteEqI (fun c => absurd c (by rw [List.length_cons]; omega)) (fun _ => ?_)
  have ht1 := ht t (by simp)
  obtain ⟨L', rfl⟩ : ∃ L', L = L' + 1 := ⟨L - 1, by rw [List.length_cons] at hL; omega⟩
  walk_at "go"
  refine c_child h1 hd htv ht1 fun v1 H1 g1 hv1 => ?_
  walk_at "go"
  cases ec : childD d t with
  | none =>
    rw [ec] at hv1
    obtain rfl : v1 = .non := hv1
    refine w_ite (fun _ => ?_) (fun c => absurd c (by decide))
    walk_at "go"
    exact q _ _ (by walk_at "ft") (.inl rfl)
  | some c =>
  rw [ec] at hv1
  have hv1 : Rep H1 v1 c := hv1
  obtain ⟨k', rfl, hc, hcc⟩ := child_cases hd ec
  have nn : v1 ≠ .non := fun e => by
    obtain ⟨wd, r, rfl, sv⟩ := hc.sh
    obtain ⟨p, xs, e2, _⟩ := hv1.tg
    rw [e] at e2
    cases e2
  refine w_ite (fun c => absurd (of_decide_eq_true c) nn) (fun _ => ?_)
  walk_at "go"
  rename_i r1 H2 g2 hr1
  rw [cut_tail] at hr1
  have hr1 : H2 r1 = some (.tup zs) := hr1
  refine hsp L' rfl _ _ _ _ (c_replace (d := c) (ts := ts) (n := n) (N := N) (k := k') (m := m) (by walk_at "ft") hc hN (.tup hr1 (by walk_at "ft")) (fun t h => ht t (by simp [h])) (by rw [List.length_cons] at hL; omega) (by walk_at "ft") hn (by omega) fun v3 H3 g3 hv3 => ?_)
  walk_at "go"
  rcases hv3 with rfl | ⟨i, hi, oi⟩
  · refine w_ite (fun _ => ?_) (fun c => absurd c (by decide))
    walk_at "go"
    exact q _ _ (by walk_at "ft") (.inl rfl)
  have nn3 : v3 ≠ .non := fun e => by
    obtain ⟨wd, r, rfl, sv⟩ := oi.sh
    obtain ⟨p, xs, e2, _⟩ := hi.tg
    rw [e] at e2
    cases e2
  refine w_ite (fun c => absurd (of_decide_eq_true c) nn3) (fun _ => ?_)
  walk_at "go"
  obtain ⟨wd, xs, rfl, hcont, hlead, hl⟩ : ∃ wd xs, d = tg wd [.tuple xs] ∧ Cont (N + 1) k' wd xs ∧ Lead wd xs t ∧ xs.length ≤ N := by
    rcases hcc with ⟨xs, i, rfl, rfl, i0, i1, hl, hx⟩ | ⟨fs, s, rfl, rfl, hl, hf⟩
    · exact ⟨_, xs, rfl, .inl ⟨rfl, fun x h => OkV.mono (by omega) (Nat.le_refl _) (hx x h)⟩, .inl ⟨rfl, i, rfl, i0, i1⟩, hl⟩
    · refine ⟨_, fs, rfl, .inr ⟨rfl, fun f h => ?_⟩, .inr ⟨rfl, s, rfl, ?_⟩, hl⟩
      · obtain ⟨n, x, e, hn, hx⟩ := hf f h
        exact ⟨n, x, e, hn, OkV.mono (by omega) (Nat.le_refl _) hx⟩
      · rcases ht1 with ⟨i, e⟩ | ⟨s', e, hs⟩
        · cases e
        · cases e
          exact hs
  refine c_with (w := wd) (xs := xs) (t := t) (n := i) (N := N + 1) (k := k') (by walk_at "ft") hcont (by omega) (by walk_at "ft") hlead (by walk_at "ft") oi fun v4 H4 ys g4 hv4 hc4 hl4 => ?_
  exact q _ _ (by walk_at "ft") (.inr ⟨_, hv4, hc4.ok (by omega)⟩)
theorem D_law_replace (F : At K mg "_law_replace" s_law_replace ["_law_value_here", "_law_path_here", "_law_new"]) (Tg : Glob mg)
    (D_law_child : Def P w K mg base 1 "_law_child" ["_law_value_here", "_law_token_here"] spChild) (D_law_with : Def P w K mg base 1 "_law_with" ["_law_value_here", "_law_token_here", "_law_new"] spWith) :
    ∀ L, Def P w K mg base (L + 2) "_law_replace" ["_law_value_here", "_law_path_here", "_law_new"] (spReplace L)
  | 0 => D_law_replace_s F Tg D_law_child D_law_with (F.never.mono (by omega)) fun L' e => by omega
  | L + 1 => D_law_replace_s F Tg D_law_child D_law_with (D_law_replace F Tg D_law_child D_law_with L) fun L' e vs H Q E h => by
    obtain rfl : L = L' := by omega
    exact h
end
section
variable {P : Program} {w : World} {K : PySem.W.Frag} {mg : Str → Option Value} {base : Heap}
theorem D_law_put (F : At K mg "_law_put" s_law_put ["_law_value_here", "_law_path_here", "_law_new"]) (Tg : Glob mg)
    (D_law_lookup : Def P w K mg base 2 "_law_lookup" ["_law_value_here", "_law_path_here"] spLookup) (D_law_with : Def P w K mg base 1 "_law_with" ["_law_value_here", "_law_token_here", "_law_new"] spWith)
    (D_law_replace : Def P w K mg base 6 "_law_replace" ["_law_value_here", "_law_path_here", "_law_new"] (spReplace 4)) :
    Def P w K mg base 7 "_law_put" ["_law_value_here", "_law_path_here", "_law_new"] spPut := by
  refine F.def sc_law_put (fun vs H Q E h => ?_) (fun f cdv A outer s H vs Q E hr h => ?_)
  · obtain ⟨x, y, z, d, ts, n, N, k, rfl, _⟩ := h
    rfl
  obtain ⟨x, y, z, d, ts, n, N, k, rfl, h1, hd, hN, h2, ht, hL, h3, hn, q⟩ := h
  have T := Tg
  refine ⟨_, (pss_cons (ps_if (pt_cmpR op_eq (pe_callB (call_lenK K) (by rfl) T.n_len (by decide +kernel) (pa_cons (pv 1) pa_nil)) pe_int (nomark _))
(pss_one (ps_ret (pv 2)))
pss_nil)
(pss_cons (ps_set (i := 3) sc_law_put.nd rfl (by first | exact .inl rfl | exact .inr rfl) (pe_def D_law_lookup hr (by rfl) (pa_cons (pv 0) (pa_cons (pe_slice (sl_tupK K) (pv 1) po_none (po_some (pe_un un_neg pe_int))) pa_nil))))
(pss_cons (ps_if (pt_cmp (pc_isN (pv 3)))
(pss_one (ps_ret pe_non))
pss_nil)
(pss_cons (ps_set (i := 4) sc_law_put.nd rfl (by first | exact .inl rfl | exact .inr rfl) (pe_ix (ix_tupK K) (pv 1) (pe_un un_neg pe_int) (fun _ _ => rfl)))
(pss_cons (ps_set (i := 5) sc_law_put.nd rfl (by first | exact .inl rfl | exact .inr rfl) pe_non)
(pss_cut (ps_if (PW.pt (pw_and (pt_cmpR op_eq (pe_ix (ix_tupK K) (pv 3) pe_int (fun _ _ => rfl)) pe_str (nomark _)) (pw_and1 (pt_val (pe_callB (call_isiK' K) (by rfl) T.n_isinstance (by decide +kernel) (pa_cons (pv 4) (pa_cons (pe_bltn (v := .ty "str") (by rfl) T.n_str (by decide +kernel) rfl) pa_nil)))))))
(pss_one (ps_set (i := 5) sc_law_put.nd rfl (by first | exact .inl rfl | exact .inr rfl) (pe_def D_law_with hr (by rfl) (pa_cons (pv 3) (pa_cons (pv 4) (pa_cons (pv 2) pa_nil))))))
pss_nil)
(pss_cut (ps_if (PW.pt (pw_and (pt_cmpR op_eq (pe_ix (ix_tupK K) (pv 3) pe_int (fun _ _ => rfl)) pe_str (nomark _)) (pw_and (pt_val (pe_callB (call_isiK' K) (by rfl) T.n_isinstance (by decide +kernel) (pa_cons (pv 4) (pa_cons (pe_bltn (v := .ty "int") (by rfl) T.n_int (by decide +kernel) rfl) pa_nil)))) (pw_and1 (pt_cmpR op_le (pv 4) (pe_callB (call_lenK K) (by rfl) T.n_len (by decide +kernel) (pa_cons (pe_ix (ix_tupK K) (pv 3) pe_int (fun _ _ => rfl)) pa_nil)) (nomark _))))))
(pss_cons (ps_set (i := 6) sc_law_put.nd rfl (by first | exact .inl rfl | exact .inr rfl) (pv 4))
(pss_cut (ps_if (pt_cmpR op_eq (pv 4) (pe_un un_neg pe_int) (nomark _))
(pss_one (ps_set (i := 6) sc_law_put.nd rfl (by first | exact .inl rfl | exact .inr rfl) (pe_callB (call_lenK K) (by rfl) T.n_len (by decide +kernel) (pa_cons (pe_ix (ix_tupK K) (pv 3) pe_int (fun _ _ => rfl)) pa_nil))))
pss_nil)
(pss_one (ps_set (i := 5) sc_law_put.nd rfl (by first | exact .inl rfl | exact .inr rfl) (pe_tup (pa_cons pe_str (pa_cons (pe_op (op_catK K) (pe_op (op_catK K) (pe_slice (sl_tupK K) (pe_ix (ix_tupK K) (pv 3) pe_int (fun _ _ => rfl)) po_none (po_some (pv 6))) (pe_tup (pa_cons (pv 2) pa_nil))) (pe_slice (sl_tupK K) (pe_ix (ix_tupK K) (pv 3) pe_int (fun _ _ => rfl)) (po_some (pv 6)) po_none)) pa_nil)))))))
pss_nil)
(pss_cons (ps_if (pt_cmp (pc_isN (pv 5)))
(pss_one (ps_ret pe_non))
pss_nil)
(pss_one (ps_ret (pe_def D_law_replace hr (by rfl) (pa_cons (pv 0) (pa_cons (pe_slice (sl_tupK K) (pv 1) po_none (po_some (pe_un un_neg pe_int))) (pa_cons (pv 5) pa_nil)))))))))))))), ?_⟩
  walk_at "st"
  obtain ⟨p3, zs, rfl, hp3, hr3⟩ := h2.tupE
  walk_at "go"
  by_cases ets : ts = []
  · subst ets
    cases hr3
    refine w_iteEqI (fun _ => ?_) (fun c => absurd rfl c)
    walk_at "go"
    exact q _ _ (G.refl _ _) (.inr ⟨n, h3, OkV.leaf hn⟩)
  obtain ⟨zi, zl, ti, tl, rfl, rfl, hri, hrl⟩ := hr3.snoc ets
  refine w_iteEqI (fun c => absurd c (by rw [List.length_append, List.length_singleton]; omega)) (fun _ => ?_)
  walk_at "go"
  rename_i r1 H1 g1 hr1
  rw [cut_init, List.dropLast_concat] at hr1
  have hti : ∀ t ∈ ti, OkT t := fun t h => ht t (by simp [h])
  have htl : OkT tl := ht tl (by simp)
  refine c_lookup (d := d) (ts := ti) (by walk_at "ft") hd (.tup hr1 (by walk_at "ft")) hti fun v2 H2 g2 hv2 => ?_
  walk_at "go"
  cases el : lookupD d ti with
  | none =>
    rw [el] at hv2
    obtain rfl : v2 = .non := hv2
    refine w_ite (fun _ => ?_) (fun c => absurd c (by decide))
    walk_at "go"
    exact q _ _ (by walk_at "ft") (.inl rfl)
  | some pd =>
  rw [el] at hv2
  have hv2 : Rep H2 v2 pd := hv2
  have hpd := lookup_ok _ _ hd pd el
  refine w_ite (fun c => absurd (of_decide_eq_true c) (ok_nn hv2 hpd)) (fun _ => ?_)
  walk_at "go"
  refine w_ixT (xs := zi ++ [zl]) (by walk_at "ft") atI_end ?_
  walk_at "go"
  obtain ⟨wd, r, rfl, sv⟩ := hpd.sh
  obtain ⟨pp, xs, rfl, hpp, hrp⟩ := hv2.tg
  refine w_cut (fun σ' H' => ∃ v5, σ' = [some x, some (.ref p3), some z, some (.ref pp), some zl, some v5, none] ∧ G [] H2 H' ∧ OptV (N + 1) k H' v5 ∧ (wd = "list" → v5 = .non)) ?c1 ?c2
  case c1 =>
    walk_at "go"
    refine w_iteEqS (fun c => ?_) (fun c1 => ?_)
    · subst c
      obtain ⟨k', fs, rfl, rfl, hl, hcont⟩ := Cont.of hpd (.inr rfl) (Nat.le_succ N)
      cases hrp with
      | cons hs hrp =>
      cases hrp
      rcases htl with ⟨i, rfl⟩ | ⟨st, rfl, hst⟩
      · cases hrl
        walk_at "go"
        exact ⟨_, rfl, G.refl _ _, .inl rfl, fun _ => rfl⟩
      · cases hrl
        walk_at "go"
        refine c_with (w := "object") (xs := fs) (t := .str st) (n := n) (N := N + 1) (k := k') (.tup hpp (.cons (.str _) (.cons hs .nil))) hcont (by omega) (.str _) (.inr ⟨rfl, st, rfl, hst⟩) (by walk_at "ft") (OkV.leaf hn) fun v5 H5 ys g5 hv5 hc5 hl5 => ?_
        walk_at "go"
        exact ⟨_, rfl, g5, .inr ⟨_, hv5, hc5.ok (by omega)⟩, fun c => absurd c (by decide +kernel)⟩
    · walk_at "go"
      exact ⟨_, rfl, G.refl _ _, .inl rfl, fun _ => rfl⟩
  case c2 =>
  rintro σ' H3 ⟨v5, rfl, g3, ho, hno⟩
  refine w_cut (fun σ' H' => ∃ v5 o, σ' = [some x, some (.ref p3), some z, some (.ref pp), some zl, some v5, o] ∧ G [] H3 H' ∧ OptV (N + 1) k H' v5) ?c1 ?c2
  case c1 =>
    walk_at "go"
    refine w_iteEqS (fun c => ?_) (fun c1 => ?_)
    · subst c
      obtain ⟨k', fs, rfl, rfl, hl, hcont⟩ := Cont.of hpd (.inl rfl) (Nat.le_succ N)
      obtain ⟨_, _, _, _, hx⟩ : "list" = "list" ∧ True ∧ True ∧ True ∧ ∀ x ∈ fs, OkV (N + 1) k' x := by
        rcases hcont with ⟨_, h⟩ | ⟨c, _⟩
        · exact ⟨rfl, trivial, trivial, trivial, h⟩
        · exact absurd c (by decide +kernel)
      obtain rfl := hno rfl
      cases hrp with
      | cons hs hrp =>
      cases hrp
      obtain ⟨p6, z6, rfl, hp6, hr6⟩ := hs.tupE
      have l6 : z6.length = fs.length := hr6.len
      rcases htl with ⟨i, rfl⟩ | ⟨st, rfl, hst⟩
      · cases hrl
        walk_at "go"
        refine w_iteD (fun c1 => ?_) (fun c1 => ?_)
        · walk_at "go"
          refine w_cut (fun σ' H' => H' = H3 ∧ ∃ i' : Int, σ' = [some x, some (.ref p3), some z, some (.ref pp), some (.int i), some .non, some (.int i')]) ?d1 ?d2
          case d1 =>
            walk_at "go"
            refine w_iteEqI (fun c => ?_) (fun c => ?_)
            · walk_at "go"
              exact ⟨rfl, _, rfl⟩
            · walk_at "go"
              exact ⟨rfl, _, rfl⟩
          case d2 =>
          rintro σ' H' ⟨rfl, i', rfl⟩
          walk_at "go"
          have lp := cut_part z6 i'
          refine w_cat (xs := cutV z6 none (some i')) (ys := [z]) (by walk_at "ft") (by walk_at "ft") (by rw [List.length_singleton]; omega) fun r7 H7 g7 hr7 => ?_
          walk_at "go"
          refine w_cat (xs := cutV z6 none (some i') ++ [z]) (ys := cutV z6 (some i') none) (by walk_at "ft") (by walk_at "ft") (by rw [List.length_append, List.length_singleton]; omega) fun r8 H8 g8 hr8 => ?_
          walk_at "go"
          obtain ⟨es1, he1, hm1, hl1⟩ := hr6.cut none (some i')
          obtain ⟨es2, he2, hm2, hl2⟩ := hr6.cut (some i') none
          refine ⟨_, _, rfl, by walk_at "ft", .inr ⟨_, rep_tg1 (w := "list") (xs := cutV z6 none (some i') ++ [z] ++ cutV z6 (some i') none) (ds := es1 ++ [n] ++ es2) (by walk_at "ft") (by walk_at "ft") (Reps.append (Reps.append (by walk_at "ft") (.cons (by walk_at "ft") .nil)) (by walk_at "ft")), OkV.list ?_ fun d hd => ?_⟩⟩
          · rw [List.length_append, List.length_append, List.length_singleton]
            omega
          · rcases List.mem_append.mp hd with hd | hd
            · rcases List.mem_append.mp hd with hd | hd
              · exact hx d (hm1 d hd)
              · rw [List.mem_singleton.mp hd]
                exact OkV.leaf hn
            · exact hx d (hm2 d hd)
        · walk_at "go"
          exact ⟨_, _, rfl, G.refl _ _, .inl rfl⟩
      · cases hrl
        walk_at "go"
        exact ⟨_, _, rfl, G.refl _ _, .inl rfl⟩
    · walk_at "go"
      exact ⟨_, _, rfl, G.refl _ _, ho⟩
  case c2 =>
  rintro σ' H4 ⟨v5, o, rfl, g4, ho⟩
  walk_at "go"
  rcases ho with rfl | ⟨i, hi, oi⟩
  · refine w_ite (fun _ => ?_) (fun c => absurd c (by decide))
    walk_at "go"
    exact q _ _ (by walk_at "ft") (.inl rfl)
  refine w_ite (fun c => absurd (of_decide_eq_true c) (ok_nn hi oi)) (fun _ => ?_)
  walk_at "go"
  rename_i r5 H5 g5 hr5
  rw [cut_init, List.dropLast_concat] at hr5
  refine c_replace (L := 4) (d := d) (ts := ti) (n := i) (N := N + 1) (k := k + 4) (m := k) (by walk_at "ft") (OkV.mono (by omega) (by omega) hd) (by omega) (.tup hr5 (by walk_at "ft")) hti (by rw [List.length_append] at hL; omega) (by walk_at "ft") oi (by omega) fun v6 H6 g6 hv6 => ?_
  exact q _ _ (by walk_at "ft") hv6
end
section
variable {P : Program} {w : World} {K : PySem.W.Frag} {mg : Str → Option Value} {base : Heap}
theorem D_law_take (F : At K mg "_law_take" s_law_take ["_law_value_here", "_law_path_here"]) (Tg : Glob mg)
    (D_law_lookup : Def P w K mg base 2 "_law_lookup" ["_law_value_here", "_law_path_here"] spLookup)
    (D_law_replace : Def P w K mg base 6 "_law_replace" ["_law_value_here", "_law_path_here", "_law_new"] (spReplace 4)) :
    Def P w K mg base 7 "_law_take" ["_law_value_here", "_law_path_here"] spTake := by
  refine F.def sc_law_take (fun vs H Q E h => ?_) (fun f cdv A outer s H vs Q E hr h => ?_)
  · obtain ⟨x, y, d, ts, N, k, rfl, _⟩ := h
    rfl
  obtain ⟨x, y, d, ts, N, k, rfl, h1, hd, hN, h2, ht, hL, q⟩ := h
  have T := Tg
  refine ⟨_, (pss_cons (ps_if (PW.pt (pw_or (pt_cmpR op_eq (pe_callB (call_lenK K) (by rfl) T.n_len (by decide +kernel) (pa_cons (pv 1) pa_nil)) pe_int (nomark _)) (pw_or1 (pt_cmp (pc_isN (pe_def D_law_lookup hr (by rfl) (pa_cons (pv 0) (pa_cons (pv 1) pa_nil))))))))
(pss_one (ps_ret pe_non))
pss_nil)
(pss_cons (ps_set (i := 2) sc_law_take.nd rfl (by first | exact .inl rfl | exact .inr rfl) (pe_def D_law_lookup hr (by rfl) (pa_cons (pv 0) (pa_cons (pe_slice (sl_tupK K) (pv 1) po_none (po_some (pe_un un_neg pe_int))) pa_nil))))
(pss_cons (ps_set (i := 3) sc_law_take.nd rfl (by first | exact .inl rfl | exact .inr rfl) (pe_ix (ix_tupK K) (pv 1) (pe_un un_neg pe_int) (fun _ _ => rfl)))
(pss_cut (ps_if (pt_cmpR op_eq (pe_ix (ix_tupK K) (pv 2) pe_int (fun _ _ => rfl)) pe_str (nomark _))
(pss_one (ps_set (i := 4) sc_law_take.nd rfl (by first | exact .inl rfl | exact .inr rfl) (pe_tup (pa_cons pe_str (pa_cons (pe_op (op_catK K) (pe_slice (sl_tupK K) (pe_ix (ix_tupK K) (pv 2) pe_int (fun _ _ => rfl)) po_none (po_some (pv 3))) (pe_slice (sl_tupK K) (pe_ix (ix_tupK K) (pv 2) pe_int (fun _ _ => rfl)) (po_some (pe_op op_add (pv 3) pe_int)) po_none)) pa_nil)))))
(pss_one (ps_set (i := 4) sc_law_take.nd rfl (by first | exact .inl rfl | exact .inr rfl) (pe_tup (pa_cons pe_str (pa_cons (pe_callTy (call_tupleK K) (by rfl) T.n_tuple (by decide +kernel) (pa_cons (pe_lc (own := [("_law_field", 5)]) rfl sc_law_take.nd (pi_tupK K (pe_ix (ix_tupK K) (pv 2) pe_int (fun _ _ => rfl))) (blkOk_by (N := N_law_take) (sc := defScope s_law_take) (by decide +kernel)) (fun _ _ _ _ _ => (pg_name (i := 5) sc_law_take.nd rfl (by first | exact .inl rfl | exact .inr rfl))) (fun _ _ _ _ _ => pts_one (pt_cmpR op_ne (pe_ix (ix_tupK K) (pv 5) pe_int (fun _ _ => rfl)) (pv 3) (nomark _))) (fun _ _ _ _ _ => (pv 5))) pa_nil)) pa_nil))))))
(pss_one (ps_ret (pe_def D_law_replace hr (by rfl) (pa_cons (pv 0) (pa_cons (pe_slice (sl_tupK K) (pv 1) po_none (po_some (pe_un un_neg pe_int))) (pa_cons (pv 4) pa_nil)))))))))), ?_⟩
  walk_at "st"
  obtain ⟨p3, zs, rfl, hp3, hr3⟩ := h2.tupE
  walk_at "go"
  by_cases ets : ts = []
  · subst ets
    cases hr3
    refine w_iteEqI (fun _ => ?_) (fun c => absurd rfl c)
    walk_at "go"
    exact q _ _ (G.refl _ _) (.inl rfl)
  obtain ⟨zi, zl, ti, tl, rfl, rfl, hri, hrl⟩ := hr3.snoc ets
  refine w_iteEqI (fun c => absurd c (by rw [List.length_append, List.length_singleton]; omega)) (fun _ => ?_)
  walk_at "go"
  refine c_lookup (d := d) (ts := ti ++ [tl]) (by walk_at "ft") hd (.tup hp3 hr3) ht fun v1 H1 g1 hv1 => ?_
  walk_at "go"
  rw [lookup_snoc] at hv1
  cases el : lookupD d ti with
  | none =>
    rw [el] at hv1
    obtain rfl : v1 = .non := hv1
    refine w_ite (fun _ => ?_) (fun c => absurd c (by decide))
    walk_at "go"
    exact q _ _ (by walk_at "ft") (.inl rfl)
  | some pd =>
  rw [el] at hv1
  have hv1 : RepO H1 v1 (childD pd tl) := hv1
  have hpd := lookup_ok _ _ hd pd el
  cases ec : childD pd tl with
  | none =>
    rw [ec] at hv1
    obtain rfl : v1 = .non := hv1
    refine w_ite (fun _ => ?_) (fun c => absurd c (by decide))
    walk_at "go"
    exact q _ _ (by walk_at "ft") (.inl rfl)
  | some cd =>
  rw [ec] at hv1
  have hv1 : Rep H1 v1 cd := hv1
  obtain ⟨k', rfl, hc, hcc⟩ := child_cases hpd ec
  refine w_ite (fun c => absurd (of_decide_eq_true c) (ok_nn hv1 hc)) (fun _ => ?_)
  walk_at "go"
  rename_i r2 H2 g2 hr2
  rw [cut_init, List.dropLast_concat] at hr2
  have hti : ∀ t ∈ ti, OkT t := fun t h => ht t (by simp [h])
  refine c_lookup (d := d) (ts := ti) (by walk_at "ft") hd (.tup hr2 (by walk_at "ft")) hti fun v2 H3 g3 hv2 => ?_
  rw [el] at hv2
  have hv2 : Rep H3 v2 pd := hv2
  walk_at "go"
  refine w_ixT (xs := zi ++ [zl]) (by walk_at "ft") atI_end ?_
  walk_at "go"
  refine w_cut (fun σ' H' => ∃ v4 o, σ' = [some x, some (.ref p3), some v2, some zl, some v4, o] ∧ G [] H3 H' ∧ ∃ md, Rep H' v4 md ∧ OkV N (k' + 1) md) ?c1 ?c2
  case c1 =>
    rcases hcc with ⟨xs, i, rfl, rfl, i0, i1, hl, hx⟩ | ⟨fs, s, rfl, rfl, hl, hf⟩
    · obtain ⟨pp, ys, rfl, hpp, hrp⟩ := hv2.tg
      cases hrp with
      | cons hs hrp =>
      cases hrp
      obtain ⟨p6, z6, rfl, hp6, hr6⟩ := hs.tupE
      have l6 : z6.length = xs.length := hr6.len
      cases hrl
      obtain ⟨n, rfl⟩ : ∃ n : Nat, i = (n : Int) := ⟨i.toNat, by omega⟩
      walk_at "go"
      refine w_iteEqS (fun _ => ?_) (fun c => absurd rfl c)
      walk_at "go"
      refine w_cat (xs := cutV z6 none (some (n : Int))) (ys := cutV z6 (some ((n + 1 : Nat) : Int)) none) (by walk_at "ft") (by walk_at "ft") (by have a1 := cut_len (xs := z6) none (some (n : Int)); have a2 := cut_len (xs := z6) (some ((n + 1 : Nat) : Int)) none; omega) fun r7 H7 g7 hr7 => ?_
      rw [cut_lo (by omega), cut_hi (by omega)] at hr7
      walk_at "go"
      refine ⟨_, _, rfl, by walk_at "ft", _, rep_tg1 (w := "list") (xs := z6.take n ++ z6.drop (n + 1)) (ds := xs.take n ++ xs.drop (n + 1)) (by walk_at "ft") (by walk_at "ft") (Reps.append (Reps.take _ (by walk_at "ft")) (Reps.drop _ (by walk_at "ft"))), OkV.list ?_ fun d hd => ?_⟩
      · rw [List.length_append, List.length_take, List.length_drop]
        omega
      · rcases List.mem_append.mp hd with hd | hd
        · exact hx d (List.mem_of_mem_take hd)
        · exact hx d (List.mem_of_mem_drop hd)
    · obtain ⟨pp, ys, rfl, hpp, hrp⟩ := hv2.tg
      cases hrp with
      | cons hs hrp =>
      cases hrp
      obtain ⟨p6, z6, rfl, hp6, hr6⟩ := hs.tupE
      have l6 : z6.length = fs.length := hr6.len
      cases hrl
      walk_at "go"
      refine w_iteEqS (fun c => absurd c (by decide +kernel)) (fun _ => ?_)
      walk_at "go"
      refine w_lcTf [] (fun v H => ∃ f, Rep H v f ∧ OkF N k' f) (fun v H H' t h => by obtain ⟨f, hf, o⟩ := h; exact ⟨f, hf.mono t, o⟩) (ianil _) hp6 (by omega) ?step ?done
      case step =>
        intro i x H4 Nx No hi g4 nx no
        obtain ⟨f, hf1, hxf⟩ := hr6.get hi
        have hxf4 : Rep H4 x f := by walk_at "ft"
        have of := hf f (List.mem_of_getElem? hf1)
        obtain ⟨n, fv, rfl, hn2, hfv⟩ := of
        obtain ⟨pf, fs, rfl, hpf, hrf⟩ := hxf.tupE
        cases hrf with
        | cons hn1 hrf =>
        cases hn1
        cases hrf with
        | cons hfx hrf =>
        cases hrf
        walk_at "go"
        refine w_ite (fun c => ?_) (fun c => no _ (by walk_at "ft"))
        walk_at "go"
        exact nx _ _ (by walk_at "ft") ⟨_, hxf4, hf _ (List.mem_of_getElem? hf1)⟩
      case done =>
        intro D ys H4 hD g4 e4 hl4 hp4
        obtain ⟨es, hes, oes⟩ := Reps.ofM hp4
        have le := hes.len
        walk_at "go"
        refine ⟨_, _, rfl, by walk_at "ft", _, rep_tg1 (w := "object") (xs := ys) (ds := es) (by walk_at "ft") (by walk_at "ft") (by walk_at "ft"), OkV.object (by omega) oes⟩
  case c2 =>
  rintro σ' H4 ⟨v4, o, rfl, g4, md, hmd, omd⟩
  walk_at "go"
  rename_i r5 H5 g5 hr5
  rw [cut_init, List.dropLast_concat] at hr5
  refine c_replace (L := 4) (d := d) (ts := ti) (n := md) (N := N) (k := k' + 1 + 4) (m := k' + 1) (by walk_at "ft") (OkV.mono (by omega) (by omega) hd) (by omega) (.tup hr5 (by walk_at "ft")) hti (by rw [List.length_append] at hL; omega) (by walk_at "ft") (OkV.mono (Nat.le_refl _) (by omega) omd) (by omega) fun v6 H6 g6 hv6 => ?_
  refine q _ _ (by walk_at "ft") ?_
  rcases hv6 with h | ⟨d, h, o⟩
  · exact .inl h
  · exact .inr ⟨d, h, OkV.mono (by omega) (by omega) o⟩
end
section
variable {P : Program} {w : World} {K : PySem.W.Frag} {mg : Str → Option Value} {base : Heap}
theorem D_law_between (F : At K mg "_law_between" s_law_between ["_law_count", "_law_low", "_law_high"]) (Tg : Glob mg) : Def P w K mg base 1 "_law_between" ["_law_count", "_law_low", "_law_high"] spWithin := by
  refine F.def sc_law_between (fun vs H Q E h => ?_) (fun f cdv A outer s H vs Q E hr h => ?_)
  · obtain ⟨n, lo, hi, vlo, vhi, rfl, _⟩ := h
    rfl
  obtain ⟨n, lo, hi, vlo, vhi, rfl, h1, h2, o1, o2, q⟩ := h
  refine ⟨_, (pss_one (ps_ret (pe_and (pe_or (pe_cmp (pc_isN (pv 1))) (pe_one (pe_cmpR op_le (pv 1) (pv 0) (nomark _)))) (pe_one (pe_or (pe_cmp (pc_isN (pv 2))) (pe_one (pe_cmpR op_le (pv 0) (pv 2) (nomark _)))))))), ?_⟩
  walk_at "st"
  unfold within at q
  rcases o1 with rfl | ⟨i, rfl⟩ <;> rcases o2 with rfl | ⟨j, rfl⟩ <;> cases h1 <;> cases h2 <;> simp only [tRet, tAndV, tOrV, tIsN, tVar, tOp, rI0, L2.start] <;> simp <;> simp at q
  · exact q
  · exact q
  · refine ite2 (fun c => ?_) (fun c => ?_)
    · rw [decide_eq_true c] at q
      exact q
    · rw [decide_eq_false c] at q
      exact q
  · refine ite2 (fun c => ?_) (fun c => ?_)
    · rw [decide_eq_true c, Bool.true_and] at q
      exact q
    · rw [decide_eq_false c, Bool.false_and] at q
      exact q
theorem D_law_is_flag (F : At K mg "_law_is_flag" s_law_is_flag ["_law_actual", "_law_due"]) (Tg : Glob mg) : Def P w K mg base 1 "_law_is_flag" ["_law_actual", "_law_due"] spFlag := by
  refine F.def sc_law_is_flag (fun vs H Q E h => ?_) (fun f cdv A outer s H vs Q E hr h => ?_)
  · obtain ⟨a, rfl, _⟩ := h
    rfl
  obtain ⟨a, rfl, q⟩ := h
  have T := Tg
  refine ⟨_, (pss_one (ps_ret (pe_and (pe_callB (call_isiK' K) (by rfl) T.n_isinstance (by decide +kernel) (pa_cons (pv 0) (pa_cons (pe_bltn (v := .ty "bool") (by rfl) T.n_bool (by decide +kernel) rfl) pa_nil))) (pe_one (pe_cmpR op_eq (pv 0) (pv 1) (nomark _)))))), ?_⟩
  walk_at "st"
  walk_at "go"
  rw [decide_eq_true rfl]
  exact q
theorem D_law_fields_valid {k j : Nat} (F : At K mg "_law_fields_valid" s_law_fields_valid ["_law_schema_here", "_law_fields"]) (Tg : Glob mg)
    (D_law_child : Def P w K mg base 1 "_law_child" ["_law_value_here", "_law_token_here"] spChild)
    (D_law_valid : Def P w K mg base (j + 1) "_law_valid" ["_law_schema_here", "_law_value_here"] (spValid k)) :
    Def P w K mg base (j + 2) "_law_fields_valid" ["_law_schema_here", "_law_fields"] (spFieldsValid k) := by
  refine F.def sc_law_fields_valid (fun vs H Q E h => ?_) (fun f cdv A outer s H vs Q E hr h => ?_)
  · obtain ⟨x, y, rows, o, fs, k', rfl, _⟩ := h
    rfl
  obtain ⟨x, y, rows, o, fs, k', rfl, h1, hlen, hrow, ho, h2, hfl, hf, hk, q⟩ := h
  have T := Tg
  refine ⟨_, (pss_cons (ps_for PassesOwn.never rfl (pi_tupK K (pe_ix (ix_tupK K) (pv 0) pe_int (fun _ _ => rfl))) (pg_name (i := 2) sc_law_fields_valid.nd rfl (by first | exact .inl rfl | exact .inr rfl))
(pss_one (ps_if (PW.pt (pw_and (pt_val (pe_ix (ix_tupK K) (pv 2) pe_int (fun _ _ => rfl))) (pw_and1 (pt_cmp (pc_isN (pe_def D_law_child hr (by rfl) (pa_cons (pe_tup (pa_cons pe_str (pa_cons (pv 1) pa_nil))) (pa_cons (pe_ix (ix_tupK K) (pv 2) pe_int (fun _ _ => rfl)) pa_nil))))))))
(pss_one (ps_ret pe_bl))
pss_nil)))
(pss_cons (ps_for PassesOwn.never rfl (pi_tupK K (pv 1)) (pg_name (i := 3) sc_law_fields_valid.nd rfl (by first | exact .inl rfl | exact .inr rfl))
(pss_cons (ps_set (i := 4) sc_law_fields_valid.nd rfl (by first | exact .inl rfl | exact .inr rfl) (pe_ix (ix_tupK K) (pv 0) pe_int (fun _ _ => rfl)))
(pss_cons (ps_for PassesOwn.never rfl (pi_tupK K (pe_ix (ix_tupK K) (pv 0) pe_int (fun _ _ => rfl))) (pg_name (i := 2) sc_law_fields_valid.nd rfl (by first | exact .inl rfl | exact .inr rfl))
(pss_one (ps_if (pt_cmpR op_eq (pe_ix (ix_tupK K) (pv 2) pe_int (fun _ _ => rfl)) (pe_ix (ix_tupK K) (pv 3) pe_int (fun _ _ => rfl)) (nomark _))
(pss_one (ps_set (i := 4) sc_law_fields_valid.nd rfl (by first | exact .inl rfl | exact .inr rfl) (pe_ix (ix_tupK K) (pv 2) pe_int (fun _ _ => rfl))))
pss_nil)))
(pss_one (ps_if (pt_not (pt_val (pe_def D_law_valid hr (by rfl) (pa_cons (pv 4) (pa_cons (pe_ix (ix_tupK K) (pv 3) pe_int (fun _ _ => rfl)) pa_nil)))))
(pss_one (ps_ret pe_bl))
pss_nil)))))
(pss_one (ps_ret pe_bl)))), ?_⟩
  walk_at "st"
  obtain ⟨p, xs, rfl, hp, hr1⟩ := h1.tg
  cases hr1 with
  | cons hs hr1 =>
  cases hr1 with
  | cons hho hr1 =>
  cases hr1
  obtain ⟨p4, zs1, rfl, hp4, hr4⟩ := hs.tupE
  have lz1 : zs1.length = rows.length := hr4.len
  obtain ⟨p3, zs, rfl, hp3, hr3⟩ := h2.tupE
  have lz : zs.length = fs.length := hr3.len
  walk_at "go"
  refine w_forT (fun i σ' H' => ∃ o2, σ' = [some (.ref p), some (.ref p3), o2, none, none] ∧ G [] H H' ∧ ((rows.take i).all fun r => !(boolD (arg 2 r) && !hasName fs (strD (arg 0 r)))) = true) hp4 ⟨none, rfl, G.refl _ _, rfl⟩ (fun i σ' H' h => by obtain ⟨_, _, g, _⟩ := h; exact g.t) ?hs ?hd
  case hs =>
    rintro i x σ' H1 hi ⟨o2, rfl, g1, hall⟩
    obtain ⟨rw0, hrw, hxf⟩ := hr4.get hi
    obtain ⟨n, sv1, b, rfl, hn, hsv⟩ := hrow rw0 (List.mem_of_getElem? hrw)
    obtain ⟨pf, xf, rfl, hpf, hrf⟩ := hxf.tupE
    cases hrf with
    | cons hn1 hrf =>
    cases hn1
    cases hrf with
    | cons hfx hrf =>
    cases hrf with
    | cons hb hrf =>
    cases hb
    cases hrf
    have hnext : (!(boolD (arg 2 (PyData.tuple [.str n, sv1, .bool b])) && !hasName fs (strD (arg 0 (PyData.tuple [.str n, sv1, .bool b]))))) = true → ((rows.take (i + 1)).all fun r => !(boolD (arg 2 r) && !hasName fs (strD (arg 0 r)))) = true := fun e => by
      rw [take_snoc hrw, List.all_append, hall, Bool.true_and, List.all_cons, List.all_nil, Bool.and_true]
      exact e
    walk_at "go"
    cases b with
    | false =>
      walk_at "go"
      exact ⟨_, rfl, g1, hnext rfl⟩
    | true =>
    walk_at "go"
    rename_i p7 H7 np7 g7 hp7
    refine c_child (d := tg "object" [.tuple fs]) (t := .str n) (N := 2000) (k := k' + 1) (.tup hp7 (.cons (.str _) (.cons (.tup (show H7 p3 = some (.tup zs) by walk_at "ft") (by walk_at "ft")) .nil))) (OkV.object hfl hf) (.str _) (.inr ⟨n, rfl, hn⟩) fun v8 H8 g8 hv8 => ?_
    rw [childD_os] at hv8
    walk_at "go"
    cases hfi : fs.find? fun f => decide (strD (arg 0 f) = n) with
    | none =>
      rw [hfi] at hv8
      obtain rfl : v8 = .non := hv8
      have hno : hasName fs n = false := by
        unfold hasName
        rw [List.any_eq_false]
        intro f hf2
        have := List.find?_eq_none.mp hfi f hf2
        exact this
      refine w_ite (fun _ => ?_) (fun c => absurd c (by decide))
      walk_at "go"
      have e : (rows.all fun r => !(boolD (arg 2 r) && !hasName fs (strD (arg 0 r)))) = false := by
        rw [List.all_eq_false]
        refine ⟨_, List.mem_of_getElem? hrw, ?_⟩
        show ¬ (!(true && !hasName fs n)) = true
        rw [hno]
        decide
      rw [e, Bool.false_and] at q
      exact q _ (by walk_at "ft")
    | some f =>
      rw [hfi] at hv8
      have hv8 : Rep H8 v8 (arg 1 f) := hv8
      obtain ⟨n', x', rfl, hn', hx'⟩ := hf f (List.mem_of_find?_eq_some hfi)
      have hyes : hasName fs n = true := by
        unfold hasName
        rw [List.any_eq_true]
        exact ⟨_, List.mem_of_find?_eq_some hfi, List.find?_some (p := fun f => decide (strD (arg 0 f) = n)) hfi⟩
      have hv8 : Rep H8 v8 x' := hv8
      refine w_ite (fun c => absurd (of_decide_eq_true c) (ok_nn hv8 hx')) (fun _ => ?_)
      walk_at "go"
      refine ⟨_, rfl, by walk_at "ft", hnext ?_⟩
      show (!(true && !hasName fs n)) = true
      rw [hyes]
      rfl
  case hd =>
  rintro σ' H1 ⟨o2, rfl, g1, hall⟩
  rw [lz1, List.take_length] at hall
  rw [hall, Bool.true_and] at q
  walk_at "go"
  refine w_forT (fun i σ' H' => ∃ o2 o3 o4, σ' = [some (.ref p), some (.ref p3), o2, o3, o4] ∧ G [] H1 H' ∧ ((fs.take i).all fun f => valid k (inner rows (strD (arg 0 f)) o) (arg 1 f)) = true) (show H1 p3 = some (.tup zs) by walk_at "ft") ⟨_, _, _, rfl, G.refl _ _, rfl⟩ (fun i σ' H' h => by obtain ⟨_, _, _, _, g, _⟩ := h; exact g.t) ?hs ?hd
  case hs =>
    rintro i x σ' H2 hi ⟨o2, o3, o4, rfl, g2, hall2⟩
    obtain ⟨f, hf1, hxf⟩ := hr3.get hi
    obtain ⟨n, fv, rfl, hn, hfv⟩ := hf f (List.mem_of_getElem? hf1)
    obtain ⟨pf, xf, rfl, hpf, hrf⟩ := hxf.tupE
    cases hrf with
    | cons hn1 hrf =>
    cases hn1
    cases hrf with
    | cons hfx hrf =>
    cases hrf
    walk_at "go"
    refine w_forT (fun j σ' H' => ∃ o2 v, σ' = [some (.ref p), some (.ref p3), o2, some (.ref pf), some v] ∧ G [] H2 H' ∧ Rep H' v (inner (rows.take j) n o)) (show H2 p4 = some (.tup zs1) by walk_at "ft") ⟨_, _, rfl, G.refl _ _, by show Rep H2 _ o; walk_at "ft"⟩ (fun i σ' H' h => by obtain ⟨_, _, _, g, _⟩ := h; exact g.t) ?hs2 ?hd2
    case hs2 =>
      rintro j2 x2 σ' H3 hi2 ⟨o5, v5, rfl, g3, hv5⟩
      obtain ⟨rw0, hrw, hxr⟩ := hr4.get hi2
      obtain ⟨n2, sv2, b, rfl, hn2, hsv⟩ := hrow rw0 (List.mem_of_getElem? hrw)
      obtain ⟨pr, xr, rfl, hpr, hrr⟩ := hxr.tupE
      cases hrr with
      | cons hn1 hrr =>
      cases hn1
      cases hrr with
      | cons hfx2 hrr =>
      have ein : inner (rows.take (j2 + 1)) n o = if n2 = n then sv2 else inner (rows.take j2) n o := by
        rw [take_snoc hrw, inner_snoc]
        rfl
      walk_at "go"
      refine w_iteEqS (fun c => ?_) (fun c => ?_)
      · walk_at "go"
        refine ⟨_, _, rfl, by walk_at "ft", ?_⟩
        rw [ein, if_pos c]
        walk_at "ft"
      · walk_at "go"
        refine ⟨_, _, rfl, by walk_at "ft", ?_⟩
        rw [ein, if_neg c]
        exact hv5
    case hd2 =>
      rintro σ' H3 ⟨o5, v5, rfl, g3, hv5⟩
      rw [lz1, List.take_length] at hv5
      walk_at "go"
      refine c_valid (s := inner rows n o) (v := fv) (by walk_at "ft") (by walk_at "ft") (inner_ok hrow ho) (gv_item (by omega) hfv) fun H4 g4 => ?_
      walk_at "go"
      cases ev : valid k (inner rows n o) fv with
      | true =>
        walk_at "go"
        refine ⟨_, _, _, rfl, by walk_at "ft", ?_⟩
        rw [take_snoc hf1, List.all_append, hall2, Bool.true_and, List.all_cons, List.all_nil, Bool.and_true]
        exact ev
      | false =>
        walk_at "go"
        have e : (fs.all fun f => valid k (inner rows (strD (arg 0 f)) o) (arg 1 f)) = false := by
          rw [List.all_eq_false]
          refine ⟨_, List.mem_of_getElem? hf1, ?_⟩
          show ¬ valid k (inner rows n o) fv = true
          rw [ev]
          decide
        rw [e] at q
        exact q _ (by walk_at "ft")
  case hd =>
    rintro σ' H2 ⟨o2, o3, o4, rfl, g2, hall2⟩
    rw [lz, List.take_length] at hall2
    rw [hall2] at q
    walk_at "go"
    exact q _ (by walk_at "ft")
end
section
variable {P : Program} {w : World} {K : PySem.W.Frag} {mg : Str → Option Value} {base : Heap}
theorem D_law_valid_s {k j : Nat} (F : At K mg "_law_valid" s_law_valid ["_law_schema_here", "_law_value_here"]) (Tg : Glob mg)
    (D_law_between : Def P w K mg base 1 "_law_between" ["_law_count", "_law_low", "_law_high"] spWithin)
    (D_law_valid : Def P w K mg base (j + 1) "_law_valid" ["_law_schema_here", "_law_value_here"] (spValid k))
    (D_law_fields_valid : Def P w K mg base (j + 2) "_law_fields_valid" ["_law_schema_here", "_law_fields"] (spFieldsValid k)) :
    Def P w K mg base (j + 3) "_law_valid" ["_law_schema_here", "_law_value_here"] (spValid (k + 1)) := by
  refine F.def sc_law_valid (fun vs H Q E h => ?_) (fun f cdv A outer s H vs Q E hr h => ?_)
  · obtain ⟨x, y, ss, v, rfl, _⟩ := h
    rfl
  obtain ⟨x, y, ds, d, rfl, h1, h2, ok, gv, q⟩ := h
  have T := Tg
  refine ⟨_, (pss_cons (ps_set (i := 2) sc_law_valid.nd rfl (by first | exact .inl rfl | exact .inr rfl) (pe_ix (ix_tupK K) (pv 0) pe_int (fun _ _ => rfl)))
(pss_cons (ps_set (i := 3) sc_law_valid.nd rfl (by first | exact .inl rfl | exact .inr rfl) (pe_ix (ix_tupK K) (pv 1) pe_int (fun _ _ => rfl)))
(pss_cons (ps_if (PW.pt (pw_or (pt_cmpR op_eq (pv 2) pe_str (nomark _)) (pw_or1 (pt_cmpR op_eq (pv 2) pe_str (nomark _)))))
(pss_one (ps_ret (pe_cmpR op_eq (pv 2) pe_str (nomark _))))
pss_nil)
(pss_cons (ps_if (pt_cmpR op_eq (pv 2) pe_str (nomark _))
(pss_one (ps_ret (pe_cmpR (op_eqDK K hr.units) (pv 1) (pe_ix (ix_tupK K) (pv 0) pe_int (fun _ _ => rfl)) (nomark _))))
pss_nil)
(pss_cons (ps_if (pt_cmpR op_eq (pv 2) pe_str (nomark _))
(pss_one (ps_ret (pe_callB (cr_anyK K rfl) (by rfl) T.n_any (by decide +kernel) (pa_cons (pe_lc (own := [("_law_part", 4)]) rfl sc_law_valid.nd (pi_tupK K (pe_ix (ix_tupK K) (pv 0) pe_int (fun _ _ => rfl))) (blkOk_by (N := N_law_valid) (sc := defScope s_law_valid) (by decide +kernel)) (fun _ _ _ _ _ => (pg_name (i := 4) sc_law_valid.nd rfl (by first | exact .inl rfl | exact .inr rfl))) (fun _ _ _ _ _ => pts_nil) (fun _ _ _ _ _ => (pe_def D_law_valid hr (by rfl) (pa_cons (pv 4) (pa_cons (pv 1) pa_nil))))) pa_nil))))
pss_nil)
(pss_cons (ps_if (pt_cmpR op_eq (pv 2) pe_str (nomark _))
(pss_one (ps_ret (pe_callB (cr_allK K rfl) (by rfl) T.n_all (by decide +kernel) (pa_cons (pe_lc (own := [("_law_part", 4)]) rfl sc_law_valid.nd (pi_tupK K (pe_ix (ix_tupK K) (pv 0) pe_int (fun _ _ => rfl))) (blkOk_by (N := N_law_valid) (sc := defScope s_law_valid) (by decide +kernel)) (fun _ _ _ _ _ => (pg_name (i := 4) sc_law_valid.nd rfl (by first | exact .inl rfl | exact .inr rfl))) (fun _ _ _ _ _ => pts_nil) (fun _ _ _ _ _ => (pe_def D_law_valid hr (by rfl) (pa_cons (pv 4) (pa_cons (pv 1) pa_nil))))) pa_nil))))
pss_nil)
(pss_cons (ps_if (pt_cmpR op_eq (pv 2) pe_str (nomark _))
(pss_one (ps_ret (pe_not (pe_def D_law_valid hr (by rfl) (pa_cons (pe_ix (ix_tupK K) (pv 0) pe_int (fun _ _ => rfl)) (pa_cons (pv 1) pa_nil))))))
pss_nil)
(pss_cons (ps_if (PW.pt (pw_or (pt_cmpR op_eq (pv 2) pe_str (nomark _)) (pw_or1 (pt_cmpR op_eq (pv 2) pe_str (nomark _)))))
(pss_one (ps_ret (pe_cmpR op_eq (pv 3) (pv 2) (nomark _))))
pss_nil)
(pss_cons (ps_if (pt_cmpR op_eq (pv 2) pe_str (nomark _))
(pss_one (ps_ret (pe_and (pe_cmpR op_eq (pv 3) pe_str (nomark _)) (pe_one (pe_def D_law_between hr (by rfl) (pa_cons (pe_ix (ix_tupK K) (pv 1) pe_int (fun _ _ => rfl)) (pa_cons (pe_ix (ix_tupK K) (pv 0) pe_int (fun _ _ => rfl)) (pa_cons (pe_ix (ix_tupK K) (pv 0) pe_int (fun _ _ => rfl)) pa_nil))))))))
pss_nil)
(pss_cons (ps_if (pt_cmpR op_eq (pv 2) pe_str (nomark _))
(pss_one (ps_ret (pe_and (pe_cmpR op_eq (pv 3) pe_str (nomark _)) (pe_one (pe_def D_law_between hr (by rfl) (pa_cons (pe_callB (call_lenK K) (by rfl) T.n_len (by decide +kernel) (pa_cons (pe_ix (ix_tupK K) (pv 1) pe_int (fun _ _ => rfl)) pa_nil)) (pa_cons (pe_ix (ix_tupK K) (pv 0) pe_int (fun _ _ => rfl)) (pa_cons (pe_ix (ix_tupK K) (pv 0) pe_int (fun _ _ => rfl)) pa_nil))))))))
pss_nil)
(pss_cons (ps_if (pt_cmpR op_eq (pv 2) pe_str (nomark _))
(pss_cons (ps_if (PW.pt (pw_or (pt_cmpR op_ne (pv 3) pe_str (nomark _)) (pw_or1 (pt_not (pt_val (pe_def D_law_between hr (by rfl) (pa_cons (pe_callB (call_lenK K) (by rfl) T.n_len (by decide +kernel) (pa_cons (pe_ix (ix_tupK K) (pv 1) pe_int (fun _ _ => rfl)) pa_nil)) (pa_cons (pe_ix (ix_tupK K) (pv 0) pe_int (fun _ _ => rfl)) (pa_cons (pe_ix (ix_tupK K) (pv 0) pe_int (fun _ _ => rfl)) pa_nil)))))))))
(pss_one (ps_ret pe_bl))
pss_nil)
(pss_one (ps_ret (pe_callB (cr_allK K rfl) (by rfl) T.n_all (by decide +kernel) (pa_cons (pe_lc (own := [("_law_item", 5)]) rfl sc_law_valid.nd (pi_tupK K (pe_ix (ix_tupK K) (pv 1) pe_int (fun _ _ => rfl))) (blkOk_by (N := N_law_valid) (sc := defScope s_law_valid) (by decide +kernel)) (fun _ _ _ _ _ => (pg_name (i := 5) sc_law_valid.nd rfl (by first | exact .inl rfl | exact .inr rfl))) (fun _ _ _ _ _ => pts_nil) (fun _ _ _ _ _ => (pe_def D_law_valid hr (by rfl) (pa_cons (pe_ix (ix_tupK K) (pv 0) pe_int (fun _ _ => rfl)) (pa_cons (pv 5) pa_nil))))) pa_nil)))))
pss_nil)
(pss_cons (ps_if (pt_cmpR op_eq (pv 2) pe_str (nomark _))
(pss_cons (ps_if (PW.pt (pw_or (pt_cmpR op_ne (pv 3) pe_str (nomark _)) (pw_or1 (pt_cmpR op_ne (pe_callB (call_lenK K) (by rfl) T.n_len (by decide +kernel) (pa_cons (pe_ix (ix_tupK K) (pv 1) pe_int (fun _ _ => rfl)) pa_nil)) (pe_callB (call_lenK K) (by rfl) T.n_len (by decide +kernel) (pa_cons (pe_ix (ix_tupK K) (pv 0) pe_int (fun _ _ => rfl)) pa_nil)) (nomark _)))))
(pss_one (ps_ret pe_bl))
pss_nil)
(pss_one (ps_ret (pe_callB (cr_allK K rfl) (by rfl) T.n_all (by decide +kernel) (pa_cons (pe_lc (own := [("_law_k", 6)]) rfl sc_law_valid.nd (pi_range1 (by rfl) T.n_range (pa_cons (pe_callB (call_lenK K) (by rfl) T.n_len (by decide +kernel) (pa_cons (pe_ix (ix_tupK K) (pv 0) pe_int (fun _ _ => rfl)) pa_nil)) pa_nil)) (blkOk_by (N := N_law_valid) (sc := defScope s_law_valid) (by decide +kernel)) (fun _ _ _ _ _ => (pg_name (i := 6) sc_law_valid.nd rfl (by first | exact .inl rfl | exact .inr rfl))) (fun _ _ _ _ _ => pts_nil) (fun _ _ _ _ _ => (pe_def D_law_valid hr (by rfl) (pa_cons (pe_ix (ix_tupK K) (pe_ix (ix_tupK K) (pv 0) pe_int (fun _ _ => rfl)) (pv 6) (fun _ _ => rfl)) (pa_cons (pe_ix (ix_tupK K) (pe_ix (ix_tupK K) (pv 1) pe_int (fun _ _ => rfl)) (pv 6) (fun _ _ => rfl)) pa_nil))))) pa_nil)))))
pss_nil)
(pss_one (ps_ret (pe_and (pe_cmpR op_eq (pv 3) pe_str (nomark _)) (pe_one (pe_def D_law_fields_valid hr (by rfl) (pa_cons (pv 0) (pa_cons (pe_ix (ix_tupK K) (pv 1) pe_int (fun _ _ => rfl)) pa_nil))))))))))))))))))), ?_⟩
  walk_at "st"
  obtain ⟨wd, r, rfl, ss⟩ := ok.sh
  obtain ⟨p, xs, rfl, hp, hr1⟩ := h1.tg
  obtain ⟨wv, rv, ed, sv⟩ := gv.sh
  obtain ⟨p2, ys, rfl, hp2, hr2⟩ : ∃ p xs, y = .ref p ∧ H p = some (.tup (.str wv :: xs)) ∧ Reps H xs rv := (ed ▸ h2).tg
  have ew : word d = wv := by rw [ed]; rfl
  walk_at "go"
  refine w_iteEqS (fun c => ?_) (fun c1 => ?_)
  · subst c
    walk_at "go"
    exact q _ (G.refl _ _)
  walk_at "go"
  refine w_iteEqS (fun c => ?_) (fun c2 => ?_)
  · subst c
    walk_at "go"
    have z := q _ (G.refl _ _)
    rw [show valid (k + 1) (tg "never" r) d = decide (V.str (Str.ofString "never") = V.str (Str.ofString "any")) by (unfold valid; rw [word_tg, if_neg (by decide +kernel), if_pos rfl]; decide +kernel)] at z
    exact z
  walk_at "go"
  refine w_iteEqS (fun c => ?_) (fun c7 => ?_)
  · subst c
    obtain ⟨v, rfl, hv⟩ := ss.const rfl
    cases hr1 with
    | cons hs1 hr1 =>
    cases hr1
    walk_at "go"
    exact ⟨_, _, h2.dp, hs1.dp, shaped_gv gv, shaped_gv (OkV.mono (by decide) (by decide) hv), q _ (G.refl _ _)⟩
  walk_at "go"
  refine w_iteEqS (fun c => ?_) (fun c8 => ?_)
  · subst c
    obtain ⟨es, rfl, hel, hes⟩ := ss.many (.inr (.inl rfl))
    cases hr1 with
    | cons hs hr1 =>
    cases hr1
    obtain ⟨p4, zs1, rfl, hp4, hr4⟩ := hs.tupE
    have lz1 : zs1.length = es.length := hr4.len
    walk_at "go"
    refine w_lcT [] (fun i y _ => ∃ e, es[i]? = some e ∧ y = .bl (valid k e d)) (fun _ _ _ _ _ h => h) (ianil _) (by walk_at "ft") (by omega) ?step ?done
    case step =>
      intro i x H1 Nx hi g1 nx
      obtain ⟨e, he, hxe⟩ := hr4.get hi
      walk_at "go"
      refine c_valid (by walk_at "ft") (by walk_at "ft") (hes e (List.mem_of_getElem? he)) gv fun H2 g2 => ?_
      exact nx _ _ g2 ⟨e, he, rfl⟩
    case done =>
      intro D bs H2 hD g2 e hl2 hp
      walk_at "go"
      exact w_anyF e (by omega) hp (q _ g2)
  walk_at "go"
  refine w_iteEqS (fun c => ?_) (fun c9 => ?_)
  · subst c
    obtain ⟨es, rfl, hel, hes⟩ := ss.many (.inr (.inr rfl))
    cases hr1 with
    | cons hs hr1 =>
    cases hr1
    obtain ⟨p4, zs1, rfl, hp4, hr4⟩ := hs.tupE
    have lz1 : zs1.length = es.length := hr4.len
    walk_at "go"
    refine w_lcT [] (fun i y _ => ∃ e, es[i]? = some e ∧ y = .bl (valid k e d)) (fun _ _ _ _ _ h => h) (ianil _) (by walk_at "ft") (by omega) ?step ?done
    case step =>
      intro i x H1 Nx hi g1 nx
      obtain ⟨e, he, hxe⟩ := hr4.get hi
      walk_at "go"
      refine c_valid (by walk_at "ft") (by walk_at "ft") (hes e (List.mem_of_getElem? he)) gv fun H2 g2 => ?_
      exact nx _ _ g2 ⟨e, he, rfl⟩
    case done =>
      intro D bs H2 hD g2 e hl2 hp
      walk_at "go"
      exact w_allF e (by omega) hp (q _ g2)
  walk_at "go"
  refine w_iteEqS (fun c => ?_) (fun c10 => ?_)
  · subst c
    obtain ⟨e, rfl, he⟩ := ss.neg rfl
    cases hr1 with
    | cons hs hr1 =>
    cases hr1
    walk_at "go"
    refine c_valid (by walk_at "ft") (by walk_at "ft") he gv fun H2 g2 => ?_
    walk_at "go"
    exact q _ g2
  walk_at "go"
  have nb : wd = "null" ∨ wd = "bool" → Q (.bl (decide (V.str wv = V.str wd))) H := fun c => by
    have z := q _ (G.refl _ _)
    have e : valid (k + 1) (tg wd r) d = decide (V.str wv = V.str wd) := by
      unfold valid
      rw [word_tg, ew, if_neg c1, if_neg c2, if_pos c, dec_str]
    rw [e] at z
    exact z
  refine w_iteEqS (fun c => ?_) (fun c3 => ?_)
  · walk_at "go"
    exact nb (.inl c)
  walk_at "go"
  refine w_iteEqS (fun c => ?_) (fun c4 => ?_)
  · walk_at "go"
    exact nb (.inr c)
  walk_at "go"
  subst ed
  refine w_iteEqS (fun c => ?_) (fun c5 => ?_)
  · subst c
    obtain ⟨lo, hi, rfl, hlo, hhi⟩ := ss.int rfl
    cases hr1 with
    | cons hs1 hr1 =>
    cases hr1 with
    | cons hs2 hr1 =>
    cases hr1
    walk_at "go"
    refine w_iteEqS (fun c => ?_) (fun c => ?_)
    · subst c
      obtain ⟨i, rfl⟩ := sv.int rfl
      cases hr2 with
      | cons hv hnil =>
      cases hnil
      cases hv
      walk_at "go"
      refine c_within hs1 hs2 hlo.oi hhi.oi ?_
      exact q _ (G.refl _ _)
    · have e : valid (k + 1) (tg "int" [lo, hi]) (tg wv rv) = false := by
        show (decide (wv = "int") && _) = false
        rw [decide_eq_false c]
        rfl
      rw [e] at q
      exact q _ (G.refl _ _)
  walk_at "go"
  refine w_iteEqS (fun c => ?_) (fun c6 => ?_)
  · subst c
    obtain ⟨lo, hi, rfl, hlo⟩ := ss.text rfl
    cases hr1 with
    | cons hs1 hr1 =>
    cases hr1 with
    | cons hs2 hr1 =>
    cases hr1
    walk_at "go"
    refine w_iteEqS (fun c => ?_) (fun c => ?_)
    · subst c
      obtain ⟨z, rfl, hz⟩ := sv.text rfl
      cases hr2 with
      | cons hv hnil =>
      cases hnil
      cases hv
      walk_at "go"
      refine w_lenS (Nat.le_trans hz.1 (by decide)) ?_
      walk_at "go"
      refine c_within hs1 hs2 hlo.oi.1 hlo.oi.2 ?_
      exact q _ (G.refl _ _)
    · have e : valid (k + 1) (tg "text" [lo, hi]) (tg wv rv) = false := by
        show (decide (wv = "text") && _) = false
        rw [decide_eq_false c]
        rfl
      rw [e] at q
      exact q _ (G.refl _ _)
  walk_at "go"
  refine w_iteEqS (fun c => ?_) (fun c11 => ?_)
  · subst c
    obtain ⟨ds, lo, hi, rfl, he, oc⟩ := ss.list rfl
    have q : ∀ H', G [] H H' → Q (.bl (validList k ds lo hi (tg wv rv))) H' := q
    cases hr1 with
    | cons hs hr1 =>
    cases hr1 with
    | cons hlo hr1 =>
    cases hr1 with
    | cons hhi hr1 =>
    cases hr1
    walk_at "go"
    refine w_iteNeS (fun c => ?_) (fun c => ?_)
    · walk_at "go"
      have z := q H (G.refl _ _)
      rw [show validList k ds lo hi (tg wv rv) = false by unfold validList; rw [word_tg, decide_eq_false c]; rfl] at z
      exact z
    subst c
    obtain ⟨k', vs, ek, rfl, hl, hx⟩ := sv.list rfl
    cases hr2 with
    | cons hv hnil =>
    cases hnil
    obtain ⟨p3, zs, rfl, hp3, hr3⟩ := hv.tupE
    have lz : zs.length = vs.length := hr3.len
    walk_at "go"
    refine c_within hlo hhi oc.oi.1 oc.oi.2 ?_
    walk_at "go"
    rw [lz]
    have ev : validList k ds lo hi (tg "list" [.tuple vs]) = (within (vs.length : Nat) lo hi && vs.all fun x => valid k ds x) := by
      unfold validList
      rw [word_tg, decide_eq_true rfl, Bool.true_and]
      rfl
    rw [ev] at q
    cases hw : within (vs.length : Nat) lo hi with
    | false =>
      rw [hw, Bool.false_and] at q
      walk_at "go"
      exact q H (G.refl _ _)
    | true =>
      rw [hw, Bool.true_and] at q
      walk_at "go"
      refine w_lcT [] (fun i y _ => ∃ d, vs[i]? = some d ∧ y = .bl (valid k ds d)) (fun _ _ _ _ _ h => h) (ianil _) hp3 (by omega) ?step ?done
      case step =>
        intro i x H1 Nx hi g1 nx
        obtain ⟨d, hd, hxd⟩ := hr3.get hi
        walk_at "go"
        refine c_valid (by walk_at "ft") (by walk_at "ft") he (gv_item (by omega) (hx d (List.mem_of_getElem? hd))) fun H2 g2 => ?_
        exact nx _ _ g2 ⟨d, hd, rfl⟩
      case done =>
        intro D bs H2 hD g2 e hl2 hp
        walk_at "go"
        exact w_allF e (by omega) hp (q _ g2)
  walk_at "go"
  refine w_iteEqS (fun c => ?_) (fun c12 => ?_)
  · subst c
    obtain ⟨ss', rfl, hlen, hss⟩ := ss.many (.inl rfl)
    have q : ∀ H', G [] H H' → Q (.bl (validTuple k ss' (tg wv rv))) H' := q
    cases hr1 with
    | cons hs hr1 =>
    cases hr1
    obtain ⟨p4, zs1, rfl, hp4, hr4⟩ := hs.tupE
    have lz1 : zs1.length = ss'.length := hr4.len
    walk_at "go"
    refine w_iteNeS (fun c => ?_) (fun c => ?_)
    · walk_at "go"
      have z := q H (G.refl _ _)
      rw [show validTuple k ss' (tg wv rv) = false by unfold validTuple; rw [word_tg, decide_eq_false c]; rfl] at z
      exact z
    subst c
    obtain ⟨k', vs, ek, rfl, hl, hx⟩ := sv.list rfl
    cases hr2 with
    | cons hv hnil =>
    cases hnil
    obtain ⟨p3, zs, rfl, hp3, hr3⟩ := hv.tupE
    have lz : zs.length = vs.length := hr3.len
    have ev : validTuple k ss' (tg "list" [.tuple vs]) = (decide (vs.length = ss'.length) && zipAll (valid k) ss' vs) := by
      unfold validTuple
      rw [word_tg, decide_eq_true rfl, Bool.true_and]
      rfl
    rw [ev] at q
    walk_at "go"
    refine w_iteNeI (fun c => ?_) (fun c => ?_)
    · have c2 : ¬ vs.length = ss'.length := by omega
      rw [decide_eq_false c2, Bool.false_and] at q
      walk_at "go"
      exact q H (G.refl _ _)
    have c2 : vs.length = ss'.length := by omega
    rw [decide_eq_true c2, Bool.true_and] at q
    walk_at "go"
    refine w_lcRn [] (fun i y _ => ∃ d, (ss'.zip vs)[i]? = some d ∧ y = .bl (valid k d.1 d.2)) (fun _ _ _ _ _ h => h) (ianil _) (by omega) (by omega) ?step ?done
    case step =>
      intro i H1 Nx hi g1 nx
      have hx1 : zs1[i]? = some (zs1[i]'(by omega)) := List.getElem?_eq_getElem (by omega)
      have hy1 : zs[i]? = some (zs[i]'(by omega)) := List.getElem?_eq_getElem (by omega)
      obtain ⟨d1, hd1, hxd1⟩ := hr4.get hx1
      obtain ⟨d2, hd2, hxd2⟩ := hr3.get hy1
      walk_at "go"
      refine w_ixTn (n := i) (xs := zs1) (by walk_at "ft") (by omega) hx1 ?_
      walk_at "go"
      refine w_ixTn (n := i) (xs := zs) (by walk_at "ft") (by omega) hy1 ?_
      walk_at "go"
      refine c_valid (by walk_at "ft") (by walk_at "ft") (hss d1 (List.mem_of_getElem? hd1)) (gv_item (by omega) (hx d2 (List.mem_of_getElem? hd2))) fun H2 g2 => ?_
      exact nx _ _ g2 ⟨_, zip_get hd1 hd2, rfl⟩
    case done =>
      intro D bs H2 hD g2 e hl2 hp
      walk_at "go"
      refine w_allF (f := fun p : PyData × PyData => valid k p.1 p.2) (ds := ss'.zip vs) e (by rw [List.length_zip]; omega) hp ?_
      rw [zipAll_zip]
      exact q _ g2
  walk_at "go"
  have c13 : wd = "object" := by
    rcases ss.one with z | z | z | z | z | z | z | z | z | z | z | z | z
    · exact absurd z c1
    · exact absurd z c2
    · exact absurd z c3
    · exact absurd z c4
    · exact absurd z c5
    · exact absurd z c6
    · exact absurd z c7
    · exact absurd z c11
    · exact absurd z c12
    · exact absurd z c8
    · exact absurd z c9
    · exact absurd z c10
    · exact z
  subst c13
  obtain ⟨rows, o, rfl, hel, hrs, ho⟩ := ss.object rfl
  have q : ∀ H', G [] H H' → Q (.bl (validObject k rows o (tg wv rv))) H' := q
  refine w_iteEqS (fun c => ?_) (fun c => ?_)
  · subst c
    obtain ⟨k', vs, ek, rfl, hl, hx⟩ := sv.object rfl
    cases hr2 with
    | cons hv hnil =>
    cases hnil
    obtain ⟨p3, zs, rfl, hp3, hr3⟩ := hv.tupE
    have ev : validObject k rows o (tg "object" [.tuple vs]) = ((rows.all fun r => !(boolD (arg 2 r) && !hasName vs (strD (arg 0 r)))) && vs.all fun f => valid k (inner rows (strD (arg 0 f)) o) (arg 1 f)) := by
      unfold validObject
      rw [word_tg, decide_eq_true rfl, Bool.true_and]
      rfl
    rw [ev] at q
    walk_at "go"
    exact c_fields (k' := k') h1 hel hrs ho hv hl hx (by omega) fun H' g' => q H' g'
  · have z := q H (G.refl _ _)
    rw [show validObject k rows o (tg wv rv) = false by unfold validObject; rw [word_tg, decide_eq_false c]; rfl] at z
    exact z
end
end
/-! ### promises of the defs that draw -/
def spG (mk : List V → Hp → List (Addr × Nat) → (V → Hp → Prop) → Prop) : Sp := fun vs H Q _ => ∃ (A : List (Addr × Nat)) (R : V → Hp → Prop), IA A H ∧ mk vs H A R ∧ ∀ v H', G A H H' → R v H' → Q v H'
theorem c_g {mk : List V → Hp → List (Addr × Nat) → (V → Hp → Prop) → Prop} {vs : List V} {H : Hp} {Q : VK} {E : XK} {A : List (Addr × Nat)} (R : V → Hp → Prop) (ia : IA A H) (h : mk vs H A R) (q : ∀ v H', G A H H' → R v H' → Q v H') : spG mk vs H Q E := ⟨A, R, ia, h, q⟩
/-- a draw: at least 0, less than m -/
def spDraw : Sp := spG fun vs H A R => ∃ (a : Addr) (m : Int), vs = [.ref a, .int m] ∧ (a, 3) ∈ A ∧ 0 < m ∧ m ≤ 10 ^ 20 ∧ R = fun v _ => ∃ n : Int, v = .int n ∧ 0 ≤ n ∧ n < m
theorem c_draw {H : Hp} {Q : VK} {E : XK} {A : List (Addr × Nat)} {a : Addr} {m : Int} (ia : IA A H) (hA : (a, 3) ∈ A) (h0 : 0 < m) (h1 : m ≤ 10 ^ 20) (q : ∀ (n : Int) H', G A H H' → 0 ≤ n → n < m → Q (.int n) H') : spDraw [.ref a, .int m] H Q E :=
  c_g _ ia ⟨a, m, rfl, hA, h0, h1, rfl⟩ fun v H' g ⟨n, e, h0, h1⟩ => by subst e; exact q n H' g h0 h1
/-- an arguments' list that is the source alone -/
def mk1 (T : V → Hp → Prop) : List V → Hp → List (Addr × Nat) → (V → Hp → Prop) → Prop := fun vs H A R => ∃ a : Addr, vs = [.ref a] ∧ (a, 3) ∈ A ∧ R = T
def tChar (v : V) (_ : Hp) : Prop := ∃ c : Nat, v = .str ⟨#[c]⟩ ∧ c < 128
def tName (v : V) (_ : Hp) : Prop := ∃ s, v = .str s ∧ s.length ≤ 30 ∧ s.cps.all (· < 0x110000) = true
def tInt (v : V) (_ : Hp) : Prop := ∃ n : Int, v = .int n
def tLeaf (v : V) (H : Hp) : Prop := ∃ d, Rep H v d ∧ OkL d
def tVal (N k : Nat) (v : V) (H : Hp) : Prop := ∃ d, Rep H v d ∧ OkV N k d
def tSch (k : Nat) (v : V) (H : Hp) : Prop := ∃ d, Rep H v d ∧ OkSch k d
theorem tVal.mono {N k : Nat} {v : V} {H H' : Hp} (t : T H H') (h : tVal N k v H) : tVal N k v H' := by
  obtain ⟨d, h, o⟩ := h
  exact ⟨d, h.mono t, o⟩
theorem tLeaf.mono {v : V} {H H' : Hp} (t : T H H') (h : tLeaf v H) : tLeaf v H' := by
  obtain ⟨d, h, o⟩ := h
  exact ⟨d, h.mono t, o⟩
theorem tSch.mono {k : Nat} {v : V} {H H' : Hp} (t : T H H') (h : tSch k v H) : tSch k v H' := by
  obtain ⟨d, h, o⟩ := h
  exact ⟨d, h.mono t, o⟩
def spChar : Sp := spG (mk1 tChar)
def spName : Sp := spG (mk1 tName)
def spNumber : Sp := spG (mk1 tInt)
def spLeaf : Sp := spG (mk1 tLeaf)
def spSmall : Sp := spG (mk1 (tVal 100 1))
def spBroad : Sp := spG (mk1 (tSch 2))
theorem c_1 {T : V → Hp → Prop} {H : Hp} {Q : VK} {E : XK} {A : List (Addr × Nat)} {a : Addr} (ia : IA A H) (hA : (a, 3) ∈ A) (q : ∀ v H', G A H H' → T v H' → Q v H') : spG (mk1 T) [.ref a] H Q E :=
  c_g T ia ⟨a, rfl, hA, rfl⟩ q
/-- an object of pairs -/
def spObject : Sp := fun vs H Q _ => ∃ (l : Addr) (xs : List V) (fs : List PyData) (N k : Nat), vs = [.ref l] ∧ H l = some (.lst xs) ∧ Reps H xs fs ∧ (∀ f ∈ fs, OkF N k f) ∧ fs.length ≤ N ∧ N ≤ 4000 ∧ ∀ v H' d, G [] H H' → Rep H' v d → OkV N (k + 1) d → Q v H'
theorem c_object {H : Hp} {Q : VK} {E : XK} {l : Addr} {xs : List V} {fs : List PyData} {N k : Nat} (h1 : H l = some (.lst xs)) (h2 : Reps H xs fs) (h3 : ∀ f ∈ fs, OkF N k f) (h4 : fs.length ≤ N) (h5 : N ≤ 4000) (q : ∀ v H' d, G [] H H' → Rep H' v d → OkV N (k + 1) d → Q v H') : spObject [.ref l] H Q E :=
  ⟨l, xs, fs, N, k, rfl, h1, h2, h3, h4, h5, q⟩
def spValue (n : Nat) : Sp := spG fun vs H A R => ∃ (a : Addr) (dp : Int), vs = [.ref a, .int dp] ∧ (a, 3) ∈ A ∧ dp ≤ n + 1 ∧ R = tVal 100 n
/-- a token, or None -/
def spToken : Sp := spG fun vs H A R => ∃ (a : Addr) (x : V) (d : PyData) (N k : Nat), vs = [.ref a, x] ∧ (a, 3) ∈ A ∧ Rep H x d ∧ OkV N k d ∧ N ≤ 4000 ∧ R = fun v H' => v = .non ∨ ∃ t, Rep H' v t ∧ OkT t ∧ childD d t ≠ none
def tPath (m : Int) (v : V) (H : Hp) : Prop := ∃ ts, Rep H v (.tuple ts) ∧ (∀ t ∈ ts, OkT t) ∧ (ts.length : Int) ≤ m
def mkP : List V → Hp → List (Addr × Nat) → (V → Hp → Prop) → Prop := fun vs H A R => ∃ (a : Addr) (x : V) (d : PyData) (N k : Nat) (m : Int), vs = [.ref a, x, .int m] ∧ (a, 3) ∈ A ∧ Rep H x d ∧ OkV N k d ∧ N ≤ 4000 ∧ 0 ≤ m ∧ m ≤ 3 ∧ R = tPath m
def spPath : Sp := spG mkP
def spTarget : Sp := spG mkP
def spBounds : Sp := spG fun vs H A R => ∃ (a : Addr) (b : Int), vs = [.ref a, .int b] ∧ (a, 3) ∈ A ∧ R = fun v H' => ∃ lo hi, Rep H' v (.tuple [.int lo, hi]) ∧ b ≤ lo ∧ lo ≤ b + 3 ∧ (hi = .none ∨ ∃ h : Int, hi = .int h ∧ b ≤ h ∧ h ≤ b + 8)
def spLeafSchema : Sp := spG fun vs H A R => ∃ (a r : Addr), vs = [.ref a, .ref r] ∧ (a, 3) ∈ A ∧ (r, 1) ∈ A ∧ R = tSch 1
def spRows (n : Nat) : Sp := spG fun vs H A R => ∃ (a r : Addr) (dp : Int), vs = [.ref a, .int dp, .ref r] ∧ (a, 3) ∈ A ∧ (r, 1) ∈ A ∧ dp ≤ n + 1 ∧ R = fun v H' => ∃ rs, Rep H' v (.tuple rs) ∧ rs.length ≤ 20 ∧ ∀ x ∈ rs, OkR (n + 1) x
def spSchema (n : Nat) : Sp := spG fun vs H A R => ∃ (a r : Addr) (dp : Int), vs = [.ref a, .int dp, .ref r] ∧ (a, 3) ∈ A ∧ (r, 1) ∈ A ∧ dp ≤ n + 1 ∧ R = tSch (n + 1)
def spInside : Sp := spG fun vs H A R => ∃ (a : Addr) (x y : V) (lo hi : PyData) (far : Int), vs = [.ref a, x, y, .int far] ∧ (a, 3) ∈ A ∧ Rep H x lo ∧ Rep H y hi ∧ OkB lo ∧ OkB hi ∧ 0 ≤ far ∧ far ≤ 10 ^ 6 ∧
  R = fun v _ => v = .non ∨ ∃ n : Int, v = .int n ∧ (∀ l, lo = .int l → l ≤ n ∧ (hi = .none → n ≤ l + far)) ∧ ∀ h, hi = .int h → n ≤ h
def tOptV (N k : Nat) (v : V) (H : Hp) : Prop := OptV N k H v
def mkM (k : Nat) (P : PyData → Prop) : List V → Hp → List (Addr × Nat) → (V → Hp → Prop) → Prop := fun vs H A R => ∃ (a : Addr) (x : V) (s : PyData), vs = [.ref a, x] ∧ (a, 3) ∈ A ∧ Rep H x s ∧ P s ∧ R = tOptV 100 (k + 2)
def spMade (k : Nat) : Sp := spG (mkM k (OkSch k))
def spMadeList (k : Nat) : Sp := spG (mkM (k + 1) fun s => ∃ e lo hi, s = tg "list" [e, lo, hi] ∧ OkSch k e ∧ OkC lo hi)
def spMadeObject (k : Nat) : Sp := spG (mkM (k + 1) fun s => ∃ rs o, s = tg "object" [.tuple rs, o] ∧ rs.length ≤ 20 ∧ (∀ r ∈ rs, OkR k r) ∧ OkSch k o)
def mkV (f : Nat → Nat → V → Hp → Prop) : List V → Hp → List (Addr × Nat) → (V → Hp → Prop) → Prop := fun vs H A R => ∃ (a : Addr) (x : V) (d : PyData) (N k : Nat), vs = [.ref a, x] ∧ (a, 3) ∈ A ∧ Rep H x d ∧ OkV N k d ∧ N ≤ 300 ∧ R = f N k
def spChanged : Sp := spG (mkV fun N k => tVal (N + 2) (k + 4))
def spStretched : Sp := spG (mkV fun N k => tVal (5 * N + 14) k)
def spSource : Sp := fun vs H Q _ => ∃ (n : Int), vs = [.int n] ∧ ∀ a H', H a = none → G [] H H' → Ints 3 H' a → Q (.ref a) H'
theorem c_source {H : Hp} {Q : VK} {E : XK} {n : Int} (q : ∀ a H', H a = none → G [] H H' → Ints 3 H' a → Q (.ref a) H') : spSource [.int n] H Q E := ⟨n, rfl, q⟩
/-! ### lists of ints that are written -/
theorem G.set {A : List (Addr × Nat)} {H : Hp} {a : Addr} {n : Nat} {ns : List Int} (ia : IA A H) (hA : (a, n) ∈ A) (hl : ns.length = n) : G A H (upd H a (.lst (ns.map V.int))) := by
  obtain ⟨ms, hm, e⟩ := ia _ hA
  refine ⟨T.lst e, fun b o hb eb => ?_, fun _ q hq => ?_⟩
  · have n : b ≠ a := fun z => hb (List.mem_map.mpr ⟨_, hA, z.symm⟩)
    rw [upd_ne n]
    exact eb
  · obtain ⟨ks, hk, ek⟩ := ia q hq
    by_cases z : q.1 = a
    · have e2 : H a = some (.lst (ks.map V.int)) := z ▸ ek
      have e3 : ks.map V.int = ms.map V.int := by
        have := e2.symm.trans e
        exact HO.lst.inj (Option.some.inj this)
      have e4 : ks.length = ms.length := by
        have := congrArg List.length e3
        rwa [List.length_map, List.length_map] at this
      refine ⟨ns, ?_, ?_⟩
      · rw [hl, ← hk, e4]
        exact hm.symm
      · rw [z, upd_same]
    · refine ⟨ks, hk, ?_⟩
      rw [upd_ne z]
      exact ek
/-- a list of ints that was made here takes part, then is let go -/
theorem IA.cons {A : List (Addr × Nat)} {H : Hp} {r : Addr} {n : Nat} (ia : IA A H) (h : Ints n H r) : IA ((r, n) :: A) H := fun p hp => by
  rcases List.mem_cons.mp hp with e | hp
  · subst e
    exact h
  · exact ia p hp
theorem G.drop {A : List (Addr × Nat)} {H H1 H' : Hp} {r : Addr} {n : Nat} (g0 : G A H H1) (hr : H r = none) (hi : Ints n H1 r) (g : G ((r, n) :: A) H1 H') : G A H H' := by
  refine ⟨g0.t.trans g.t, fun a o ha e => ?_, fun ia => ?_⟩
  · have n : a ≠ r := ne_of_none e hr
    refine g.k a o (fun z => ?_) (g0.k a o ha e)
    have z2 : a ∈ r :: A.map (·.1) := z
    rcases List.mem_cons.mp z2 with z | z
    · exact n z
    · exact ha z
  · intro p hp
    exact g.i ((g0.i ia).cons hi) p (List.mem_cons_of_mem _ hp)
section
variable {K : PySem.W.Frag} {A : List (Addr × Nat)} {σ : L2.St} {H H' : Hp} {Q : VK} {a l : Addr} {i : Int}
theorem ints3 (h : Ints 3 H a) : ∃ x y z : Int, H a = some (.lst [.int x, .int y, .int z]) := by
  obtain ⟨ns, hl, e⟩ := h
  match ns, hl with
  | [x, y, z], _ => exact ⟨x, y, z, e⟩
theorem ints1 (h : Ints 1 H a) : ∃ x : Int, H a = some (.lst [.int x]) := by
  obtain ⟨ns, hl, e⟩ := h
  match ns, hl with
  | [x], _ => exact ⟨x, e⟩
theorem w_gsub {to ti : TE} {t : TSet} {v : V} {QS : L2.St → Hp → Prop} (q : to σ H fun o H1 => ti σ H1 fun i H2 => t o i v H2 fun H3 => QS σ H3) : gSub to ti t v σ H QS := q
theorem w_setL {xs : List V} {v : V} {j : Nat} {QH : Hp → Prop} (h : H l = some (.lst xs)) (hj : ixN xs.length i = some j) (q : QH (upd H l (.lst (xs.set j v)))) : rSetL (.ref l) (.int i) v H QH := ⟨l, xs, i, j, rfl, rfl, h, hj, q⟩
theorem cdivw {m : Int} {i : Int} (h0 : 0 < m) (h1 : m ≤ 10 ^ 20) : CDivW i m := wide_div (b := 70) h0 (by omega) (by decide) (by decide)
theorem w_app {to : TE} {t : TA} (q : to σ H fun x H1 => tyV K "list" x H1 ∧ t σ H1 fun xs H2 => rAppend x xs H2 Q) : tBM K "list" rAppend to t σ H Q := q
theorem w_ty {xs : List V} {Y : Prop} (h : H l = some (.lst xs)) (q : Y) : tyV K "list" (.ref l) H ∧ Y := ⟨.inl ⟨rfl, xs, SqL.of h⟩, q⟩
theorem w_append {xs : List V} {v : V} (h : H l = some (.lst xs)) (hl : xs.length ≤ 100000) (q : Q .non (upd H l (.lst (xs ++ [v])))) : rAppend (.ref l) [v] H Q := ⟨l, xs, v, rfl, rfl, h, Nat.lt_of_le_of_lt hl (by decide), q⟩
end

theorem w_m1 {r : V → List V → Hp → VK → Prop} {to te : TE} {σ : L2.St} {H : Hp} {Q : VK} (q : to σ H fun x H1 => (∃ a, x = .str a) ∧ te σ H1 fun y H2 => r x [y] H2 Q) : tM1 r to te σ H Q := q
theorem rep_small {s : Str} {n : Int} (hs : s = "name" ∨ s = "!") (h0 : 0 ≤ n) (h1 : n ≤ 3) : MulOk s n ∧ (Txt.mul s n).length ≤ 12 ∧ (Txt.mul s n).cps.all (· < 0x110000) = true := by
  have h : n = 0 ∨ n = 1 ∨ n = 2 ∨ n = 3 := by omega
  rcases hs with rfl | rfl <;> rcases h with rfl | rfl | rfl | rfl <;> (unfold MulOk; decide +kernel)
theorem glue_ok : ∀ (l : List Str) (acc : Array Nat), (∀ y ∈ l, y.cps.size ≤ 1 ∧ y.cps.all (· < 0x110000) = true) → acc.all (· < 0x110000) = true →
    (l.foldl (fun acc p => acc ++ (Str.ofString "").cps ++ p.cps) acc).size ≤ acc.size + l.length ∧ (l.foldl (fun acc p => acc ++ (Str.ofString "").cps ++ p.cps) acc).all (· < 0x110000) = true
  | [], acc, _, ha => ⟨Nat.le_refl _, ha⟩
  | y :: l, acc, h, ha => by
    have e0 : (Str.ofString "").cps = #[] := by decide +kernel
    obtain ⟨h1, h2⟩ := h y (by simp)
    rw [List.foldl_cons]
    have ih := glue_ok l (acc ++ (Str.ofString "").cps ++ y.cps) (fun z hz => h z (by simp [hz])) (by rw [e0, Array.append_empty, Array.all_append, ha, h2]; rfl)
    refine ⟨Nat.le_trans ih.1 ?_, ih.2⟩
    rw [e0, Array.append_empty, Array.size_append, List.length_cons]
    omega
theorem join_ok {ys : List Str} (h : ∀ y ∈ ys, y.cps.size ≤ 1 ∧ y.cps.all (· < 0x110000) = true) : (Txt.join (Str.ofString "") ys).length ≤ ys.length ∧ (Txt.join (Str.ofString "") ys).cps.all (· < 0x110000) = true := by
  cases ys with
  | nil => exact ⟨Nat.le_refl _, by decide +kernel⟩
  | cons y l =>
    obtain ⟨h1, h2⟩ := h y (by simp)
    have q := glue_ok l y.cps (fun z hz => h z (by simp [hz])) h2
    refine ⟨?_, q.2⟩
    have e : (Txt.join (Str.ofString "") (y :: l)).length = (l.foldl (fun acc p => acc ++ (Str.ofString "").cps ++ p.cps) y.cps).size := rfl
    rw [e, List.length_cons]
    omega
theorem chars_of {H : Hp} : ∀ {ys : List V}, (∀ y ∈ ys, tChar y H) → ∃ ss : List Str, ys = ss.map V.str ∧ ss.length = ys.length ∧ ∀ s ∈ ss, s.cps.size ≤ 1 ∧ s.cps.all (· < 0x110000) = true
  | [], _ => ⟨[], rfl, rfl, fun _ h => nomatch h⟩
  | y :: ys, h => by
    obtain ⟨c, e, hc⟩ := h y (by simp)
    obtain ⟨ss, e2, hl, h2⟩ := chars_of (H := H) (ys := ys) fun z hz => h z (by simp [hz])
    refine ⟨⟨#[c]⟩ :: ss, by rw [e, e2]; rfl, by rw [List.length_cons, List.length_cons, hl], fun s hs => ?_⟩
    rcases List.mem_cons.mp hs with e | hs
    · subst e
      refine ⟨Nat.le_refl _, ?_⟩
      show (#[c] : Array Nat).all (· < 0x110000) = true
      rw [Array.all_eq_true]
      intro i hi
      have : i = 0 := by
        have : (#[c] : Array Nat).size = 1 := rfl
        omega
      subst this
      show decide (c < 0x110000) = true
      exact decide_eq_true (by omega)
    · exact h2 s hs
theorem sum_le_one : ∀ {ss : List Str}, (∀ s ∈ ss, s.cps.size ≤ 1) → (ss.map (·.length)).sum ≤ ss.length
  | [], _ => Nat.le_refl _
  | s :: ss, h => by
    have ih := sum_le_one (ss := ss) fun z hz => h z (by simp [hz])
    have h1 : s.length ≤ 1 := h s (by simp)
    rw [List.map_cons, List.sum_cons, List.length_cons]
    omega
theorem str_add {a b : Str} {m n : Nat} (h1 : a.length ≤ m ∧ a.cps.all (· < 0x110000) = true) (h2 : b.length ≤ n ∧ b.cps.all (· < 0x110000) = true) : (a ++ b).length ≤ m + n ∧ (a ++ b).cps.all (· < 0x110000) = true := by
  have e1 : (a ++ b).length = a.length + b.length := by
    show (a.cps ++ b.cps).size = _
    rw [Array.size_append]
    rfl
  have e2 : (a ++ b).cps = a.cps ++ b.cps := rfl
  refine ⟨by omega, ?_⟩
  rw [e2, Array.all_append, h1.2, h2.2]
  rfl
theorem mem_of_ix {P : V → Hp → Prop} {ys : List V} {H : Hp} (h : ∀ (i : Nat) y, ys[i]? = some y → P y H) : ∀ y ∈ ys, P y H := fun y hy => by
  obtain ⟨i, hi⟩ := List.mem_iff_getElem?.mp hy
  exact h i y hi
theorem at_ofG {α : Type} {xs : List α} {z : Int} {j : Nat} {v : α} (e : z = (j : Int)) (h : xs[j]? = some v) : atI xs z = some v := by
  rw [e]
  exact atI_nat h

theorem OkR.mono {k k' : Nat} {r : PyData} (hk : k ≤ k') (h : OkR k r) : OkR k' r := by
  obtain ⟨n, s, b, e, hn, hs⟩ := h
  exact ⟨n, s, b, e, hn, OkSch.mono hk hs⟩
theorem rep_row {H : Hp} {p : Addr} {n : Str} {v : V} {d : PyData} {b : Bool} (hp : H p = some (.tup [.str n, v, .bl b])) (hr : Rep H v d) : Rep H (.ref p) (.tuple [.str n, d, .bool b]) :=
  .tup hp (.cons (.str _) (.cons hr (.cons (.bl _) .nil)))
theorem G.alloc {A : List (Addr × Nat)} {H H1 H' : Hp} {r : Addr} {n : Nat} (hr : H r = none) (g0 : G [] H H1) (hi : Ints n H1 r) (g : G ((r, n) :: A) H1 H') : G A H H' := G.drop g0.any hr hi g
theorem ints1_of {H : Hp} {r : Addr} {i : Int} (h : H r = some (.lst [.int i])) : Ints 1 H r := ⟨[i], rfl, h⟩

theorem room65 {k : Nat} {A : Around} (hr : Room k A) : A.units + 65 < cLine := by
  have := hr.un
  omega
theorem OkC.b {lo hi : PyData} (h : OkC lo hi) : OkB lo ∧ OkB hi := by
  obtain ⟨⟨i, h, h0, h1⟩, h2⟩ := h
  refine ⟨.inr ⟨i, h, by omega, by omega⟩, ?_⟩
  rcases h2 with h | ⟨i, h, h0, h1⟩
  · exact .inl h
  · exact .inr ⟨i, h, by omega, by omega⟩
/-- None in a list of values, some of them None -/
theorem w_inN {K : PySem.W.Frag} {H : Hp} {Q : VK} {p : Addr} {xs : List V} {N k : Nat} (hk : k ≤ 15) (h : H p = some (.lst xs)) (hx : ∀ x ∈ xs, OptV N k H x) (qT : Q (.bl true) H) (qF : (∀ x ∈ xs, tVal N k x H) → Q (.bl false) H) : rInD K .non (.ref p) H Q := by
  obtain ⟨ds, hds, ods⟩ : ∃ ds, Reps H xs ds ∧ ∀ d ∈ ds, d = .none ∨ OkV N k d := Reps.ofM fun v hv => by
    rcases hx v hv with rfl | ⟨d, hd, od⟩
    · exact ⟨.none, .non, .inl rfl⟩
    · exact ⟨d, hd, .inr od⟩
  have hsh : SeqAt.shaped (.list ds) = true := by
    obtain ⟨h1, h2⟩ := lay_all ds (3 * k + 1) fun d hd => by
      rcases ods d hd with rfl | o
      · simp [PyData.canLay0, PyData.depth]
      · exact gv_shape k d o
    unfold SeqAt.shaped
    rw [Bool.and_eq_true]
    refine ⟨by simp only [PyData.canLay0]; exact h1, decide_eq_true ?_⟩
    simp only [PyData.depth]
    omega
  have hsn : SeqAt.shaped PyData.none = true := by
    unfold SeqAt.shaped
    simp [PyData.canLay0, PyData.depth]
  refine ⟨.none, ds, .non, .lst (SqL.of h) hds.dp, hsn, hsh, ?_⟩
  cases hany : ds.any fun z => PyData.eqv z .none with
  | true => exact qT
  | false =>
    refine qF fun x hxm => ?_
    obtain ⟨d, hd, hr⟩ := hds.mem hxm
    rcases ods d hd with rfl | o
    · have := List.any_eq_false.mp hany _ hd
      exact absurd (by simp [PyData.eqv]) this
    · exact ⟨d, hr, o⟩
theorem OptV.up {N k k' : Nat} {H : Hp} {v : V} (hk : k ≤ k') (h : OptV N k H v) : OptV N k' H v := by
  rcases h with h | ⟨d, h, o⟩
  · exact .inl h
  · exact .inr ⟨d, h, OkV.mono (Nat.le_refl _) hk o⟩
theorem Def.imp {P : Program} {w : World} {K : PySem.W.Frag} {mg : Str → Option Value} {base : Heap} {x : Str} {ps : List Str} {k : Nat} {sp sp' : Sp} (D : Def P w K mg base k x ps sp) (h : ∀ vs H Q E, sp' vs H Q E → sp vs H Q E) : Def P w K mg base k x ps sp' := by
  obtain ⟨f, fd, F, e, kp, b⟩ := D.ex
  exact ⟨f, fd, F.imp h, e, kp, b⟩
theorem w_listT {K : PySem.W.Frag} {H : Hp} {Q : VK} {p : Addr} {xs : List V} (h : H p = some (.tup xs)) (q : ∀ l H', H l = none → G [] H H' → H' l = some (.lst xs) → Q (.ref l) H') : rList K [.ref p] H Q := ⟨p, xs, rfl, .inr (SqT.of h), fun l hl => q l _ hl (G.new hl) upd_same⟩
theorem w_rep {H : Hp} {Q : VK} {l : Addr} {xs : List V} {m : Int} (h : H l = some (.lst xs)) (h0 : 0 ≤ m) (h1 : m ≤ 1000) (h2 : xs.length * m.toNat ≤ 100000) (q : ∀ p H', H p = none → G [] H H' → H' p = some (.lst (List.replicate m.toNat xs).flatten) → Q (.ref p) H') : rRep (.ref l) (.int m) H Q :=
  ⟨l, m, xs, rfl, rfl, h, by omega, by omega, Nat.le_trans h2 (by decide), fun p hp => q p _ hp (G.new hp) upd_same⟩
theorem flat_mem {xs : List V} {m : Nat} {x : V} (h : x ∈ (List.replicate m xs).flatten) : x ∈ xs := by
  obtain ⟨ys, h1, h2⟩ := List.mem_flatten.mp h
  rw [(List.mem_replicate.mp h1).2] at h2
  exact h2
theorem flat_len {xs : List V} {m : Nat} : (List.replicate m xs).flatten.length = m * xs.length := by
  simp
theorem OkF.up {N N' k k' : Nat} {f : PyData} (h1 : N ≤ N') (h2 : k ≤ k') (h : OkF N k f) : OkF N' k' f := by
  obtain ⟨n, x, e, hn, hx⟩ := h
  exact ⟨n, x, e, hn, OkV.mono h1 h2 hx⟩
def spCell (K : PySem.W.Frag) : Sp := fun vs H Q _ => ∃ (l : Addr) (ns : List Int) (i : Int), vs = [.ref l, .int i] ∧ SqL K H l (ns.map V.int) ∧ 0 ≤ i ∧ i < 2 ^ 62 ∧ ∀ n : Int, Q (.int n) H
theorem c_cell {K : PySem.W.Frag} {H : Hp} {Q : VK} {E : XK} {l : Addr} {ns : List Int} {i : Int} (h : SqL K H l (ns.map V.int)) (h0 : 0 ≤ i) (h1 : i < 2 ^ 62) (q : ∀ n : Int, Q (.int n) H) : spCell K [.ref l, .int i] H Q E := ⟨l, ns, i, rfl, h, h0, h1, q⟩
theorem w_ixS {K : PySem.W.Frag} {H : Hp} {Q : VK} {p : Addr} {xs : List V} {i : Int} {v : V} (h : SqL K H p xs) (e : atI xs i = some v) (q : Q v H) : rIxL K (.ref p) (.int i) H Q := ⟨p, xs, i, v, rfl, rfl, h, e, q⟩
theorem SqL.g {K : PySem.W.Frag} {H H' : Hp} {p : Addr} {xs : List V} (h : SqL K H p xs) (g : G [] H H') : SqL K H' p xs := by
  rcases h with (h | ⟨o, h⟩) | h
  · exact .inl (.inl (g.k _ _ nil_nin h))
  · exact .inl (.inr ⟨o, g.k _ _ nil_nin h⟩)
  · exact .inr h
theorem w_catL {H : Hp} {Q : VK} {l b : Addr} {xs ys : List V} (h1 : H l = some (.lst xs)) (h2 : H b = some (.lst ys)) (hz : xs.length + ys.length ≤ 100000) (q : ∀ p H', H p = none → G [] H H' → H' p = some (.lst (xs ++ ys)) → Q (.ref p) H') : rCat (.ref l) (.ref b) H Q :=
  ⟨l, b, xs, ys, rfl, rfl, h1, h2, Nat.le_trans hz (by decide), fun p hp => q p _ hp (G.new hp) upd_same⟩
/-- a fresh source, then a call that uses it -/
theorem c_with_src {f : List V → Hp → List (Addr × Nat) → (V → Hp → Prop) → Prop} {H H1 : Hp} {Q : VK} {E : XK} {a : Addr} {vs : List V} (R : V → Hp → Prop) (na : H a = none) (g1 : G [] H H1) (hi : Ints 3 H1 a) (h : f vs H1 [(a, 3)] R) (q : ∀ v H', G [] H H' → R v H' → Q v H') : spG f vs H1 Q E :=
  c_g (A := [(a, 3)]) R (IA.cons (ianil _) hi) h fun v H' g' hv => q v H' (G.alloc na g1 hi g') hv
def spLaw (K : PySem.W.Frag) : Sp := fun vs H Q _ => ∃ (l : Addr) (ns : List Int), vs = [.ref l] ∧ SqL K H l (ns.map V.int) ∧ ns.length ≤ 63 ∧ ∀ H', Q (.bl true) H'
theorem int_mem {lo hi : Option Int} {ns : List Int} {i : Nat} {x : V} (h : (cutV (ns.map V.int) lo hi)[i]? = some x) : ∃ n, x = .int n := by
  obtain ⟨n, _, e⟩ := List.mem_map.mp (cut_mem (List.mem_of_getElem? h))
  exact ⟨n, e.symm⟩
theorem w_lenQ {K : PySem.W.Frag} {H : Hp} {Q : VK} {p : Addr} {xs : List V} (h : SqL K H p xs) (q : Q (.int xs.length) H) : rLen K [.ref p] H Q := ⟨.ref p, xs.length, rfl, .inl ⟨xs, h, rfl⟩, q⟩
theorem Ints.g {n : Nat} {H H' : Hp} {a : Addr} (h : Ints n H a) (g : G [] H H') : Ints n H' a := by
  obtain ⟨ns, hl, e⟩ := h
  exact ⟨ns, hl, g.k _ _ nil_nin e⟩
theorem G.none {H H' : Hp} {a : Addr} (g : G [] H H') (h : H' a = none) : H a = none := by
  cases e : H a with
  | none => rfl
  | some o =>
    have := g.k _ _ nil_nin e
    rw [h] at this
    cases this
theorem tVal.up {N N' k k' : Nat} {v : V} {H : Hp} (h1 : N ≤ N') (h2 : k ≤ k') (h : tVal N k v H) : tVal N' k' v H := by
  obtain ⟨d, h, o⟩ := h
  exact ⟨d, h, OkV.mono h1 h2 o⟩
section

local macro_rules | `(tactic| walk_at "ft") => `(tactic| first
  | assumption
  | ((with_reducible refine f_tup (A := ?A) (H := ?H) ?g ?h); (case g => assumption); (case h => walk_at "ft"))
  | ((with_reducible refine f_lst (A := ?A) (H := ?H) ?g ?n ?h); (case g => assumption); (case n => first | exact nil_nin | assumption); (case h => walk_at "ft"))
  | ((with_reducible refine f_rep (A := ?A) (H := ?H) ?g ?h); (case g => assumption); (case h => walk_at "ft"))
  | ((with_reducible refine f_reps (A := ?A) (H := ?H) ?g ?h); (case g => assumption); (case h => walk_at "ft"))
  | ((with_reducible refine f_iaA (H := ?H) ?g ?h); (case g => assumption); (case h => walk_at "ft"))
  | ((with_reducible refine f_ia0 (H := ?H) ?g ?h); (case g => assumption); (case h => walk_at "ft"))
  | ((with_reducible refine f_g (H := ?H) ?g ?h); (case g => assumption); (case h => walk_at "ft"))
  | ((with_reducible refine f_g0 (H := ?H) ?g ?h); (case g => assumption); (case h => walk_at "ft"))
  | with_reducible exact G.refl _ _)
local macro_rules | `(tactic| walk_at "g1") => `(tactic| first
  | ((with_reducible refine w_var (v := ?v) ?h ?q); (case h => exact rfl))
  | with_reducible refine w_C ?_
  | with_reducible refine w_op ?_
  | with_reducible refine w_un ?_
  | with_reducible refine w_cons ?_
  | with_reducible refine w_nil ?_
  | with_reducible refine w_cb ?_
  | with_reducible refine w_call ?_
  | with_reducible refine w_tup ?_
  | with_reducible refine w_lst ?_
  | ((with_reducible refine w_mkT ?h ?q); (case h => exact sz100 rfl); intro p H' np g hp)
  | ((with_reducible refine w_mkL ?h ?q); (case h => exact sz100 rfl); intro p H' np g hp)
  | with_reducible refine w_seq ?_
  | with_reducible refine w_next ?_
  | with_reducible refine w_asg ?_
  | ((with_reducible refine w_gnameS (σ' := ?s) ?h ?q); (case h => (simp only [wipe, List.map_cons, List.map_nil, List.set_cons_zero, List.set_cons_succ]; exact rfl)))
  | with_reducible refine w_gname ?_
  | with_reducible refine w_ret ?_
  | with_reducible refine w_drop ?_
  | with_reducible refine w_ifS ?_
  | with_reducible refine w_B ?_
  | with_reducible refine w_test ?_
  | with_reducible refine w_bl ?_
  | with_reducible refine w_and ?_
  | with_reducible refine w_or ?_
  | with_reducible refine w_not ?_
  | with_reducible refine w_andV ?_
  | with_reducible refine w_orV ?_
  | with_reducible refine w_notV ?_
  | with_reducible refine w_isN ?_
  | with_reducible refine w_notN ?_
  | with_reducible refine w_I0 ?_
  | with_reducible refine w_U ?_
  | ((with_reducible refine w_I ?hc ?q); (case hc => first | (show (0 : Int) < _; first | decide | assumption) | exact Or.inr ⟨by decide, by decide⟩ | exact Or.inl ⟨by decide, by decide⟩ | exact cdivw (by decide) (by decide) | exact ⟨by decide, by decide, by decide⟩))
  | with_reducible refine w_app ?_
  | with_reducible refine w_gsub ?_
  | with_reducible refine w_m1 ?_
  | ((with_reducible refine w_eq ?h ?q); (case h => exact rfl))
  | ((with_reducible refine w_ne ?h ?q); (case h => exact rfl))
  | ((with_reducible refine w_ixTn (xs := ?xs) (v := ?v) (n := ?n) ?h ?hi ?e ?q); (case h => walk_at "ft"); (case hi => exact rfl); (case e => exact rfl))
  | ((with_reducible refine w_ixLn (xs := ?xs) (v := ?v) (n := ?n) ?h ?hi ?e ?q); (case h => walk_at "ft"); (case hi => exact rfl); (case e => exact rfl))
  | ((with_reducible refine w_lenT (xs := ?xs) ?h ?q); (case h => walk_at "ft"))
  | ((with_reducible refine w_lenL (xs := ?xs) ?h ?q); (case h => walk_at "ft"))
  | ((with_reducible refine w_tupleL (xs := ?xs) ?h ?q); (case h => walk_at "ft"); intro p H' np g hp)
  | with_reducible refine iteT ?_
  | with_reducible refine iteF ?_
  | ((with_reducible refine w_wipe ?h ?q); (case h => exact rfl))
  | with_reducible refine it_nt ?_
  | with_reducible refine it_nf ?_
  | with_reducible refine w_lc ?_
  | with_reducible refine w_lcL ?_
  | with_reducible refine w_lcR ?_
  | with_reducible refine w_for ?_
  | with_reducible refine w_forL ?_
  | with_reducible refine w_forR ?_
  | ((with_reducible refine w_gtup (xs := ?xs) ?h ?hn ?q); (case h => walk_at "ft"); (case hn => exact rfl))
  | with_reducible refine w_gcons ?_
  | with_reducible refine w_gnil ?_
  | with_reducible refine w_slc ?_
  | with_reducible refine w_nopart ?_
  | with_reducible refine w_part ?_
  | with_reducible refine w_ex ?_
  | ((with_reducible refine w_sl (xs := ?xs) ?h ?q); (case h => walk_at "ft"); intro p H' g hp)
  | with_reducible refine w_isi_ii ?_
  | with_reducible refine w_isi_is ?_
  | with_reducible refine w_isi_si ?_
  | with_reducible refine w_isi_ss ?_
  | with_reducible refine w_isi_bb ?_
  | with_reducible refine w_str2 ?_
  | with_reducible refine w_int ?_
  | with_reducible refine w_intB ?_
  | with_reducible refine w_min ?_
  | with_reducible refine w_max ?_)
local macro_rules | `(tactic| walk_at "go") => `(tactic| repeat walk_at "g1")
local macro_rules | `(tactic| walk_at "st") => `(tactic| simp only [L2.start, List.map_cons, List.map_nil, List.length_cons, List.length_nil, List.reduceReplicate, Nat.reduceAdd, Nat.reduceSub, List.cons_append, List.nil_append, List.append_nil])

section
variable {P : Program} {w : World} {K : PySem.W.Frag} {mg : Str → Option Value} {base : Heap}
theorem D_law_draw (F : At K mg "_law_draw" s_law_draw ["_law_source_here", "_law_many"]) (Tg : Glob mg) : Def P w K mg base 1 "_law_draw" ["_law_source_here", "_law_many"] spDraw := by
  refine F.def sc_law_draw (fun vs H Q E h => ?_) (fun f cdv A outer s H vs Q E hr h => ?_)
  · obtain ⟨A, R, ia, ⟨a, m, rfl, _⟩, _⟩ := h
    rfl
  obtain ⟨A, R, ia, ⟨a, m, rfl, hA, h0, h1, rfl⟩, q⟩ := h
  have T := Tg
  refine ⟨_, (pss_cons (ps_if (pt_cmpR op_eq (pe_ix (ix_listK K) (pv 0) pe_int (fun _ _ => rfl)) pe_int (nomark _))
(pss_cons (ps_set (i := 2) sc_law_draw.nd rfl (by first | exact .inl rfl | exact .inr rfl) (pe_op op_mod (pe_callTy call_int1' (by rfl) T.n_int (by decide +kernel) (pa_cons (pe_ix (ix_listK K) (pv 0) pe_int (fun _ _ => rfl)) pa_nil)) (pv 1)))
(pss_cons (ps_asg (pe_op op_fdivW (pe_ix (ix_listK K) (pv 0) pe_int (fun _ _ => rfl)) (pv 1)) (pg_sub (pv 0) pe_int set_list))
(pss_one (ps_ret (pv 2)))))
pss_nil)
(pss_cons (ps_asg (pe_op op_add (pe_ix (ix_listK K) (pv 0) pe_int (fun _ _ => rfl)) pe_int) (pg_sub (pv 0) pe_int set_list))
(pss_cons (ps_set (i := 3) sc_law_draw.nd rfl (by first | exact .inl rfl | exact .inr rfl) (pe_op op_mod (pe_callTy call_int1' (by rfl) T.n_int (by decide +kernel) (pa_cons (pe_op op_add (pe_op op_mul (pe_ix (ix_listK K) (pv 0) pe_int (fun _ _ => rfl)) pe_int) (pe_op op_mul (pe_ix (ix_listK K) (pv 0) pe_int (fun _ _ => rfl)) pe_int)) pa_nil)) pe_int))
(pss_cons (ps_set (i := 3) sc_law_draw.nd rfl (by first | exact .inl rfl | exact .inr rfl) (pe_op op_mod (pe_callTy call_int1' (by rfl) T.n_int (by decide +kernel) (pa_cons (pe_op op_add (pe_op op_add (pe_op op_mul (pv 3) (pv 3)) (pe_op op_mul (pe_ix (ix_listK K) (pv 0) pe_int (fun _ _ => rfl)) pe_int)) (pe_op op_fdivW (pv 3) pe_int)) pa_nil)) pe_int))
(pss_one (ps_ret (pe_op op_mod (pe_callTy call_int1' (by rfl) T.n_int (by decide +kernel) (pa_cons (pe_op op_fdivW (pv 3) pe_int) pa_nil)) (pv 1)))))))), ?_⟩
  walk_at "st"
  obtain ⟨x, y, z, e⟩ := ints3 (ia _ hA)
  walk_at "go"
  refine w_iteEqI (fun c => ?_) (fun c => ?_)
  · subst c
    walk_at "go"
    refine w_I (cdivw h0 h1) ?_
    refine w_gsub ?_
    walk_at "go"
    refine w_setL (j := 0) e rfl ?_
    have g : G A H (upd H a (.lst ([x / m, 1, z].map V.int))) := G.set ia hA rfl
    have e1 : (upd H a (.lst ([V.int x, .int 1, .int z].set 0 (.int (x / m))))) = upd H a (.lst ([x / m, 1, z].map V.int)) := rfl
    rw [e1]
    generalize upd H a (.lst ([x / m, 1, z].map V.int)) = H1 at g
    walk_at "go"
    exact q _ _ g ⟨_, rfl, Int.emod_nonneg _ (by omega), Int.emod_lt_of_pos _ h0⟩
  · walk_at "go"
    refine w_setL (j := 2) e rfl ?_
    have g : G A H (upd H a (.lst ([x, y, z + 1].map V.int))) := G.set ia hA rfl
    have e1 : (upd H a (.lst ([V.int x, .int y, .int z].set 2 (.int (z + 1))))) = upd H a (.lst ([x, y, z + 1].map V.int)) := rfl
    rw [e1]
    have e2 : (upd H a (.lst ([x, y, z + 1].map V.int))) a = some (.lst [.int x, .int y, .int (z + 1)]) := upd_same
    generalize upd H a (.lst ([x, y, z + 1].map V.int)) = H1 at g e2
    walk_at "go"
    have b0 : 0 ≤ (x * 48271 + (z + 1) * 69621) % 2147483647 := Int.emod_nonneg _ (by decide)
    have b1 : (x * 48271 + (z + 1) * 69621) % 2147483647 < 2147483647 := Int.emod_lt_of_pos _ (by decide)
    generalize (x * 48271 + (z + 1) * 69621) % 2147483647 = mx at b0 b1
    refine w_I (Or.inl ⟨by omega, by omega⟩) ?_
    walk_at "go"
    exact q _ _ g ⟨_, rfl, Int.emod_nonneg _ (by omega), Int.emod_lt_of_pos _ h0⟩
end
section
variable {P : Program} {w : World} {K : PySem.W.Frag} {mg : Str → Option Value} {base : Heap}
theorem D_law_char (F : At K mg "_law_char" s_law_char ["_law_source_here"]) (Tg : Glob mg) (D_law_draw : Def P w K mg base 1 "_law_draw" ["_law_source_here", "_law_many"] spDraw) : Def P w K mg base 2 "_law_char" ["_law_source_here"] spChar := by
  refine F.def sc_law_char (fun vs H Q E h => ?_) (fun f cdv A outer s H vs Q E hr h => ?_)
  · obtain ⟨A, R, ia, ⟨a, rfl, _⟩, _⟩ := h
    rfl
  obtain ⟨A, R, ia, ⟨a, rfl, hA, rfl⟩, q⟩ := h
  have T := Tg
  refine ⟨_, (pss_cons (ps_set (i := 1) sc_law_char.nd rfl (by first | exact .inl rfl | exact .inr rfl) pe_str)
(pss_cons (ps_set (i := 1) sc_law_char.nd rfl (by first | exact .inl rfl | exact .inr rfl) (pe_op op_add_str (pv 1) pe_str))
(pss_one (ps_ret (pe_ix ix_str (pv 1) (pe_def D_law_draw hr (by rfl) (pa_cons (pv 0) (pa_cons pe_int pa_nil))) (fun _ _ => rfl)))))), ?_⟩
  walk_at "st"
  walk_at "go"
  refine ⟨by decide +kernel, ?_⟩
  walk_at "go"
  refine c_draw ia hA (by decide) (by decide) fun n H1 g1 h0 h1 => ?_
  have e94 : ((Str.ofString " !\"#$&'()*+,-./0123456789:;<=>?@ABCDEFGHIJKLMNOPQRSTUVWXYZ[\\]^_`") ++ (Str.ofString "abcdefghijklmnopqrstuvwxyz{|}~")).cps.toList.length = 94 := by decide +kernel
  have ok : ∀ c ∈ ((Str.ofString " !\"#$&'()*+,-./0123456789:;<=>?@ABCDEFGHIJKLMNOPQRSTUVWXYZ[\\]^_`") ++ (Str.ofString "abcdefghijklmnopqrstuvwxyz{|}~")).cps.toList, c < 128 := by decide +kernel
  generalize hz : ((Str.ofString " !\"#$&'()*+,-./0123456789:;<=>?@ABCDEFGHIJKLMNOPQRSTUVWXYZ[\\]^_`") ++ (Str.ofString "abcdefghijklmnopqrstuvwxyz{|}~")) = z at e94 ok ⊢
  have hn : n.toNat < z.cps.toList.length := by omega
  have e : z.cps.toList[n.toNat]? = some (z.cps.toList[n.toNat]) := List.getElem?_eq_getElem hn
  refine ⟨z, n, _, rfl, rfl, ?_, at_ofG (z := n) (j := n.toNat) (by omega) e, q _ _ g1 ⟨_, rfl, ok _ (List.getElem_mem hn)⟩⟩
  show z.cps.size ≤ sizeLine
  rw [← Array.length_toList, e94]
  decide
theorem D_law_name (F : At K mg "_law_name" s_law_name ["_law_source_here"]) (Tg : Glob mg) (D_law_draw : Def P w K mg base 1 "_law_draw" ["_law_source_here", "_law_many"] spDraw) (D_law_char : Def P w K mg base 2 "_law_char" ["_law_source_here"] spChar) : Def P w K mg base 3 "_law_name" ["_law_source_here"] spName := by
  refine F.def sc_law_name (fun vs H Q E h => ?_) (fun f cdv A outer s H vs Q E hr h => ?_)
  · obtain ⟨A, R, ia, ⟨a, rfl, _⟩, _⟩ := h
    rfl
  obtain ⟨A, R, ia, ⟨a, rfl, hA, rfl⟩, q⟩ := h
  have T := Tg
  refine ⟨_, (pss_cons (ps_set (i := 1) sc_law_name.nd rfl (by first | exact .inl rfl | exact .inr rfl) (pe_def D_law_draw hr (by rfl) (pa_cons (pv 0) (pa_cons pe_int pa_nil))))
(pss_cons (ps_if (pt_cmpR op_lt (pv 1) pe_int (nomark _))
(pss_one (ps_ret (pe_ix (ix_listK K) (pe_lst (pa_cons pe_str (pa_cons pe_str (pa_cons pe_str (pa_cons pe_str (pa_cons pe_str (pa_cons pe_str (pa_cons pe_str (pa_cons pe_str pa_nil))))))))) (pv 1) (fun _ _ => rfl))))
pss_nil)
(pss_cons (ps_if (pt_cmpR op_eq (pe_def D_law_draw hr (by rfl) (pa_cons (pv 0) (pa_cons pe_int pa_nil))) pe_int (nomark _))
(pss_one (ps_ret (pe_op op_add_str (pe_op op_add_str (pe_op op_repS pe_str (pe_def D_law_draw hr (by rfl) (pa_cons (pv 0) (pa_cons pe_int pa_nil)))) (pe_def D_law_char hr (by rfl) (pa_cons (pv 0) pa_nil))) (pe_op op_repS pe_str (pe_def D_law_draw hr (by rfl) (pa_cons (pv 0) (pa_cons pe_int pa_nil)))))))
pss_nil)
(pss_one (ps_ret (pe_join pe_str (pe_lc (own := [("_law_j", 2)]) rfl sc_law_name.nd (pi_range1 (by rfl) T.n_range (pa_cons (pe_def D_law_draw hr (by rfl) (pa_cons (pv 0) (pa_cons pe_int pa_nil))) pa_nil)) (blkOk_by (N := N_law_name) (sc := defScope s_law_name) (by decide +kernel)) (fun _ _ _ _ _ => (pg_name (i := 2) sc_law_name.nd rfl (by first | exact .inl rfl | exact .inr rfl))) (fun _ _ _ _ _ => pts_nil) (fun _ _ _ _ _ => (pe_def D_law_char hr (by rfl) (pa_cons (pv 0) pa_nil)))))))))), ?_⟩
  walk_at "st"
  walk_at "go"
  refine c_draw ia hA (by decide) (by decide) fun k H1 g1 k0 k1 => ?_
  walk_at "go"
  refine w_iteD (fun c => ?_) (fun c => ?_)
  · walk_at "go"
    rename_i p H2 np g2 hp
    have all : ∀ n : Nat, n < 8 → ∃ s : Str, ([V.str (Str.ofString "a"), V.str (Str.ofString "b"), V.str (Str.ofString "c"), V.str (Str.ofString "ab"), V.str (Str.ofString ""), V.str (Str.ofString "z9"), V.str (Str.ofString "B"), V.str (Str.ofString "ba")] : List V)[n]? = some (V.str s) ∧ s.length ≤ 30 ∧ s.cps.all (· < 0x110000) = true := fun n hn => by
      match n, hn with
      | 0, _ => exact ⟨_, rfl, by decide +kernel⟩
      | 1, _ => exact ⟨_, rfl, by decide +kernel⟩
      | 2, _ => exact ⟨_, rfl, by decide +kernel⟩
      | 3, _ => exact ⟨_, rfl, by decide +kernel⟩
      | 4, _ => exact ⟨_, rfl, by decide +kernel⟩
      | 5, _ => exact ⟨_, rfl, by decide +kernel⟩
      | 6, _ => exact ⟨_, rfl, by decide +kernel⟩
      | 7, _ => exact ⟨_, rfl, by decide +kernel⟩
    obtain ⟨s, e, hs⟩ := all k.toNat (by omega)
    refine w_ixLn (n := k.toNat) hp (by omega) e ?_
    exact q _ _ (by walk_at "ft") ⟨s, rfl, hs⟩
  walk_at "go"
  refine c_draw (A := A) (by walk_at "ft") hA (by decide) (by decide) fun k2 H2 g2 k20 k21 => ?_
  walk_at "go"
  refine w_iteEqI (fun c => ?_) (fun c => ?_)
  · walk_at "go"
    refine c_draw (A := A) (by walk_at "ft") hA (by decide) (by decide) fun k3 H3 g3 k30 k31 => ?_
    obtain ⟨m1, m2⟩ := rep_small (n := k3) (.inl rfl) k30 (by omega)
    refine w_repS m1 ?_
    walk_at "go"
    refine c_1 (A := A) (by walk_at "ft") hA fun v H4 g4 hv => ?_
    obtain ⟨c, rfl, hc⟩ := hv
    have h1 : (⟨#[c]⟩ : Str).length ≤ 1 ∧ (⟨#[c]⟩ : Str).cps.all (· < 0x110000) = true := by
      obtain ⟨ss, e1, _, h1⟩ := chars_of (H := H4) (ys := [V.str ⟨#[c]⟩]) fun y hy => by
        rw [List.mem_singleton.mp hy]
        exact ⟨c, rfl, hc⟩
      cases ss with
      | nil => cases e1
      | cons s ss =>
        have e2 : (⟨#[c]⟩ : Str) = s := V.str.inj (List.cons.inj e1).1
        rw [e2]
        exact h1 s (by simp)
    have s1 := str_add m2 h1
    walk_at "go"
    refine ⟨Nat.le_trans (by omega : _ ≤ 100) (by decide), ?_⟩
    walk_at "go"
    refine c_draw (A := A) (by walk_at "ft") hA (by decide) (by decide) fun k5 H5 g5 k50 k51 => ?_
    obtain ⟨m3, m4⟩ := rep_small (n := k5) (.inl rfl) k50 (by omega)
    refine w_repS m3 ?_
    have s2 := str_add s1 m4
    walk_at "go"
    refine ⟨Nat.le_trans (by omega : _ ≤ 100) (by decide), ?_⟩
    exact q _ _ (by walk_at "ft") ⟨_, rfl, by omega, s2.2⟩
  · walk_at "go"
    refine ⟨⟨_, rfl⟩, ?_⟩
    walk_at "go"
    refine c_draw (A := A) (by walk_at "ft") hA (by decide) (by decide) fun k3 H3 g3 k30 k31 => ?_
    walk_at "go"
    refine w_lcRn A (fun _ v H => tChar v H) (fun i v H H' t h => h) (by walk_at "ft") k30 (by omega) ?step ?done
    case step =>
      intro i H4 Nx hi g4 nx
      walk_at "go"
      exact c_1 (A := A) (by walk_at "ft") hA fun v H5 g5 hv => nx _ _ g5 hv
    case done =>
      intro D ys H4 hD g4 e hl hp
      obtain ⟨ss, rfl, hl2, hs⟩ := chars_of (mem_of_ix hp)
      obtain ⟨j1, j2⟩ := join_ok hs
      have s1 := sum_le_one fun s h => (hs s h).1
      have e0 : (Str.ofString "").length = 0 := by decide +kernel
      refine ⟨_, D, ss, rfl, rfl, .inl (SqL.of e), ?_, ?_⟩
      · rw [e0]
        omega
      · exact q _ _ (by walk_at "ft") ⟨_, rfl, by omega, j2⟩
theorem D_law_number (F : At K mg "_law_number" s_law_number ["_law_source_here"]) (Tg : Glob mg) (D_law_draw : Def P w K mg base 1 "_law_draw" ["_law_source_here", "_law_many"] spDraw) : Def P w K mg base 2 "_law_number" ["_law_source_here"] spNumber := by
  refine F.def sc_law_number (fun vs H Q E h => ?_) (fun f cdv A outer s H vs Q E hr h => ?_)
  · obtain ⟨A, R, ia, ⟨a, rfl, _⟩, _⟩ := h
    rfl
  obtain ⟨A, R, ia, ⟨a, rfl, hA, rfl⟩, q⟩ := h
  have T := Tg
  refine ⟨_, (pss_cons (ps_set (i := 1) sc_law_number.nd rfl (by first | exact .inl rfl | exact .inr rfl) (pe_def D_law_draw hr (by rfl) (pa_cons (pv 0) (pa_cons pe_int pa_nil))))
(pss_cons (ps_if (pt_cmpR op_eq (pv 1) pe_int (nomark _))
(pss_one (ps_ret (pe_op op_sub (pe_def D_law_draw hr (by rfl) (pa_cons (pv 0) (pa_cons pe_int pa_nil))) pe_int)))
pss_nil)
(pss_cons (ps_if (pt_cmpR op_eq (pv 1) pe_int (nomark _))
(pss_one (ps_ret (pe_op op_sub (pe_def D_law_draw hr (by rfl) (pa_cons (pv 0) (pa_cons (pe_op op_pow pe_int pe_int) pa_nil))) (pe_op op_mul pe_int (pe_op op_pow pe_int pe_int)))))
pss_nil)
(pss_one (ps_ret (pe_op op_sub (pe_def D_law_draw hr (by rfl) (pa_cons (pv 0) (pa_cons pe_int pa_nil))) pe_int)))))), ?_⟩
  walk_at "st"
  walk_at "go"
  refine c_draw ia hA (by decide) (by decide) fun k H1 g1 k0 k1 => ?_
  walk_at "go"
  refine w_iteEqI (fun c => ?_) (fun c => ?_)
  · walk_at "go"
    refine c_draw (A := A) (by walk_at "ft") hA (by decide) (by decide) fun k2 H2 g2 k20 k21 => ?_
    walk_at "go"
    exact q _ _ (by walk_at "ft") ⟨_, rfl⟩
  walk_at "go"
  refine w_iteEqI (fun c => ?_) (fun c => ?_)
  · walk_at "go"
    refine c_draw (A := A) (by walk_at "ft") hA (by decide) (by decide) fun k2 H2 g2 k20 k21 => ?_
    walk_at "go"
    exact q _ _ (by walk_at "ft") ⟨_, rfl⟩
  · walk_at "go"
    refine c_draw (A := A) (by walk_at "ft") hA (by decide) (by decide) fun k2 H2 g2 k20 k21 => ?_
    walk_at "go"
    exact q _ _ (by walk_at "ft") ⟨_, rfl⟩
theorem D_law_leaf (F : At K mg "_law_leaf" s_law_leaf ["_law_source_here"]) (Tg : Glob mg) (D_law_draw : Def P w K mg base 1 "_law_draw" ["_law_source_here", "_law_many"] spDraw) (D_law_name : Def P w K mg base 3 "_law_name" ["_law_source_here"] spName) (D_law_number : Def P w K mg base 2 "_law_number" ["_law_source_here"] spNumber) : Def P w K mg base 4 "_law_leaf" ["_law_source_here"] spLeaf := by
  refine F.def sc_law_leaf (fun vs H Q E h => ?_) (fun f cdv A outer s H vs Q E hr h => ?_)
  · obtain ⟨A, R, ia, ⟨a, rfl, _⟩, _⟩ := h
    rfl
  obtain ⟨A, R, ia, ⟨a, rfl, hA, rfl⟩, q⟩ := h
  have T := Tg
  refine ⟨_, (pss_cons (ps_set (i := 1) sc_law_leaf.nd rfl (by first | exact .inl rfl | exact .inr rfl) (pe_def D_law_draw hr (by rfl) (pa_cons (pv 0) (pa_cons pe_int pa_nil))))
(pss_cons (ps_if (pt_cmpR op_eq (pv 1) pe_int (nomark _))
(pss_one (ps_ret (pe_tup (pa_cons pe_str pa_nil))))
pss_nil)
(pss_cons (ps_if (pt_cmpR op_eq (pv 1) pe_int (nomark _))
(pss_one (ps_ret (pe_tup (pa_cons pe_str (pa_cons (pe_cmpR op_eq (pe_def D_law_draw hr (by rfl) (pa_cons (pv 0) (pa_cons pe_int pa_nil))) pe_int (nomark _)) pa_nil)))))
pss_nil)
(pss_cons (ps_if (pt_cmpR op_lt (pv 1) pe_int (nomark _))
(pss_one (ps_ret (pe_tup (pa_cons pe_str (pa_cons (pe_def D_law_number hr (by rfl) (pa_cons (pv 0) pa_nil)) pa_nil)))))
pss_nil)
(pss_one (ps_ret (pe_tup (pa_cons pe_str (pa_cons (pe_def D_law_name hr (by rfl) (pa_cons (pv 0) pa_nil)) pa_nil))))))))), ?_⟩
  walk_at "st"
  walk_at "go"
  refine c_draw ia hA (by decide) (by decide) fun k H1 g1 k0 k1 => ?_
  walk_at "go"
  refine w_iteEqI (fun c => ?_) (fun c => ?_)
  · walk_at "go"
    exact q _ _ (by walk_at "ft") ⟨tg "null" [], .tup (by walk_at "ft") (.cons (.str _) .nil), .inl rfl⟩
  walk_at "go"
  refine w_iteEqI (fun c => ?_) (fun c => ?_)
  · walk_at "go"
    refine c_draw (A := A) (by walk_at "ft") hA (by decide) (by decide) fun k2 H2 g2 k20 k21 => ?_
    walk_at "go"
    exact q _ _ (by walk_at "ft") ⟨tg "bool" [.bool _], .tup (by walk_at "ft") (.cons (.str _) (.cons (.bl _) .nil)), .inr (.inl ⟨_, rfl⟩)⟩
  walk_at "go"
  refine w_iteD (fun c => ?_) (fun c => ?_)
  · walk_at "go"
    refine c_1 (A := A) (by walk_at "ft") hA fun v H2 g2 hv => ?_
    obtain ⟨n, rfl⟩ := hv
    walk_at "go"
    exact q _ _ (by walk_at "ft") ⟨tg "int" [.int _], .tup (by walk_at "ft") (.cons (.str _) (.cons (.int _) .nil)), .inr (.inr (.inl ⟨_, rfl⟩))⟩
  · walk_at "go"
    refine c_1 (A := A) (by walk_at "ft") hA fun v H2 g2 hv => ?_
    obtain ⟨n, rfl, hn1, hn2⟩ := hv
    walk_at "go"
    exact q _ _ (by walk_at "ft") ⟨tg "text" [.str _], .tup (by walk_at "ft") (.cons (.str _) (.cons (.str _) .nil)), .inr (.inr (.inr ⟨_, rfl, by omega, hn2⟩))⟩
end
section
variable {P : Program} {w : World} {K : PySem.W.Frag} {mg : Str → Option Value} {base : Heap}
theorem D_law_object (F : At K mg "_law_object" s_law_object ["_law_pairs"]) (Tg : Glob mg) (D_law_with : Def P w K mg base 1 "_law_with" ["_law_value_here", "_law_token_here", "_law_new"] spWith) : Def P w K mg base 2 "_law_object" ["_law_pairs"] spObject := by
  refine F.def sc_law_object (fun vs H Q E h => ?_) (fun f cdv A outer s H vs Q E hr h => ?_)
  · obtain ⟨l, xs, fs, N, k, rfl, _⟩ := h
    rfl
  obtain ⟨l, xs, fs, N, k, rfl, hl, hr3, hf, hN, hN2, q⟩ := h
  have T := Tg
  refine ⟨_, (pss_cons (ps_set (i := 1) sc_law_object.nd rfl (by first | exact .inl rfl | exact .inr rfl) (pe_tup (pa_cons pe_str (pa_cons (pe_tup pa_nil) pa_nil))))
(pss_cons (ps_for PassesOwn.never rfl (pi_listK K (pv 0)) (pg_name (i := 2) sc_law_object.nd rfl (by first | exact .inl rfl | exact .inr rfl))
(pss_one (ps_set (i := 1) sc_law_object.nd rfl (by first | exact .inl rfl | exact .inr rfl) (pe_def D_law_with hr (by rfl) (pa_cons (pv 1) (pa_cons (pe_ix (ix_tupK K) (pv 2) pe_int (fun _ _ => rfl)) (pa_cons (pe_ix (ix_tupK K) (pv 2) pe_int (fun _ _ => rfl)) pa_nil)))))))
(pss_one (ps_ret (pv 1))))), ?_⟩
  walk_at "st"
  have lz : xs.length = fs.length := hr3.len
  walk_at "go"
  rename_i pa Ha npa ga hpa pb Hb npb gb hpb
  refine w_forLi (xs := xs) (fun i σ' H' => ∃ v o ys, σ' = [some (.ref l), some v, o] ∧ G [] Hb H' ∧ Rep H' v (tg "object" [.tuple ys]) ∧ (∀ y ∈ ys, OkF N k y) ∧ ys.length ≤ i) ⟨_, _, [], rfl, G.refl _ _, rep_tg1 hpb (by walk_at "ft") .nil, fun _ z => (nomatch z), Nat.le_refl _⟩ (fun i σ' H' h => by
    obtain ⟨v, o, ys, _, g, _⟩ := h
    exact SqL.of (by walk_at "ft")) ?hs ?hd
  case hs =>
    rintro i x σ' H1 hi ⟨v, o, ys, rfl, g, hv, hy, hlen⟩
    obtain ⟨f, hf1, hxf⟩ := hr3.get hi
    have hi2 := (List.getElem?_eq_some_iff.mp hi).1
    obtain ⟨n, fv, rfl, hn2, hfv⟩ := hf f (List.mem_of_getElem? hf1)
    obtain ⟨pf, xf, rfl, hpf, hrf⟩ := hxf.tupE
    cases hrf with
    | cons hn1 hrf =>
    cases hn1
    cases hrf with
    | cons hfx hrf =>
    cases hrf
    walk_at "go"
    refine c_with (w := "object") (xs := ys) (t := .str n) (n := fv) (N := N) (k := k) hv (.inr ⟨rfl, hy⟩) (by omega) (.str _) (.inr ⟨rfl, n, rfl, hn2⟩) (by walk_at "ft") hfv fun v2 H2 ys2 g2 hv2 hc2 hl2 => ?_
    walk_at "go"
    refine ⟨_, _, ys2, rfl, by walk_at "ft", hv2, ?_, by omega⟩
    rcases hc2 with ⟨c, _⟩ | ⟨_, h⟩
    · exact absurd c (by decide +kernel)
    · exact h
  case hd =>
    rintro σ' H1 ⟨v, o, ys, rfl, g, hv, hy, hlen⟩
    walk_at "go"
    exact q _ _ _ (by walk_at "ft") hv (OkV.object (by omega) hy)
theorem D_law_value_s {n j : Nat} {sp' : Sp} (F : At K mg "_law_value" s_law_value ["_law_source_here", "_law_depth"]) (Tg : Glob mg) (D_law_draw : Def P w K mg base 1 "_law_draw" ["_law_source_here", "_law_many"] spDraw) (D_law_name : Def P w K mg base 3 "_law_name" ["_law_source_here"] spName) (D_law_leaf : Def P w K mg base 4 "_law_leaf" ["_law_source_here"] spLeaf) (D_law_object : Def P w K mg base 2 "_law_object" ["_law_pairs"] spObject)
    (D_law_value : Def P w K mg base (j + 4) "_law_value" ["_law_source_here", "_law_depth"] sp') (hsp : ∀ n', n = n' + 1 → ∀ vs H Q E, spValue n' vs H Q E → sp' vs H Q E) :
    Def P w K mg base (j + 5) "_law_value" ["_law_source_here", "_law_depth"] (spValue n) := by
  refine F.def sc_law_value (fun vs H Q E h => ?_) (fun f cdv A outer s H vs Q E hr h => ?_)
  · obtain ⟨A, R, ia, ⟨a, dp, rfl, _⟩, _⟩ := h
    rfl
  obtain ⟨A, R, ia, ⟨a, dp, rfl, hA, hdp, rfl⟩, q⟩ := h
  have T := Tg
  refine ⟨_, (pss_cons (ps_set (i := 2) sc_law_value.nd rfl (by first | exact .inl rfl | exact .inr rfl) (pe_def D_law_draw hr (by rfl) (pa_cons (pv 0) (pa_cons pe_int pa_nil))))
(pss_cons (ps_if (PW.pt (pw_or (pt_cmpR op_lt (pv 1) pe_int (nomark _)) (pw_or1 (pt_cmpR op_lt (pv 2) pe_int (nomark _)))))
(pss_one (ps_ret (pe_def D_law_leaf hr (by rfl) (pa_cons (pv 0) pa_nil))))
pss_nil)
(pss_cons (ps_if (pt_cmpR op_lt (pv 2) pe_int (nomark _))
(pss_one (ps_ret (pe_tup (pa_cons pe_str (pa_cons (pe_callTy (call_tupleK K) (by rfl) T.n_tuple (by decide +kernel) (pa_cons (pe_lc (own := [("_law_j", 3)]) rfl sc_law_value.nd (pi_range1 (by rfl) T.n_range (pa_cons (pe_def D_law_draw hr (by rfl) (pa_cons (pv 0) (pa_cons pe_int pa_nil))) pa_nil)) (blkOk_by (N := N_law_value) (sc := defScope s_law_value) (by decide +kernel)) (fun _ _ _ _ _ => (pg_name (i := 3) sc_law_value.nd rfl (by first | exact .inl rfl | exact .inr rfl))) (fun _ _ _ _ _ => pts_nil) (fun _ _ _ _ _ => (pe_def D_law_value hr (by rfl) (pa_cons (pv 0) (pa_cons (pe_op op_sub (pv 1) pe_int) pa_nil))))) pa_nil)) pa_nil)))))
pss_nil)
(pss_one (ps_ret (pe_def D_law_object hr (by rfl) (pa_cons (pe_lc (own := [("_law_j", 3)]) rfl sc_law_value.nd (pi_range1 (by rfl) T.n_range (pa_cons (pe_def D_law_draw hr (by rfl) (pa_cons (pv 0) (pa_cons pe_int pa_nil))) pa_nil)) (blkOk_by (N := N_law_value) (sc := defScope s_law_value) (by decide +kernel)) (fun _ _ _ _ _ => (pg_name (i := 3) sc_law_value.nd rfl (by first | exact .inl rfl | exact .inr rfl))) (fun _ _ _ _ _ => pts_nil) (fun _ _ _ _ _ => (pe_tup (pa_cons (pe_def D_law_name hr (by rfl) (pa_cons (pv 0) pa_nil)) (pa_cons (pe_def D_law_value hr (by rfl) (pa_cons (pv 0) (pa_cons (pe_op op_sub (pv 1) pe_int) pa_nil))) pa_nil))))) pa_nil))))))), ?_⟩
  walk_at "st"
  walk_at "go"
  refine c_draw ia hA (by decide) (by decide) fun k H1 g1 k0 k1 => ?_
  walk_at "go"
  refine w_iteD (fun c => ?_) (fun c => ?_)
  · walk_at "go"
    refine c_1 (A := A) (by walk_at "ft") hA fun v H2 g2 hv => ?_
    obtain ⟨d, hd, od⟩ := hv
    exact q _ _ (by walk_at "ft") ⟨d, hd, OkV.leaf od⟩
  walk_at "go"
  obtain ⟨n', rfl⟩ : ∃ n', n = n' + 1 := ⟨n - 1, by omega⟩
  refine w_iteD (fun c2 => ?_) (fun c2 => ?_)
  · walk_at "go"
    refine c_1 (A := A) (by walk_at "ft") hA fun v H2 g2 hv => ?_
    obtain ⟨d, hd, od⟩ := hv
    exact q _ _ (by walk_at "ft") ⟨d, hd, OkV.leaf od⟩
  walk_at "go"
  refine w_iteD (fun c3 => ?_) (fun c3 => ?_)
  · walk_at "go"
    refine c_draw (A := A) (by walk_at "ft") hA (by decide) (by decide) fun k2 H2 g2 k20 k21 => ?_
    walk_at "go"
    refine w_lcRn A (fun _ v H => tVal 100 n' v H) (fun i v H H' t h => h.mono t) (by walk_at "ft") k20 (by omega) ?step ?done
    case step =>
      intro i H4 Nx hi g4 nx
      walk_at "go"
      exact hsp n' rfl _ _ _ _ (c_g (A := A) _ (by walk_at "ft") ⟨a, dp - 1, rfl, hA, by omega, rfl⟩ fun v H5 g5 hv => nx _ _ g5 hv)
    case done =>
      intro D ys H4 hD g4 e hl hp
      obtain ⟨ds, hds, ods⟩ := Reps.of hp
      have ld := hds.len
      walk_at "go"
      exact q _ _ (by walk_at "ft") ⟨_, rep_tg1 (w := "list") (xs := ys) (ds := ds) (by walk_at "ft") (by walk_at "ft") (by walk_at "ft"), OkV.list (by omega) ods⟩
  · walk_at "go"
    refine c_draw (A := A) (by walk_at "ft") hA (by decide) (by decide) fun k2 H2 g2 k20 k21 => ?_
    walk_at "go"
    refine w_lcRn A (fun _ v H => ∃ f, Rep H v f ∧ OkF 100 n' f) (fun i v H H' t h => by obtain ⟨f, h, o⟩ := h; exact ⟨f, h.mono t, o⟩) (by walk_at "ft") k20 (by omega) ?step ?done
    case step =>
      intro i H4 Nx hi g4 nx
      walk_at "go"
      refine c_1 (A := A) (by walk_at "ft") hA fun v H5 g5 hv => ?_
      obtain ⟨s, rfl, hs1, hs2⟩ := hv
      walk_at "go"
      refine hsp n' rfl _ _ _ _ (c_g (A := A) _ (by walk_at "ft") ⟨a, dp - 1, rfl, hA, by omega, rfl⟩ fun v H6 g6 hv => ?_)
      obtain ⟨d, hd, od⟩ := hv
      walk_at "go"
      exact nx _ _ (by walk_at "ft") ⟨_, rep_pair (n := s) (d := d) (by walk_at "ft") (by walk_at "ft"), s, d, rfl, ⟨by omega, hs2⟩, od⟩
    case done =>
      intro D ys H4 hD g4 e hl hp
      obtain ⟨ds, hds, ods⟩ := Reps.of hp
      have ld := hds.len
      walk_at "go"
      exact c_object (N := 100) (k := n') e hds ods (by omega) (by omega) fun v H5 d g5 hd od => q _ _ (by walk_at "ft") ⟨d, hd, od⟩
theorem D_law_value (F : At K mg "_law_value" s_law_value ["_law_source_here", "_law_depth"]) (Tg : Glob mg) (D_law_draw : Def P w K mg base 1 "_law_draw" ["_law_source_here", "_law_many"] spDraw) (D_law_name : Def P w K mg base 3 "_law_name" ["_law_source_here"] spName) (D_law_leaf : Def P w K mg base 4 "_law_leaf" ["_law_source_here"] spLeaf) (D_law_object : Def P w K mg base 2 "_law_object" ["_law_pairs"] spObject) :
    ∀ n, Def P w K mg base (n + 5) "_law_value" ["_law_source_here", "_law_depth"] (spValue n)
  | 0 => D_law_value_s F Tg D_law_draw D_law_name D_law_leaf D_law_object (F.never.mono (by omega)) fun L' e => by omega
  | n + 1 => D_law_value_s F Tg D_law_draw D_law_name D_law_leaf D_law_object (Def.mono (D_law_value F Tg D_law_draw D_law_name D_law_leaf D_law_object n) (by omega)) fun n' e vs H Q E h => by
    obtain rfl : n = n' := by omega
    exact h
theorem D_law_small (F : At K mg "_law_small" s_law_small ["_law_source_here"]) (Tg : Glob mg) (D_law_draw : Def P w K mg base 1 "_law_draw" ["_law_source_here", "_law_many"] spDraw) (D_law_name : Def P w K mg base 3 "_law_name" ["_law_source_here"] spName) (D_law_leaf : Def P w K mg base 4 "_law_leaf" ["_law_source_here"] spLeaf) (D_law_object : Def P w K mg base 2 "_law_object" ["_law_pairs"] spObject) : Def P w K mg base 5 "_law_small" ["_law_source_here"] spSmall := by
  refine F.def sc_law_small (fun vs H Q E h => ?_) (fun f cdv A outer s H vs Q E hr h => ?_)
  · obtain ⟨A, R, ia, ⟨a, rfl, _⟩, _⟩ := h
    rfl
  obtain ⟨A, R, ia, ⟨a, rfl, hA, rfl⟩, q⟩ := h
  have T := Tg
  refine ⟨_, (pss_cons (ps_set (i := 1) sc_law_small.nd rfl (by first | exact .inl rfl | exact .inr rfl) (pe_def D_law_draw hr (by rfl) (pa_cons (pv 0) (pa_cons pe_int pa_nil))))
(pss_cons (ps_if (pt_cmpR op_eq (pv 1) pe_int (nomark _))
(pss_one (ps_ret (pe_tup (pa_cons pe_str (pa_cons (pe_callTy (call_tupleK K) (by rfl) T.n_tuple (by decide +kernel) (pa_cons (pe_lc (own := [("_law_j", 2)]) rfl sc_law_small.nd (pi_range1 (by rfl) T.n_range (pa_cons (pe_def D_law_draw hr (by rfl) (pa_cons (pv 0) (pa_cons pe_int pa_nil))) pa_nil)) (blkOk_by (N := N_law_small) (sc := defScope s_law_small) (by decide +kernel)) (fun _ _ _ _ _ => (pg_name (i := 2) sc_law_small.nd rfl (by first | exact .inl rfl | exact .inr rfl))) (fun _ _ _ _ _ => pts_nil) (fun _ _ _ _ _ => (pe_def D_law_leaf hr (by rfl) (pa_cons (pv 0) pa_nil)))) pa_nil)) pa_nil)))))
pss_nil)
(pss_cons (ps_if (pt_cmpR op_eq (pv 1) pe_int (nomark _))
(pss_one (ps_ret (pe_def D_law_object hr (by rfl) (pa_cons (pe_lc (own := [("_law_j", 2)]) rfl sc_law_small.nd (pi_range1 (by rfl) T.n_range (pa_cons (pe_def D_law_draw hr (by rfl) (pa_cons (pv 0) (pa_cons pe_int pa_nil))) pa_nil)) (blkOk_by (N := N_law_small) (sc := defScope s_law_small) (by decide +kernel)) (fun _ _ _ _ _ => (pg_name (i := 2) sc_law_small.nd rfl (by first | exact .inl rfl | exact .inr rfl))) (fun _ _ _ _ _ => pts_nil) (fun _ _ _ _ _ => (pe_tup (pa_cons (pe_def D_law_name hr (by rfl) (pa_cons (pv 0) pa_nil)) (pa_cons (pe_def D_law_leaf hr (by rfl) (pa_cons (pv 0) pa_nil)) pa_nil))))) pa_nil))))
pss_nil)
(pss_one (ps_ret (pe_def D_law_leaf hr (by rfl) (pa_cons (pv 0) pa_nil))))))), ?_⟩
  walk_at "st"
  walk_at "go"
  refine c_draw ia hA (by decide) (by decide) fun k H1 g1 k0 k1 => ?_
  walk_at "go"
  refine w_iteEqI (fun c3 => ?_) (fun c3 => ?_)
  · walk_at "go"
    refine c_draw (A := A) (by walk_at "ft") hA (by decide) (by decide) fun k2 H2 g2 k20 k21 => ?_
    walk_at "go"
    refine w_lcRn A (fun _ v H => tVal 100 0 v H) (fun i v H H' t h => h.mono t) (by walk_at "ft") k20 (by omega) ?step ?done
    case step =>
      intro i H4 Nx hi g4 nx
      walk_at "go"
      refine c_1 (A := A) (by walk_at "ft") hA fun v H5 g5 hv => ?_
      obtain ⟨d, hd, od⟩ := hv
      exact nx _ _ g5 ⟨d, hd, od⟩
    case done =>
      intro D ys H4 hD g4 e hl hp
      obtain ⟨ds, hds, ods⟩ := Reps.of hp
      have ld := hds.len
      walk_at "go"
      exact q _ _ (by walk_at "ft") ⟨_, rep_tg1 (w := "list") (xs := ys) (ds := ds) (by walk_at "ft") (by walk_at "ft") (by walk_at "ft"), OkV.list (by omega) ods⟩
  walk_at "go"
  refine w_iteEqI (fun c3 => ?_) (fun c3 => ?_)
  · walk_at "go"
    refine c_draw (A := A) (by walk_at "ft") hA (by decide) (by decide) fun k2 H2 g2 k20 k21 => ?_
    walk_at "go"
    refine w_lcRn A (fun _ v H => ∃ f, Rep H v f ∧ OkF 100 0 f) (fun i v H H' t h => by obtain ⟨f, h, o⟩ := h; exact ⟨f, h.mono t, o⟩) (by walk_at "ft") k20 (by omega) ?step ?done
    case step =>
      intro i H4 Nx hi g4 nx
      walk_at "go"
      refine c_1 (A := A) (by walk_at "ft") hA fun v H5 g5 hv => ?_
      obtain ⟨s, rfl, hs1, hs2⟩ := hv
      walk_at "go"
      refine c_1 (A := A) (by walk_at "ft") hA fun v H6 g6 hv => ?_
      obtain ⟨d, hd, od⟩ := hv
      walk_at "go"
      exact nx _ _ (by walk_at "ft") ⟨_, rep_pair (n := s) (d := d) (by walk_at "ft") (by walk_at "ft"), s, d, rfl, ⟨by omega, hs2⟩, od⟩
    case done =>
      intro D ys H4 hD g4 e hl hp
      obtain ⟨ds, hds, ods⟩ := Reps.of hp
      have ld := hds.len
      walk_at "go"
      exact c_object (N := 100) (k := 0) e hds ods (by omega) (by omega) fun v H5 d g5 hd od => q _ _ (by walk_at "ft") ⟨d, hd, od⟩
  · walk_at "go"
    refine c_1 (A := A) (by walk_at "ft") hA fun v H2 g2 hv => ?_
    obtain ⟨d, hd, od⟩ := hv
    exact q _ _ (by walk_at "ft") ⟨d, hd, OkV.leaf od⟩
end
section
variable {P : Program} {w : World} {K : PySem.W.Frag} {mg : Str → Option Value} {base : Heap}
theorem D_law_token (F : At K mg "_law_token" s_law_token ["_law_source_here", "_law_value_here"]) (Tg : Glob mg) (D_law_draw : Def P w K mg base 1 "_law_draw" ["_law_source_here", "_law_many"] spDraw) : Def P w K mg base 2 "_law_token" ["_law_source_here", "_law_value_here"] spToken := by
  refine F.def sc_law_token (fun vs H Q E h => ?_) (fun f cdv A outer s H vs Q E hr h => ?_)
  · obtain ⟨A, R, ia, ⟨a, x, d, N, k, rfl, _⟩, _⟩ := h
    rfl
  obtain ⟨A, R, ia, ⟨a, x, d, N, k, rfl, hA, hx, od, hN, rfl⟩, q⟩ := h
  have T := Tg
  refine ⟨_, (pss_cons (ps_if (PW.pt (pw_and (pt_cmpR op_eq (pe_ix (ix_tupK K) (pv 1) pe_int (fun _ _ => rfl)) pe_str (nomark _)) (pw_and1 (pt_cmpR op_gt (pe_callB (call_lenK K) (by rfl) T.n_len (by decide +kernel) (pa_cons (pe_ix (ix_tupK K) (pv 1) pe_int (fun _ _ => rfl)) pa_nil)) pe_int (nomark _)))))
(pss_one (ps_ret (pe_callB (call_min2' rfl) (by rfl) T.n_min (by decide +kernel) (pa_cons (pe_def D_law_draw hr (by rfl) (pa_cons (pv 0) (pa_cons (pe_callB (call_lenK K) (by rfl) T.n_len (by decide +kernel) (pa_cons (pe_ix (ix_tupK K) (pv 1) pe_int (fun _ _ => rfl)) pa_nil)) pa_nil))) (pa_cons pe_int pa_nil)))))
pss_nil)
(pss_cons (ps_if (PW.pt (pw_and (pt_cmpR op_eq (pe_ix (ix_tupK K) (pv 1) pe_int (fun _ _ => rfl)) pe_str (nomark _)) (pw_and1 (pt_cmpR op_gt (pe_callB (call_lenK K) (by rfl) T.n_len (by decide +kernel) (pa_cons (pe_ix (ix_tupK K) (pv 1) pe_int (fun _ _ => rfl)) pa_nil)) pe_int (nomark _)))))
(pss_one (ps_ret (pe_ix (ix_tupK K) (pe_ix (ix_tupK K) (pe_ix (ix_tupK K) (pv 1) pe_int (fun _ _ => rfl)) (pe_def D_law_draw hr (by rfl) (pa_cons (pv 0) (pa_cons (pe_callB (call_lenK K) (by rfl) T.n_len (by decide +kernel) (pa_cons (pe_ix (ix_tupK K) (pv 1) pe_int (fun _ _ => rfl)) pa_nil)) pa_nil))) (fun _ _ => rfl)) pe_int (fun _ _ => rfl))))
pss_nil)
(pss_one (ps_ret pe_non)))), ?_⟩
  walk_at "st"
  obtain ⟨wd, r, rfl, sv⟩ := od.sh
  obtain ⟨p, xs, rfl, hp, hr1⟩ := hx.tg
  walk_at "go"
  refine w_iteEqS (fun c => ?_) (fun c => ?_)
  · subst c
    obtain ⟨k', ds, rfl, rfl, hl, hdx⟩ := sv.list rfl
    cases hr1 with
    | cons hs hr1 =>
    cases hr1
    obtain ⟨p3, zs, rfl, hp3, hr3⟩ := hs.tupE
    have lz : zs.length = ds.length := hr3.len
    walk_at "go"
    refine w_iteD (fun c => ?_) (fun c => ?_)
    · walk_at "go"
      refine c_draw (A := A) (by walk_at "ft") hA (by omega) (by omega) fun n H1 g1 n0 n1 => ?_
      walk_at "go"
      refine q _ _ (by walk_at "ft") (.inr ⟨.int _, .int _, .inl ⟨_, rfl⟩, ?_⟩)
      rw [childD_li]
      have hm : ∀ m : Int, 0 ≤ m → m ≤ n → (if 0 ≤ m ∧ m < (ds.length : Nat) then ds[m.toNat]? else none) ≠ none := fun m m0 m1 => by
        rw [if_pos ⟨m0, by omega⟩]
        intro e
        have := List.getElem?_eq_none_iff.mp e
        omega
      refine hm _ ?_ ?_
      · split <;> omega
      · split <;> omega
    · walk_at "go"
      refine w_iteEqS (fun c => absurd c (by decide +kernel)) (fun c => ?_)
      walk_at "go"
      exact q _ _ (by walk_at "ft") (.inl rfl)
  walk_at "go"
  refine w_iteEqS (fun c => ?_) (fun c => ?_)
  · subst c
    obtain ⟨k', ds, rfl, rfl, hl, hdx⟩ := sv.object rfl
    cases hr1 with
    | cons hs hr1 =>
    cases hr1
    obtain ⟨p3, zs, rfl, hp3, hr3⟩ := hs.tupE
    have lz : zs.length = ds.length := hr3.len
    walk_at "go"
    refine w_iteD (fun c => ?_) (fun c => ?_)
    · walk_at "go"
      refine c_draw (A := A) (by walk_at "ft") hA (by omega) (by omega) fun n H1 g1 n0 n1 => ?_
      have hz : zs[n.toNat]? = some (zs[n.toNat]'(by omega)) := List.getElem?_eq_getElem (by omega)
      obtain ⟨f, hf1, hxf⟩ := hr3.get hz
      obtain ⟨nm, fv, rfl, hn2, hfv⟩ := hdx f (List.mem_of_getElem? hf1)
      obtain ⟨pf, xf, ef, hpf, hrf⟩ := hxf.tupE
      cases hrf with
      | cons hn1 hrf =>
      cases hn1
      cases hrf with
      | cons hfx hrf =>
      cases hrf
      refine w_ixTn (n := n.toNat) (xs := zs) (by walk_at "ft") (by omega) hz ?_
      rw [ef]
      walk_at "go"
      refine q _ _ (by walk_at "ft") (.inr ⟨.str _, .str _, .inr ⟨_, rfl, hn2⟩, ?_⟩)
      rw [childD_os]
      intro e
      cases hfi : ds.find? fun f => decide (strD (arg 0 f) = nm) with
      | none =>
        have := List.find?_eq_none.mp hfi _ (List.mem_of_getElem? hf1)
        exact this (decide_eq_true rfl)
      | some f =>
        rw [hfi] at e
        cases e
    · walk_at "go"
      exact q _ _ (by walk_at "ft") (.inl rfl)
  · walk_at "go"
    exact q _ _ (by walk_at "ft") (.inl rfl)
theorem D_law_path (F : At K mg "_law_path" s_law_path ["_law_source_here", "_law_value_here", "_law_most"]) (Tg : Glob mg) (D_law_draw : Def P w K mg base 1 "_law_draw" ["_law_source_here", "_law_many"] spDraw) (D_law_name : Def P w K mg base 3 "_law_name" ["_law_source_here"] spName) (D_law_child : Def P w K mg base 1 "_law_child" ["_law_value_here", "_law_token_here"] spChild)
    (D_law_token : Def P w K mg base 2 "_law_token" ["_law_source_here", "_law_value_here"] spToken) : Def P w K mg base 4 "_law_path" ["_law_source_here", "_law_value_here", "_law_most"] spPath := by
  refine F.def sc_law_path (fun vs H Q E h => ?_) (fun f cdv A outer s H vs Q E hr h => ?_)
  · obtain ⟨A, R, ia, ⟨a, x, d, N, k, m, rfl, _⟩, _⟩ := h
    rfl
  obtain ⟨A, R, ia, ⟨a, x, d, N, k, m, rfl, hA, hx, od, hN, m0, m1, rfl⟩, q⟩ := h
  have T := Tg
  refine ⟨_, (pss_cons (ps_set (i := 3) sc_law_path.nd rfl (by first | exact .inl rfl | exact .inr rfl) (pe_tup pa_nil))
(pss_cons (ps_for PassesOwn.never rfl (pi_range1 (by rfl) T.n_range (pa_cons (pv 2) pa_nil)) (pg_name (i := 4) sc_law_path.nd rfl (by first | exact .inl rfl | exact .inr rfl))
(pss_cons (ps_set (i := 5) sc_law_path.nd rfl (by first | exact .inl rfl | exact .inr rfl) (pe_def D_law_token hr (by rfl) (pa_cons (pv 0) (pa_cons (pv 1) pa_nil))))
(pss_one (ps_if (PW.pt (pw_and (pt_cmp (pc_notN (pv 5))) (pw_and1 (pt_cmpR op_gt (pe_def D_law_draw hr (by rfl) (pa_cons (pv 0) (pa_cons pe_int pa_nil))) pe_int (nomark _)))))
(pss_cons (ps_set (i := 3) sc_law_path.nd rfl (by first | exact .inl rfl | exact .inr rfl) (pe_op (op_catK K) (pv 3) (pe_tup (pa_cons (pv 5) pa_nil))))
(pss_one (ps_set (i := 1) sc_law_path.nd rfl (by first | exact .inl rfl | exact .inr rfl) (pe_def D_law_child hr (by rfl) (pa_cons (pv 1) (pa_cons (pv 5) pa_nil))))))
(pss_one (ps_set (i := 1) sc_law_path.nd rfl (by first | exact .inl rfl | exact .inr rfl) (pe_tup (pa_cons pe_str pa_nil))))))))
(pss_cons (ps_if (PW.pt (pw_and (pt_cmpR op_lt (pe_callB (call_lenK K) (by rfl) T.n_len (by decide +kernel) (pa_cons (pv 3) pa_nil)) (pv 2) (nomark _)) (pw_and1 (pt_cmpR op_eq (pe_def D_law_draw hr (by rfl) (pa_cons (pv 0) (pa_cons pe_int pa_nil))) pe_int (nomark _)))))
(pss_cons (ps_if (pt_cmpR op_eq (pe_def D_law_draw hr (by rfl) (pa_cons (pv 0) (pa_cons pe_int pa_nil))) pe_int (nomark _))
(pss_one (ps_ret (pe_op (op_catK K) (pv 3) (pe_tup (pa_cons (pe_def D_law_name hr (by rfl) (pa_cons (pv 0) pa_nil)) pa_nil)))))
pss_nil)
(pss_one (ps_ret (pe_op (op_catK K) (pv 3) (pe_tup (pa_cons (pe_def D_law_draw hr (by rfl) (pa_cons (pv 0) (pa_cons pe_int pa_nil))) pa_nil))))))
pss_nil)
(pss_one (ps_ret (pv 3)))))), ?_⟩
  walk_at "st"
  walk_at "go"
  rename_i pa Ha npa ga hpa
  refine w_forRn (fun i σ' H' => ∃ v o1 o2 pp xs ts, σ' = [some (.ref a), some v, some (.int m), some (.ref pp), o1, o2] ∧ G A Ha H' ∧ tVal N k v H' ∧ H' pp = some (.tup xs) ∧ Reps H' xs ts ∧ (∀ t ∈ ts, OkT t) ∧ ts.length ≤ i) m0 (by omega) ⟨_, _, _, _, [], [], rfl, G.refl _ _, ⟨d, by walk_at "ft", od⟩, hpa, .nil, fun _ z => (nomatch z), Nat.le_refl _⟩ ?hs ?hd
  case hs =>
    rintro i σ' H1 hi ⟨v, o1, o2, pp, xs, ts, rfl, g1, ⟨d1, hd1, od1⟩, hpp, hts, ots, hl⟩
    have lx := hts.len
    walk_at "go"
    refine c_g (A := A) _ (by walk_at "ft") ⟨a, v, d1, N, k, rfl, hA, by walk_at "ft", od1, hN, rfl⟩ fun tv H2 g2 htv => ?_
    walk_at "go"
    rcases htv with rfl | ⟨t, ht, ot, hch⟩
    · refine w_ite (fun c => absurd c (by decide)) (fun _ => ?_)
      walk_at "go"
      refine ⟨_, _, _, _, xs, ts, rfl, by walk_at "ft", ⟨tg "null" [], .tup (by walk_at "ft") (.cons (.str _) .nil), OkV.leaf (.inl rfl)⟩, by walk_at "ft", by walk_at "ft", ots, by omega⟩
    have nn : tv ≠ .non := fun e => by
      subst e
      rcases ot with ⟨i, rfl⟩ | ⟨s, rfl, _⟩ <;> cases ht
    refine w_ite (fun _ => ?_) (fun c => absurd c (by simp [nn]))
    walk_at "go"
    refine c_draw (A := A) (by walk_at "ft") hA (by omega) (by omega) fun n H3 g3 n0 n1 => ?_
    walk_at "go"
    refine w_iteD (fun c => ?_) (fun c => ?_)
    · walk_at "go"
      refine w_cat (xs := xs) (ys := [tv]) (by walk_at "ft") (by walk_at "ft") (by rw [List.length_singleton]; omega) fun r5 H5 g5 hr5 => ?_
      walk_at "go"
      refine c_child (d := d1) (t := t) (N := N) (k := k) (by walk_at "ft") od1 (by walk_at "ft") ot fun v6 H6 g6 hv6 => ?_
      walk_at "go"
      cases ec : childD d1 t with
      | none => exact absurd ec hch
      | some cd =>
      rw [ec] at hv6
      have hv6 : Rep H6 v6 cd := hv6
      obtain ⟨k', rfl, hc, _⟩ := child_cases od1 ec
      refine ⟨_, _, _, _, xs ++ [tv], ts ++ [t], rfl, by walk_at "ft", ⟨cd, hv6, OkV.mono (Nat.le_refl _) (by omega) hc⟩, by walk_at "ft", Reps.append (by walk_at "ft") (.cons (by walk_at "ft") .nil), fun t' h => ?_, by rw [List.length_append, List.length_singleton]; omega⟩
      rcases List.mem_append.mp h with h | h
      · exact ots t' h
      · rw [List.mem_singleton.mp h]
        exact ot
    · walk_at "go"
      refine ⟨_, _, _, _, xs, ts, rfl, by walk_at "ft", ⟨tg "null" [], .tup (by walk_at "ft") (.cons (.str _) .nil), OkV.leaf (.inl rfl)⟩, by walk_at "ft", by walk_at "ft", ots, by omega⟩
  case hd =>
  rintro σ' H1 ⟨v, o1, o2, pp, xs, ts, rfl, g1, hv, hpp, hts, ots, hl⟩
  have lx := hts.len
  walk_at "go"
  refine w_iteD (fun c => ?_) (fun c => ?_)
  · walk_at "go"
    refine c_draw (A := A) (by walk_at "ft") hA (by omega) (by omega) fun n H3 g3 n0 n1 => ?_
    walk_at "go"
    refine w_iteEqI (fun c2 => ?_) (fun c2 => ?_)
    · walk_at "go"
      refine c_draw (A := A) (by walk_at "ft") hA (by omega) (by omega) fun n H4 g4 n0 n1 => ?_
      walk_at "go"
      refine w_iteEqI (fun c2 => ?_) (fun c2 => ?_)
      · walk_at "go"
        refine c_1 (A := A) (by walk_at "ft") hA fun v H5 g5 hv => ?_
        obtain ⟨s, rfl, hs1, hs2⟩ := hv
        walk_at "go"
        refine w_cat (xs := xs) (ys := [.str s]) (by walk_at "ft") (by walk_at "ft") (by rw [List.length_singleton]; omega) fun r6 H6 g6 hr6 => ?_
        refine q _ _ (by walk_at "ft") ⟨ts ++ [.str s], .tup hr6 (Reps.append (by walk_at "ft") (.cons (.str _) .nil)), fun t' h => ?_, by rw [List.length_append, List.length_singleton]; omega⟩
        rcases List.mem_append.mp h with h | h
        · exact ots t' h
        · rw [List.mem_singleton.mp h]
          exact .inr ⟨s, rfl, by omega, hs2⟩
      · walk_at "go"
        refine c_draw (A := A) (by walk_at "ft") hA (by omega) (by omega) fun n5 H5 g5 n0 n1 => ?_
        walk_at "go"
        refine w_cat (xs := xs) (ys := [.int n5]) (by walk_at "ft") (by walk_at "ft") (by rw [List.length_singleton]; omega) fun r6 H6 g6 hr6 => ?_
        refine q _ _ (by walk_at "ft") ⟨ts ++ [.int n5], .tup hr6 (Reps.append (by walk_at "ft") (.cons (.int _) .nil)), fun t' h => ?_, by rw [List.length_append, List.length_singleton]; omega⟩
        rcases List.mem_append.mp h with h | h
        · exact ots t' h
        · rw [List.mem_singleton.mp h]
          exact .inl ⟨n5, rfl⟩
    · walk_at "go"
      exact q _ _ (by walk_at "ft") ⟨ts, .tup (xs := xs) (by walk_at "ft") (by walk_at "ft"), ots, by omega⟩
  · walk_at "go"
    exact q _ _ (by walk_at "ft") ⟨ts, .tup (xs := xs) (by walk_at "ft") (by walk_at "ft"), ots, by omega⟩
theorem D_law_target (F : At K mg "_law_target" s_law_target ["_law_source_here", "_law_value_here", "_law_most"]) (Tg : Glob mg) (D_law_draw : Def P w K mg base 1 "_law_draw" ["_law_source_here", "_law_many"] spDraw) (D_law_name : Def P w K mg base 3 "_law_name" ["_law_source_here"] spName)
    (D_law_lookup : Def P w K mg base 2 "_law_lookup" ["_law_value_here", "_law_path_here"] spLookup)
    (D_law_path : Def P w K mg base 4 "_law_path" ["_law_source_here", "_law_value_here", "_law_most"] spPath) : Def P w K mg base 5 "_law_target" ["_law_source_here", "_law_value_here", "_law_most"] spTarget := by
  refine F.def sc_law_target (fun vs H Q E h => ?_) (fun f cdv A outer s H vs Q E hr h => ?_)
  · obtain ⟨A, R, ia, ⟨a, x, d, N, k, m, rfl, _⟩, _⟩ := h
    rfl
  obtain ⟨A, R, ia, ⟨a, x, d, N, k, m, rfl, hA, hx, od, hN, m0, m1, rfl⟩, q⟩ := h
  have T := Tg
  refine ⟨_, (pss_cons (ps_set (i := 3) sc_law_target.nd rfl (by first | exact .inl rfl | exact .inr rfl) (pe_def D_law_path hr (by rfl) (pa_cons (pv 0) (pa_cons (pv 1) (pa_cons (pv 2) pa_nil)))))
(pss_cons (ps_set (i := 4) sc_law_target.nd rfl (by first | exact .inl rfl | exact .inr rfl) (pe_def D_law_lookup hr (by rfl) (pa_cons (pv 1) (pa_cons (pv 3) pa_nil))))
(pss_cons (ps_if (PW.pt (pw_or (pt_cmp (pc_isN (pv 4))) (pw_or1 (pt_cmpR op_ge (pe_callB (call_lenK K) (by rfl) T.n_len (by decide +kernel) (pa_cons (pv 3) pa_nil)) (pv 2) (nomark _)))))
(pss_one (ps_ret (pv 3)))
pss_nil)
(pss_cons (ps_set (i := 5) sc_law_target.nd rfl (by first | exact .inl rfl | exact .inr rfl) (pe_def D_law_draw hr (by rfl) (pa_cons (pv 0) (pa_cons pe_int pa_nil))))
(pss_cons (ps_if (PW.pt (pw_and (pt_cmpR op_eq (pe_ix (ix_tupK K) (pv 4) pe_int (fun _ _ => rfl)) pe_str (nomark _)) (pw_and1 (pt_cmpR op_gt (pv 5) pe_int (nomark _)))))
(pss_one (ps_ret (pe_op (op_catK K) (pv 3) (pe_tup (pa_cons (pe_def D_law_name hr (by rfl) (pa_cons (pv 0) pa_nil)) pa_nil)))))
pss_nil)
(pss_cons (ps_if (PW.pt (pw_and (pt_cmpR op_eq (pe_ix (ix_tupK K) (pv 4) pe_int (fun _ _ => rfl)) pe_str (nomark _)) (pw_and1 (pt_cmpR op_eq (pv 5) pe_int (nomark _)))))
(pss_one (ps_ret (pe_op (op_catK K) (pv 3) (pe_tup (pa_cons (pe_callB (call_min2' rfl) (by rfl) T.n_min (by decide +kernel) (pa_cons (pe_callB (call_lenK K) (by rfl) T.n_len (by decide +kernel) (pa_cons (pe_ix (ix_tupK K) (pv 4) pe_int (fun _ _ => rfl)) pa_nil)) (pa_cons pe_int pa_nil))) pa_nil)))))
pss_nil)
(pss_cons (ps_if (PW.pt (pw_and (pt_cmpR op_eq (pe_ix (ix_tupK K) (pv 4) pe_int (fun _ _ => rfl)) pe_str (nomark _)) (pw_and1 (pt_cmpR op_eq (pv 5) pe_int (nomark _)))))
(pss_one (ps_ret (pe_op (op_catK K) (pv 3) (pe_tup (pa_cons (pe_un un_neg pe_int) pa_nil)))))
pss_nil)
(pss_one (ps_ret (pv 3)))))))))), ?_⟩
  walk_at "st"
  walk_at "go"
  refine c_g (A := A) _ ia ⟨a, x, d, N, k, m, rfl, hA, hx, od, hN, m0, m1, rfl⟩ fun pv H1 g1 hpv => ?_
  obtain ⟨ts, hts, ots, hl⟩ := hpv
  obtain ⟨pp, xs, rfl, hpp, hrx⟩ := hts.tupE
  have lx := hrx.len
  walk_at "go"
  refine c_lookup (d := d) (ts := ts) (by walk_at "ft") od hts ots fun v2 H2 g2 hv2 => ?_
  walk_at "go"
  cases el : lookupD d ts with
  | none =>
    rw [el] at hv2
    obtain rfl : v2 = .non := hv2
    refine w_ite (fun _ => ?_) (fun c => absurd c (by decide))
    walk_at "go"
    exact q _ _ (by walk_at "ft") ⟨ts, .tup (xs := xs) (by walk_at "ft") (by walk_at "ft"), ots, hl⟩
  | some pd =>
  rw [el] at hv2
  have hv2 : Rep H2 v2 pd := hv2
  have hpd := lookup_ok _ _ od pd el
  refine w_ite (fun c => absurd (of_decide_eq_true c) (ok_nn hv2 hpd)) (fun _ => ?_)
  walk_at "go"
  refine w_iteD (fun c => ?_) (fun c => ?_)
  · walk_at "go"
    exact q _ _ (by walk_at "ft") ⟨ts, .tup (xs := xs) (by walk_at "ft") (by walk_at "ft"), ots, hl⟩
  walk_at "go"
  refine c_draw (A := A) (by walk_at "ft") hA (by omega) (by omega) fun n H3 g3 n0 n1 => ?_
  obtain ⟨wd, r, rfl, sv⟩ := hpd.sh
  obtain ⟨p6, x6, rfl, hp6, hr6⟩ := hv2.tg
  walk_at "go"
  refine w_iteEqS (fun c1 => ?_) (fun c1 => ?_)
  · subst c1
    walk_at "go"
    refine w_iteD (fun c => ?_) (fun c => ?_)
    · walk_at "go"
      refine c_1 (A := A) (by walk_at "ft") hA fun v H5 g5 hv => ?_
      obtain ⟨s, rfl, hs1, hs2⟩ := hv
      walk_at "go"
      refine w_cat (xs := xs) (ys := [.str s]) (by walk_at "ft") (by walk_at "ft") (by rw [List.length_singleton]; omega) fun r6 H6 g6 hr6 => ?_
      refine q _ _ (by walk_at "ft") ⟨ts ++ [.str s], .tup hr6 (Reps.append (by walk_at "ft") (.cons (.str _) .nil)), fun t' h => ?_, by rw [List.length_append, List.length_singleton]; omega⟩
      rcases List.mem_append.mp h with h | h
      · exact ots t' h
      · rw [List.mem_singleton.mp h]
        exact .inr ⟨s, rfl, by omega, hs2⟩
    · walk_at "go"
      refine w_iteEqS (fun c => absurd c (by decide +kernel)) (fun _ => ?_)
      walk_at "go"
      refine w_iteEqS (fun c => absurd c (by decide +kernel)) (fun _ => ?_)
      walk_at "go"
      exact q _ _ (by walk_at "ft") ⟨ts, .tup (xs := xs) (by walk_at "ft") (by walk_at "ft"), ots, hl⟩
  walk_at "go"
  refine w_iteEqS (fun c2 => ?_) (fun c2 => ?_)
  · subst c2
    obtain ⟨k', ds, rfl, rfl, hl9, hdx⟩ := sv.list rfl
    cases hr6 with
    | cons hs hr6 =>
    cases hr6
    obtain ⟨p3, zs, rfl, hp3, hr3⟩ := hs.tupE
    walk_at "go"
    refine w_iteEqI (fun c => ?_) (fun c => ?_)
    · walk_at "go"
      generalize (if (9 : Int) < ((zs.length : Nat) : Int) then (9 : Int) else ((zs.length : Nat) : Int)) = mm at *
      rename_i p8 H8 np8 g8 hp8
      refine w_cat (xs := xs) (ys := [.int mm]) (by walk_at "ft") (by walk_at "ft") (by rw [List.length_singleton]; omega) fun r6 H6 g6 hr6 => ?_
      refine q _ _ (by walk_at "ft") ⟨ts ++ [.int mm], .tup hr6 (Reps.append (by walk_at "ft") (.cons (.int _) .nil)), fun t' h => ?_, by rw [List.length_append, List.length_singleton]; omega⟩
      rcases List.mem_append.mp h with h | h
      · exact ots t' h
      · rw [List.mem_singleton.mp h]
        exact .inl ⟨_, rfl⟩
    · walk_at "go"
      refine w_iteEqS (fun _ => ?_) (fun c => absurd rfl c)
      walk_at "go"
      refine w_iteEqI (fun c => ?_) (fun c => ?_)
      · walk_at "go"
        refine w_cat (xs := xs) (ys := [.int (-1)]) (by walk_at "ft") (by walk_at "ft") (by rw [List.length_singleton]; omega) fun r6 H6 g6 hr6 => ?_
        refine q _ _ (by walk_at "ft") ⟨ts ++ [.int (-1)], .tup hr6 (Reps.append (by walk_at "ft") (.cons (.int _) .nil)), fun t' h => ?_, by rw [List.length_append, List.length_singleton]; omega⟩
        rcases List.mem_append.mp h with h | h
        · exact ots t' h
        · rw [List.mem_singleton.mp h]
          exact .inl ⟨_, rfl⟩
      · walk_at "go"
        exact q _ _ (by walk_at "ft") ⟨ts, .tup (xs := xs) (by walk_at "ft") (by walk_at "ft"), ots, hl⟩
  · walk_at "go"
    refine w_iteEqS (fun c => absurd c c2) (fun _ => ?_)
    walk_at "go"
    exact q _ _ (by walk_at "ft") ⟨ts, .tup (xs := xs) (by walk_at "ft") (by walk_at "ft"), ots, hl⟩
end
section
variable {P : Program} {w : World} {K : PySem.W.Frag} {mg : Str → Option Value} {base : Heap}
theorem D_law_bounds (F : At K mg "_law_bounds" s_law_bounds ["_law_source_here", "_law_least"]) (Tg : Glob mg) (D_law_draw : Def P w K mg base 1 "_law_draw" ["_law_source_here", "_law_many"] spDraw) : Def P w K mg base 2 "_law_bounds" ["_law_source_here", "_law_least"] spBounds := by
  refine F.def sc_law_bounds (fun vs H Q E h => ?_) (fun f cdv A outer s H vs Q E hr h => ?_)
  · obtain ⟨A, R, ia, ⟨a, b, rfl, _⟩, _⟩ := h
    rfl
  obtain ⟨A, R, ia, ⟨a, b, rfl, hA, rfl⟩, q⟩ := h
  have T := Tg
  refine ⟨_, (pss_cons (ps_set (i := 2) sc_law_bounds.nd rfl (by first | exact .inl rfl | exact .inr rfl) (pe_op op_add (pe_def D_law_draw hr (by rfl) (pa_cons (pv 0) (pa_cons pe_int pa_nil))) (pv 1)))
(pss_cons (ps_set (i := 3) sc_law_bounds.nd rfl (by first | exact .inl rfl | exact .inr rfl) (pe_callB (call_max2' rfl) (by rfl) T.n_max (by decide +kernel) (pa_cons (pe_op op_sub (pe_op op_add (pv 2) (pe_def D_law_draw hr (by rfl) (pa_cons (pv 0) (pa_cons pe_int pa_nil)))) pe_int) (pa_cons (pv 1) pa_nil))))
(pss_cons (ps_if (pt_cmpR op_eq (pe_def D_law_draw hr (by rfl) (pa_cons (pv 0) (pa_cons pe_int pa_nil))) pe_int (nomark _))
(pss_one (ps_set (i := 3) sc_law_bounds.nd rfl (by first | exact .inl rfl | exact .inr rfl) pe_non))
pss_nil)
(pss_one (ps_ret (pe_tup (pa_cons (pv 2) (pa_cons (pv 3) pa_nil)))))))), ?_⟩
  walk_at "st"
  walk_at "go"
  refine c_draw ia hA (by decide) (by decide) fun n H1 g1 n0 n1 => ?_
  walk_at "go"
  refine c_draw (A := A) (by walk_at "ft") hA (by decide) (by decide) fun n2 H2 g2 n20 n21 => ?_
  walk_at "go"
  generalize hm : (if b > n + b + n2 - 1 then b else n + b + n2 - 1) = hi
  have hh : b ≤ hi ∧ hi ≤ b + 8 := by
    rw [← hm]
    split <;> omega
  refine c_draw (A := A) (by walk_at "ft") hA (by decide) (by decide) fun n3 H3 g3 n30 n31 => ?_
  walk_at "go"
  refine w_iteEqI (fun c => ?_) (fun c => ?_)
  · walk_at "go"
    exact q _ _ (by walk_at "ft") ⟨n + b, .none, .tup (xs := [.int (n + b), .non]) (by walk_at "ft") (.cons (.int _) (.cons .non .nil)), by omega, by omega, .inl rfl⟩
  · walk_at "go"
    exact q _ _ (by walk_at "ft") ⟨n + b, .int hi, .tup (xs := [.int (n + b), .int hi]) (by walk_at "ft") (.cons (.int _) (.cons (.int _) .nil)), by omega, by omega, .inr ⟨hi, rfl, hh.1, hh.2⟩⟩
theorem D_law_leaf_schema (F : At K mg "_law_leaf_schema" s_law_leaf_schema ["_law_source_here", "_law_room"]) (Tg : Glob mg) (D_law_draw : Def P w K mg base 1 "_law_draw" ["_law_source_here", "_law_many"] spDraw) (D_law_leaf : Def P w K mg base 4 "_law_leaf" ["_law_source_here"] spLeaf) (D_law_small : Def P w K mg base 5 "_law_small" ["_law_source_here"] spSmall) (D_law_bounds : Def P w K mg base 2 "_law_bounds" ["_law_source_here", "_law_least"] spBounds) : Def P w K mg base 6 "_law_leaf_schema" ["_law_source_here", "_law_room"] spLeafSchema := by
  refine F.def sc_law_leaf_schema (fun vs H Q E h => ?_) (fun f cdv A outer s H vs Q E hr h => ?_)
  · obtain ⟨A, R, ia, ⟨a, r, rfl, _⟩, _⟩ := h
    rfl
  obtain ⟨A, R, ia, ⟨a, r, rfl, hA, hR, rfl⟩, q⟩ := h
  have T := Tg
  refine ⟨_, (pss_cons (ps_set (i := 2) sc_law_leaf_schema.nd rfl (by first | exact .inl rfl | exact .inr rfl) (pe_def D_law_draw hr (by rfl) (pa_cons (pv 0) (pa_cons pe_int pa_nil))))
(pss_cons (ps_if (pt_cmpR op_eq (pv 2) pe_int (nomark _))
(pss_one (ps_ret (pe_tup (pa_cons pe_str pa_nil))))
pss_nil)
(pss_cons (ps_if (pt_cmpR op_eq (pv 2) pe_int (nomark _))
(pss_one (ps_ret (pe_ix (ix_listK K) (pe_lst (pa_cons (pe_tup (pa_cons pe_str pa_nil)) (pa_cons (pe_tup (pa_cons pe_str pa_nil)) (pa_cons (pe_tup (pa_cons pe_str pa_nil)) pa_nil)))) (pe_def D_law_draw hr (by rfl) (pa_cons (pv 0) (pa_cons pe_int pa_nil))) (fun _ _ => rfl))))
pss_nil)
(pss_cons (ps_if (pt_cmpR op_lt (pv 2) pe_int (nomark _))
(pss_cons (ps_set (i := 3) sc_law_leaf_schema.nd rfl (by first | exact .inl rfl | exact .inr rfl) (pe_def D_law_bounds hr (by rfl) (pa_cons (pv 0) (pa_cons (pe_un un_neg pe_int) pa_nil))))
(pss_cons (ps_if (pt_cmpR op_eq (pe_def D_law_draw hr (by rfl) (pa_cons (pv 0) (pa_cons pe_int pa_nil))) pe_int (nomark _))
(pss_one (ps_ret (pe_tup (pa_cons pe_str (pa_cons pe_non (pa_cons (pe_ix (ix_tupK K) (pv 3) pe_int (fun _ _ => rfl)) pa_nil))))))
pss_nil)
(pss_one (ps_ret (pe_tup (pa_cons pe_str (pa_cons (pe_ix (ix_tupK K) (pv 3) pe_int (fun _ _ => rfl)) (pa_cons (pe_ix (ix_tupK K) (pv 3) pe_int (fun _ _ => rfl)) pa_nil))))))))
pss_nil)
(pss_cons (ps_if (pt_cmpR op_lt (pv 2) pe_int (nomark _))
(pss_cons (ps_set (i := 3) sc_law_leaf_schema.nd rfl (by first | exact .inl rfl | exact .inr rfl) (pe_def D_law_bounds hr (by rfl) (pa_cons (pv 0) (pa_cons pe_int pa_nil))))
(pss_one (ps_ret (pe_tup (pa_cons pe_str (pa_cons (pe_ix (ix_tupK K) (pv 3) pe_int (fun _ _ => rfl)) (pa_cons (pe_ix (ix_tupK K) (pv 3) pe_int (fun _ _ => rfl)) pa_nil)))))))
pss_nil)
(pss_cons (ps_if (PW.pt (pw_and (pt_cmpR op_eq (pv 2) pe_int (nomark _)) (pw_and1 (pt_cmpR op_gt (pe_ix (ix_listK K) (pv 1) pe_int (fun _ _ => rfl)) pe_int (nomark _)))))
(pss_cons (ps_asg (pe_op op_sub (pe_ix (ix_listK K) (pv 1) pe_int (fun _ _ => rfl)) pe_int) (pg_sub (pv 1) pe_int set_list))
(pss_one (ps_ret (pe_tup (pa_cons pe_str (pa_cons (pe_def D_law_small hr (by rfl) (pa_cons (pv 0) pa_nil)) pa_nil))))))
pss_nil)
(pss_one (ps_ret (pe_tup (pa_cons pe_str (pa_cons (pe_def D_law_leaf hr (by rfl) (pa_cons (pv 0) pa_nil)) pa_nil))))))))))), ?_⟩
  walk_at "st"
  walk_at "go"
  refine c_draw ia hA (by decide) (by decide) fun k H1 g1 k0 k1 => ?_
  walk_at "go"
  refine w_iteEqI (fun c => ?_) (fun c0 => ?_)
  · walk_at "go"
    exact q _ _ (by walk_at "ft") ⟨tg "any" [], .tup (xs := [.str "any"]) (by walk_at "ft") (.cons (.str _) .nil), .inl (.inl ⟨_, rfl, .inl rfl⟩)⟩
  walk_at "go"
  refine w_iteEqI (fun c => ?_) (fun c1 => ?_)
  · walk_at "go"
    rename_i p1 Ha np1 ga hp1 p2 Hb np2 gb hp2 p3 Hc np3 gc hp3 pl Hd npl gd hpl
    refine c_draw (A := A) (by walk_at "ft") hA (by decide) (by decide) fun n H2 g2 n0 n1 => ?_
    have e : ∃ (w : Str) (p : Addr), ([V.ref p1, V.ref p2, V.ref p3] : List V)[n.toNat]? = some (V.ref p) ∧ Hd p = some (.tup [.str w]) ∧ (w = "any" ∨ w = "never" ∨ w = "null" ∨ w = "bool") := by
      have h : n = 0 ∨ n = 1 ∨ n = 2 := by omega
      rcases h with rfl | rfl | rfl
      · exact ⟨"never", p1, rfl, by walk_at "ft", .inr (.inl rfl)⟩
      · exact ⟨"null", p2, rfl, by walk_at "ft", .inr (.inr (.inl rfl))⟩
      · exact ⟨"bool", p3, rfl, by walk_at "ft", .inr (.inr (.inr rfl))⟩
    obtain ⟨w, p, e1, e2, e3⟩ := e
    have nl : pl ∉ A.map (·.1) := IA.no (H := Hc) (by walk_at "ft") npl
    refine w_ixLn (n := n.toNat) (xs := [V.ref p1, V.ref p2, V.ref p3]) (by walk_at "ft") (by omega) e1 ?_
    exact q _ _ (by walk_at "ft") ⟨tg w [], .tup (xs := [.str w]) (by walk_at "ft") (.cons (.str _) .nil), .inl (.inl ⟨w, rfl, e3⟩)⟩
  walk_at "go"
  refine w_iteD (fun c => ?_) (fun c2 => ?_)
  · walk_at "go"
    refine c_g (A := A) _ (by walk_at "ft") ⟨a, -2, rfl, hA, rfl⟩ fun bv H2 g2 hb => ?_
    obtain ⟨lo, hi, hb, l0, l1, hh⟩ := hb
    obtain ⟨pb, xb, rfl, hpb, hrb⟩ := hb.tupE
    cases hrb with
    | cons hlo hrb =>
    cases hlo
    cases hrb with
    | cons hhi hrb =>
    cases hrb
    have okh : OkB hi := by
      rcases hh with h | ⟨i, h, i0, i1⟩
      · exact .inl h
      · exact .inr ⟨i, h, by omega, by omega⟩
    walk_at "go"
    refine c_draw (A := A) (by walk_at "ft") hA (by decide) (by decide) fun n H3 g3 n0 n1 => ?_
    walk_at "go"
    refine w_iteEqI (fun c => ?_) (fun c => ?_)
    · walk_at "go"
      rename_i v9 p9 H9 np9 g9 hp9
      exact q _ _ (by walk_at "ft") ⟨tg "int" [.none, hi], .tup hp9 (.cons (.str _) (.cons .non (.cons (by walk_at "ft") .nil))), .inl (.inr (.inl ⟨_, _, rfl, .inl rfl, okh⟩))⟩
    · walk_at "go"
      rename_i v9 p9 H9 np9 g9 hp9
      exact q _ _ (by walk_at "ft") ⟨tg "int" [.int lo, hi], .tup hp9 (.cons (.str _) (.cons (.int _) (.cons (by walk_at "ft") .nil))), .inl (.inr (.inl ⟨_, _, rfl, .inr ⟨lo, rfl, by omega, by omega⟩, okh⟩))⟩
  walk_at "go"
  refine w_iteD (fun c => ?_) (fun c3 => ?_)
  · walk_at "go"
    refine c_g (A := A) _ (by walk_at "ft") ⟨a, 0, rfl, hA, rfl⟩ fun bv H2 g2 hb => ?_
    obtain ⟨lo, hi, hb, l0, l1, hh⟩ := hb
    obtain ⟨pb, xb, rfl, hpb, hrb⟩ := hb.tupE
    cases hrb with
    | cons hlo hrb =>
    cases hlo
    cases hrb with
    | cons hhi hrb =>
    cases hrb
    have okc : OkC (.int lo) hi := by
      refine ⟨⟨lo, rfl, by omega, by omega⟩, ?_⟩
      rcases hh with h | ⟨i, h, i0, i1⟩
      · exact .inl h
      · exact .inr ⟨i, h, by omega, by omega⟩
    walk_at "go"
    rename_i v9 p9 H9 np9 g9 hp9
    exact q _ _ (by walk_at "ft") ⟨tg "text" [.int lo, hi], .tup hp9 (.cons (.str _) (.cons (.int _) (.cons (by walk_at "ft") .nil))), .inl (.inr (.inr (.inl ⟨_, _, rfl, okc⟩)))⟩
  walk_at "go"
  refine w_iteEqI (fun c => ?_) (fun c4 => ?_)
  · obtain ⟨x, ex⟩ := ints1 ((show IA A H1 by walk_at "ft") _ hR)
    walk_at "go"
    refine w_iteD (fun c => ?_) (fun c => ?_)
    · walk_at "go"
      refine w_setL (j := 0) ex rfl ?_
      have g : G A H1 (upd H1 r (.lst ([x - 2].map V.int))) := G.set (by walk_at "ft") hR rfl
      have e1 : (upd H1 r (.lst ([V.int x].set 0 (.int (x - 2))))) = upd H1 r (.lst ([x - 2].map V.int)) := rfl
      rw [e1]
      generalize upd H1 r (.lst ([x - 2].map V.int)) = H2 at g
      walk_at "go"
      refine c_1 (A := A) (by walk_at "ft") hA fun v H3 g3 hv => ?_
      obtain ⟨d, hd, od⟩ := hv
      walk_at "go"
      rename_i p9 H9 np9 g9 hp9
      exact q _ _ (by walk_at "ft") ⟨tg "const" [d], .tup hp9 (.cons (.str _) (.cons (by walk_at "ft") .nil)), .inl (.inr (.inr (.inr ⟨d, rfl, od⟩)))⟩
    · walk_at "go"
      refine c_1 (A := A) (by walk_at "ft") hA fun v H3 g3 hv => ?_
      obtain ⟨d, hd, od⟩ := hv
      walk_at "go"
      rename_i p9 H9 np9 g9 hp9
      exact q _ _ (by walk_at "ft") ⟨tg "const" [d], .tup hp9 (.cons (.str _) (.cons (by walk_at "ft") .nil)), .inl (.inr (.inr (.inr ⟨d, rfl, OkV.leaf od⟩)))⟩
  · walk_at "go"
    refine c_1 (A := A) (by walk_at "ft") hA fun v H3 g3 hv => ?_
    obtain ⟨d, hd, od⟩ := hv
    walk_at "go"
    rename_i p9 H9 np9 g9 hp9
    exact q _ _ (by walk_at "ft") ⟨tg "const" [d], .tup hp9 (.cons (.str _) (.cons (by walk_at "ft") .nil)), .inl (.inr (.inr (.inr ⟨d, rfl, OkV.leaf od⟩)))⟩
end
section
variable {P : Program} {w : World} {K : PySem.W.Frag} {mg : Str → Option Value} {base : Heap}
theorem D_law_broad (F : At K mg "_law_broad" s_law_broad ["_law_source_here"]) (Tg : Glob mg) (D_law_draw : Def P w K mg base 1 "_law_draw" ["_law_source_here", "_law_many"] spDraw) (D_law_name : Def P w K mg base 3 "_law_name" ["_law_source_here"] spName) (D_law_leaf_schema : Def P w K mg base 6 "_law_leaf_schema" ["_law_source_here", "_law_room"] spLeafSchema) : Def P w K mg base 7 "_law_broad" ["_law_source_here"] spBroad := by
  refine F.def sc_law_broad (fun vs H Q E h => ?_) (fun f cdv A outer s H vs Q E hr h => ?_)
  · obtain ⟨A, R, ia, ⟨a, rfl, _⟩, _⟩ := h
    rfl
  obtain ⟨A, R, ia, ⟨a, rfl, hA, rfl⟩, q⟩ := h
  have T := Tg
  refine ⟨_, (pss_cons (ps_setLc (i := 1) (own := [("_law_j", 2)]) rfl sc_law_broad.nd rfl rfl (sw_true rfl rfl rfl (by decide +kernel)) (pi_range1 (by rfl) T.n_range (pa_cons (pe_op op_add pe_int (pe_def D_law_draw hr (by rfl) (pa_cons (pv 0) (pa_cons pe_int pa_nil)))) pa_nil)) (blkOk_by (N := N_law_broad) (sc := defScope s_law_broad) (by decide +kernel)) (fun _ _ _ _ _ => (pg_name (i := 2) sc_law_broad.nd rfl (by first | exact .inl rfl | exact .inr rfl))) (fun _ _ _ _ _ => pts_nil) (fun _ _ _ _ _ => (pe_def D_law_leaf_schema hr (by rfl) (pa_cons (pv 0) (pa_cons (pe_lst (pa_cons pe_int pa_nil)) pa_nil)))))
(pss_cons (ps_set (i := 3) sc_law_broad.nd rfl (by first | exact .inl rfl | exact .inr rfl) (pe_def D_law_draw hr (by rfl) (pa_cons (pv 0) (pa_cons pe_int pa_nil))))
(pss_cons (ps_if (pt_cmpR op_lt (pv 3) pe_int (nomark _))
(pss_one (ps_ret (pe_tup (pa_cons (pe_ix (ix_listK K) (pe_lst (pa_cons pe_str (pa_cons pe_str (pa_cons pe_str pa_nil)))) (pv 3) (fun _ _ => rfl)) (pa_cons (pe_callTy (call_tupleK K) (by rfl) T.n_tuple (by decide +kernel) (pa_cons (pv 1) pa_nil)) pa_nil)))))
pss_nil)
(pss_cons (ps_set (i := 4) sc_law_broad.nd rfl (by first | exact .inl rfl | exact .inr rfl) (pe_lst pa_nil))
(pss_cons (ps_for PassesOwn.never rfl (pi_listK K (pv 1)) (pg_name (i := 5) sc_law_broad.nd rfl (by first | exact .inl rfl | exact .inr rfl))
(pss_cons (ps_set (i := 6) sc_law_broad.nd rfl (by first | exact .inl rfl | exact .inr rfl) (pe_def D_law_name hr (by rfl) (pa_cons (pv 0) pa_nil)))
(pss_one (ps_if (pt_cmpR (op_notInK K) (pv 6) (pe_lc (own := [("_law_row", 7)]) rfl sc_law_broad.nd (pi_listK K (pv 4)) (blkOk_by (N := N_law_broad) (sc := defScope s_law_broad) (by decide +kernel)) (fun _ _ _ _ _ => (pg_name (i := 7) sc_law_broad.nd rfl (by first | exact .inl rfl | exact .inr rfl))) (fun _ _ _ _ _ => pts_nil) (fun _ _ _ _ _ => (pe_ix (ix_tupK K) (pv 7) pe_int (fun _ _ => rfl)))) rfl)
(pss_one (ps_expr (pe_bm PySem.F.plainAttrs_list PySem.F.slot_list_append PySem.F.type_list_append mt_append (pv 4) (pa_cons (pe_tup (pa_cons (pv 6) (pa_cons (pv 5) (pa_cons (pe_cmpR op_eq (pe_def D_law_draw hr (by rfl) (pa_cons (pv 0) (pa_cons pe_int pa_nil))) pe_int (nomark _)) pa_nil)))) pa_nil))))
pss_nil))))
(pss_one (ps_ret (pe_tup (pa_cons pe_str (pa_cons (pe_callTy (call_tupleK K) (by rfl) T.n_tuple (by decide +kernel) (pa_cons (pv 4) pa_nil)) (pa_cons (pe_def D_law_leaf_schema hr (by rfl) (pa_cons (pv 0) (pa_cons (pe_lst (pa_cons pe_int pa_nil)) pa_nil))) pa_nil))))))))))), ?_⟩
  walk_at "st"
  walk_at "go"
  refine c_draw ia hA (by decide) (by decide) fun n H1 g1 n0 n1 => ?_
  walk_at "go"
  refine w_lcRn A (fun _ v H => tSch 1 v H) (fun i v H H' t h => h.mono t) (by walk_at "ft") (by omega) (by omega) ?step ?done
  case step =>
    intro i H4 Nx hi g4 nx
    walk_at "go"
    rename_i r H5 nr g5 hr5
    have iA : IA A H5 := by walk_at "ft"
    exact c_g (A := (r, 1) :: A) _ (iA.cons (ints1_of hr5)) ⟨a, r, rfl, List.mem_cons_of_mem _ hA, List.mem_cons_self, rfl⟩ fun v H6 g6 hv => nx _ _ (G.alloc nr g5 (ints1_of hr5) g6) hv
  case done =>
  intro D ys H2 hD g2 e2 hl hp
  obtain ⟨ds, hds, ods⟩ := Reps.of hp
  have ld := hds.len
  have nD : D ∉ A.map (·.1) := IA.no (H := H1) (by walk_at "ft") hD
  walk_at "go"
  refine c_draw (A := A) (by walk_at "ft") hA (by decide) (by decide) fun k H3 g3 k0 k1 => ?_
  walk_at "go"
  refine w_iteD (fun c => ?_) (fun c => ?_)
  · walk_at "go"
    rename_i pl Hd npl gd hpl
    have e : ∃ (w : Str), ([V.str "tuple", V.str "either", V.str "all"] : List V)[k.toNat]? = some (V.str w) ∧ (w = "tuple" ∨ w = "either" ∨ w = "all") := by
      have h : k = 0 ∨ k = 1 ∨ k = 2 := by omega
      rcases h with rfl | rfl | rfl
      · exact ⟨"tuple", rfl, .inl rfl⟩
      · exact ⟨"either", rfl, .inr (.inl rfl)⟩
      · exact ⟨"all", rfl, .inr (.inr rfl)⟩
    obtain ⟨w, e1, e3⟩ := e
    refine w_ixLn (n := k.toNat) hpl (by omega) e1 ?_
    walk_at "go"
    exact q _ _ (by walk_at "ft") ⟨_, rep_tg1 (w := w) (xs := ys) (ds := ds) (by walk_at "ft") (by walk_at "ft") (by walk_at "ft"), .inr (.inr (.inl ⟨w, ds, rfl, e3, by omega, ods⟩))⟩
  walk_at "go"
  rename_i l Hl nl gl hl0
  refine w_forLi (xs := ys) (fun i σ' H' => ∃ o2 o3 xs rs, σ' = [some (.ref a), some (.ref D), none, some (.int k), some (.ref l), o2, o3, none] ∧ G A H3 H' ∧ H' D = some (.lst ys) ∧ H' l = some (.lst xs) ∧ Reps H' xs rs ∧ (∀ r ∈ rs, OkR 1 r) ∧ rs.length ≤ i) ⟨_, _, [], [], rfl, gl.any, by walk_at "ft", hl0, .nil, fun _ z => (nomatch z), Nat.le_refl _⟩ (fun i σ' H' h => by
    obtain ⟨_, _, _, _, _, _, h, _⟩ := h
    exact SqL.of h) ?hs ?hd
  case hs =>
    rintro i x σ' H5 hi ⟨o2, o3, xs, rs, rfl, g5, h5D, h5l, hrs, ors, hlr⟩
    have lx := hrs.len
    have hi2 := (List.getElem?_eq_some_iff.mp hi).1
    obtain ⟨d, hd0, hxd⟩ := hds.get hi
    have od := ods d (List.mem_of_getElem? hd0)
    have nl5 : l ∉ A.map (·.1) := IA.no (H := H3) (by walk_at "ft") nl
    walk_at "go"
    refine c_1 (A := A) (by walk_at "ft") hA fun v H6 g6 hv => ?_
    obtain ⟨s, rfl, hs1, hs2⟩ := hv
    walk_at "go"
    refine w_lcLi A (fun i y _ => ∃ r, rs[i]? = some r ∧ y = .str (strD (arg 0 r))) (fun _ _ _ _ _ h => h) (by walk_at "ft") (xs := xs) (fun H9 g9 => SqL.of (by walk_at "ft")) (by omega) ?step1 ?done1
    case step1 =>
      intro i9 x9 H9 Nx hi9 g9 nx
      obtain ⟨r9, hr9, hx9⟩ := hrs.get hi9
      have or9 := ors r9 (List.mem_of_getElem? hr9)
      obtain ⟨n9, s9, b9, rfl, hn9, hs9⟩ := or9
      obtain ⟨p9, xf9, rfl, hp9, hrf9⟩ := hx9.tupE
      cases hrf9 with
      | cons hn91 hrf9 =>
      cases hn91
      walk_at "go"
      exact nx _ _ (by walk_at "ft") ⟨_, hr9, rfl⟩
    case done1 =>

    intro D7 ns H7 hD7 g7 e7 hl7 hp7
    have eb := lst_map (F := fun f => V.str (strD (arg 0 f))) (by omega) hp7
    rw [eb] at e7
    have hxd3 : Rep H7 x d := by walk_at "ft"
    walk_at "go"
    refine w_notIn (fs := rs) e7 ?_
    walk_at "go"
    refine w_ite (fun c => ?_) (fun c => ?_)
    · walk_at "go"
      refine w_ty (xs := xs) (by walk_at "ft") ?_
      walk_at "go"
      refine c_draw (A := A) (by walk_at "ft") hA (by decide) (by decide) fun n8 H8 g8 n80 n81 => ?_
      walk_at "go"
      rename_i p9 H9 np9 g9 hp9
      have e9 : H9 l = some (.lst xs) := by walk_at "ft"
      refine w_append e9 (by omega) ?_
      have t9 := Pk.T.lst (o := .lst (xs ++ [V.ref p9])) e9
      have x9 : Rep H9 x d := by walk_at "ft"
      have r9 : Reps H9 xs rs := by walk_at "ft"
      have nDl : D ≠ l := fun e => by
        have z : H3 D = some (.lst ys) := by walk_at "ft"
        rw [e, nl] at z
        cases z
      have d9 : H9 D = some (.lst ys) := by walk_at "ft"
      have g39 : G A H3 H9 := by walk_at "ft"
      refine ⟨_, _, xs ++ [V.ref p9], rs ++ [.tuple [.str s, d, .bool _]], rfl, g39.mut nl, by rw [upd_ne nDl]; exact d9, upd_same, Reps.append (r9.mono t9) (.cons (rep_row (t9 _ _ hp9) (x9.mono t9)) .nil), fun r h => ?_, by rw [List.length_append, List.length_singleton]; omega⟩
      rcases List.mem_append.mp h with h | h
      · exact ors r h
      · rw [List.mem_singleton.mp h]
        exact ⟨s, d, _, rfl, ⟨by omega, hs2⟩, od⟩
    · walk_at "go"
      exact ⟨_, _, xs, rs, rfl, by walk_at "ft", by walk_at "ft", by walk_at "ft", by walk_at "ft", ors, by omega⟩
  case hd =>
    rintro σ' H5 ⟨o2, o3, xs, rs, rfl, g5, h5D, h5l, hrs, ors, hlr⟩
    have lx := hrs.len
    walk_at "go"
    rename_i pt Ht npt gt hpt r H6 nr g6 hr6
    have iA : IA A H6 := by walk_at "ft"
    refine c_g (A := (r, 1) :: A) _ (iA.cons (ints1_of hr6)) ⟨a, r, rfl, List.mem_cons_of_mem _ hA, List.mem_cons_self, rfl⟩ fun v H7 g7 hv => ?_
    have g67 : G A Ht H7 := G.alloc nr g6 (ints1_of hr6) g7
    obtain ⟨d, hd, od⟩ := hv
    clear g7 g6
    walk_at "go"
    rename_i p9 H9 np9 g9 hp9
    exact q _ _ (by walk_at "ft") ⟨tg "object" [.tuple rs, d], .tup hp9 (.cons (.str _) (.cons (.tup (xs := xs) (by walk_at "ft") (by walk_at "ft")) (.cons (by walk_at "ft") .nil))), .inr (.inr (.inr (.inr ⟨rs, d, rfl, by omega, ors, od⟩)))⟩
end
section
variable {P : Program} {w : World} {K : PySem.W.Frag} {mg : Str → Option Value} {base : Heap}
theorem D_law_rows {n j : Nat} (F : At K mg "_law_rows" s_law_rows ["_law_source_here", "_law_depth", "_law_room"]) (Tg : Glob mg) (D_law_draw : Def P w K mg base 1 "_law_draw" ["_law_source_here", "_law_many"] spDraw) (D_law_name : Def P w K mg base 3 "_law_name" ["_law_source_here"] spName)
    (D_law_schema : Def P w K mg base (j + 3) "_law_schema" ["_law_source_here", "_law_depth", "_law_room"] (spSchema n)) : Def P w K mg base (j + 4) "_law_rows" ["_law_source_here", "_law_depth", "_law_room"] (spRows n) := by
  refine F.def sc_law_rows (fun vs H Q E h => ?_) (fun f cdv A outer s H vs Q E hr h => ?_)
  · obtain ⟨A, R, ia, ⟨a, r, dp, rfl, _⟩, _⟩ := h
    rfl
  obtain ⟨A, R, ia, ⟨a, r, dp, rfl, hA, hR, hdp, rfl⟩, q⟩ := h
  have T := Tg
  refine ⟨_, (pss_cons (ps_set (i := 3) sc_law_rows.nd rfl (by first | exact .inl rfl | exact .inr rfl) (pe_lst pa_nil))
(pss_cons (ps_for PassesOwn.never rfl (pi_range1 (by rfl) T.n_range (pa_cons (pe_def D_law_draw hr (by rfl) (pa_cons (pv 0) (pa_cons pe_int pa_nil))) pa_nil)) (pg_name (i := 4) sc_law_rows.nd rfl (by first | exact .inl rfl | exact .inr rfl))
(pss_cons (ps_set (i := 5) sc_law_rows.nd rfl (by first | exact .inl rfl | exact .inr rfl) (pe_def D_law_name hr (by rfl) (pa_cons (pv 0) pa_nil)))
(pss_one (ps_if (pt_cmpR (op_notInK K) (pv 5) (pe_lc (own := [("_law_row", 6)]) rfl sc_law_rows.nd (pi_listK K (pv 3)) (blkOk_by (N := N_law_rows) (sc := defScope s_law_rows) (by decide +kernel)) (fun _ _ _ _ _ => (pg_name (i := 6) sc_law_rows.nd rfl (by first | exact .inl rfl | exact .inr rfl))) (fun _ _ _ _ _ => pts_nil) (fun _ _ _ _ _ => (pe_ix (ix_tupK K) (pv 6) pe_int (fun _ _ => rfl)))) rfl)
(pss_one (ps_expr (pe_bm PySem.F.plainAttrs_list PySem.F.slot_list_append PySem.F.type_list_append mt_append (pv 3) (pa_cons (pe_tup (pa_cons (pv 5) (pa_cons (pe_def D_law_schema hr (by rfl) (pa_cons (pv 0) (pa_cons (pv 1) (pa_cons (pv 2) pa_nil)))) (pa_cons (pe_cmpR op_eq (pe_def D_law_draw hr (by rfl) (pa_cons (pv 0) (pa_cons pe_int pa_nil))) pe_int (nomark _)) pa_nil)))) pa_nil))))
pss_nil))))
(pss_one (ps_ret (pe_callTy (call_tupleK K) (by rfl) T.n_tuple (by decide +kernel) (pa_cons (pv 3) pa_nil)))))), ?_⟩
  walk_at "st"
  walk_at "go"
  rename_i l Hl nl gl hl0
  refine c_draw (A := A) (by walk_at "ft") hA (by decide) (by decide) fun m H1 g1 m0 m1 => ?_
  have nlA : l ∉ A.map (·.1) := ia.no nl
  walk_at "go"
  refine w_forRn (fun i σ' H' => ∃ o1 o2 xs rs, σ' = [some (.ref a), some (.int dp), some (.ref r), some (.ref l), o1, o2, none] ∧ G A H H' ∧ H' l = some (.lst xs) ∧ Reps H' xs rs ∧ (∀ x ∈ rs, OkR (n + 1) x) ∧ rs.length ≤ i) m0 (by omega) ⟨_, _, [], [], rfl, by walk_at "ft", by walk_at "ft", .nil, fun _ z => (nomatch z), Nat.le_refl _⟩ ?hs ?hd
  case hs =>
    rintro i σ' H5 hi ⟨o1, o2, xs, rs, rfl, g5, h5l, hrs, ors, hlr⟩
    have lx := hrs.len
    walk_at "go"
    refine c_1 (A := A) (by walk_at "ft") hA fun v H6 g6 hv => ?_
    obtain ⟨s, rfl, hs1, hs2⟩ := hv
    walk_at "go"
    refine w_lcLi A (fun i y _ => ∃ r, rs[i]? = some r ∧ y = .str (strD (arg 0 r))) (fun _ _ _ _ _ h => h) (by walk_at "ft") (xs := xs) (fun H9 g9 => SqL.of (by walk_at "ft")) (by omega) ?step1 ?done1
    case step1 =>
      intro i9 x9 H9 Nx hi9 g9 nx
      obtain ⟨r9, hr9, hx9⟩ := hrs.get hi9
      have or9 := ors r9 (List.mem_of_getElem? hr9)
      obtain ⟨n9, s9, b9, rfl, hn9, hs9⟩ := or9
      obtain ⟨p9, xf9, rfl, hp9, hrf9⟩ := hx9.tupE
      cases hrf9 with
      | cons hn91 hrf9 =>
      cases hn91
      walk_at "go"
      exact nx _ _ (by walk_at "ft") ⟨_, hr9, rfl⟩
    case done1 =>

    intro D7 ns H7 hD7 g7 e7 hl7 hp7
    have eb := lst_map (F := fun f => V.str (strD (arg 0 f))) (by omega) hp7
    rw [eb] at e7
    walk_at "go"
    refine w_notIn (fs := rs) e7 ?_
    walk_at "go"
    refine w_ite (fun c => ?_) (fun c => ?_)
    · walk_at "go"
      refine w_ty (xs := xs) (by walk_at "ft") ?_
      walk_at "go"
      refine c_g (A := A) _ (by walk_at "ft") ⟨a, r, dp, rfl, hA, hR, hdp, rfl⟩ fun sv H10 g10 hsv => ?_
      obtain ⟨sd, hsd, osd⟩ := hsv
      walk_at "go"
      refine c_draw (A := A) (by walk_at "ft") hA (by decide) (by decide) fun n8 H8 g8 n80 n81 => ?_
      walk_at "go"
      rename_i p9 H9 np9 g9 hp9
      have e9 : H9 l = some (.lst xs) := by walk_at "ft"
      refine w_append e9 (by omega) ?_
      have t9 := Pk.T.lst (o := .lst (xs ++ [V.ref p9])) e9
      have x9 : Rep H9 sv sd := by walk_at "ft"
      have r9 : Reps H9 xs rs := by walk_at "ft"
      have g39 : G A H H9 := by walk_at "ft"
      refine ⟨_, _, xs ++ [V.ref p9], rs ++ [.tuple [.str s, sd, .bool _]], rfl, g39.mut nl, upd_same, Reps.append (r9.mono t9) (.cons (rep_row (t9 _ _ hp9) (x9.mono t9)) .nil), fun r h => ?_, by rw [List.length_append, List.length_singleton]; omega⟩
      rcases List.mem_append.mp h with h | h
      · exact ors r h
      · rw [List.mem_singleton.mp h]
        exact ⟨s, sd, _, rfl, ⟨by omega, hs2⟩, osd⟩
    · walk_at "go"
      exact ⟨_, _, xs, rs, rfl, by walk_at "ft", by walk_at "ft", by walk_at "ft", ors, by omega⟩
  case hd =>
    rintro σ' H5 ⟨o1, o2, xs, rs, rfl, g5, h5l, hrs, ors, hlr⟩
    have lx := hrs.len
    walk_at "go"
    rename_i p9 H9 np9 g9 hp9
    exact q _ _ (by walk_at "ft") ⟨rs, .tup hp9 (by walk_at "ft"), by omega, ors⟩
theorem D_law_schema_s {n j : Nat} {sp1 sp2 : Sp} (F : At K mg "_law_schema" s_law_schema ["_law_source_here", "_law_depth", "_law_room"]) (Tg : Glob mg) (D_law_draw : Def P w K mg base 1 "_law_draw" ["_law_source_here", "_law_many"] spDraw) (D_law_bounds : Def P w K mg base 2 "_law_bounds" ["_law_source_here", "_law_least"] spBounds) (D_law_leaf_schema : Def P w K mg base 6 "_law_leaf_schema" ["_law_source_here", "_law_room"] spLeafSchema)
    (D_law_schema : Def P w K mg base (j + 6) "_law_schema" ["_law_source_here", "_law_depth", "_law_room"] sp1) (D_law_rows : Def P w K mg base (j + 7) "_law_rows" ["_law_source_here", "_law_depth", "_law_room"] sp2)
    (hsp : ∀ n', n = n' + 1 → (∀ vs H Q E, spSchema n' vs H Q E → sp1 vs H Q E) ∧ ∀ vs H Q E, spRows n' vs H Q E → sp2 vs H Q E) :
    Def P w K mg base (j + 8) "_law_schema" ["_law_source_here", "_law_depth", "_law_room"] (spSchema n) := by
  refine F.def sc_law_schema (fun vs H Q E h => ?_) (fun f cdv A outer s H vs Q E hr h => ?_)
  · obtain ⟨A, R, ia, ⟨a, r, dp, rfl, _⟩, _⟩ := h
    rfl
  obtain ⟨A, R, ia, ⟨a, r, dp, rfl, hA, hR, hdp, rfl⟩, q⟩ := h
  have T := Tg
  refine ⟨_, (pss_cons (ps_asg (pe_op op_sub (pe_ix (ix_listK K) (pv 2) pe_int (fun _ _ => rfl)) pe_int) (pg_sub (pv 2) pe_int set_list))
(pss_cons (ps_set (i := 3) sc_law_schema.nd rfl (by first | exact .inl rfl | exact .inr rfl) (pe_def D_law_draw hr (by rfl) (pa_cons (pv 0) (pa_cons pe_int pa_nil))))
(pss_cons (ps_if (PW.pt (pw_or (pt_cmpR op_lt (pv 1) pe_int (nomark _)) (pw_or (pt_cmpR op_lt (pe_ix (ix_listK K) (pv 2) pe_int (fun _ _ => rfl)) pe_int (nomark _)) (pw_or1 (pt_cmpR op_lt (pv 3) pe_int (nomark _))))))
(pss_one (ps_ret (pe_def D_law_leaf_schema hr (by rfl) (pa_cons (pv 0) (pa_cons (pv 2) pa_nil)))))
pss_nil)
(pss_cons (ps_if (pt_cmpR op_lt (pv 3) pe_int (nomark _))
(pss_cons (ps_set (i := 4) sc_law_schema.nd rfl (by first | exact .inl rfl | exact .inr rfl) (pe_def D_law_rows hr (by rfl) (pa_cons (pv 0) (pa_cons (pe_op op_sub (pv 1) pe_int) (pa_cons (pv 2) pa_nil)))))
(pss_one (ps_ret (pe_tup (pa_cons pe_str (pa_cons (pv 4) (pa_cons (pe_def D_law_schema hr (by rfl) (pa_cons (pv 0) (pa_cons pe_int (pa_cons (pv 2) pa_nil)))) pa_nil)))))))
pss_nil)
(pss_cons (ps_if (pt_cmpR op_eq (pv 3) pe_int (nomark _))
(pss_cons (ps_set (i := 5) sc_law_schema.nd rfl (by first | exact .inl rfl | exact .inr rfl) (pe_def D_law_bounds hr (by rfl) (pa_cons (pv 0) (pa_cons pe_int pa_nil))))
(pss_one (ps_ret (pe_tup (pa_cons pe_str (pa_cons (pe_def D_law_schema hr (by rfl) (pa_cons (pv 0) (pa_cons (pe_op op_sub (pv 1) pe_int) (pa_cons (pv 2) pa_nil)))) (pa_cons (pe_ix (ix_tupK K) (pv 5) pe_int (fun _ _ => rfl)) (pa_cons (pe_ix (ix_tupK K) (pv 5) pe_int (fun _ _ => rfl)) pa_nil))))))))
pss_nil)
(pss_cons (ps_if (pt_cmpR op_eq (pv 3) pe_int (nomark _))
(pss_one (ps_ret (pe_tup (pa_cons pe_str (pa_cons (pe_callTy (call_tupleK K) (by rfl) T.n_tuple (by decide +kernel) (pa_cons (pe_lc (own := [("_law_j", 6)]) rfl sc_law_schema.nd (pi_range1 (by rfl) T.n_range (pa_cons (pe_def D_law_draw hr (by rfl) (pa_cons (pv 0) (pa_cons pe_int pa_nil))) pa_nil)) (blkOk_by (N := N_law_schema) (sc := defScope s_law_schema) (by decide +kernel)) (fun _ _ _ _ _ => (pg_name (i := 6) sc_law_schema.nd rfl (by first | exact .inl rfl | exact .inr rfl))) (fun _ _ _ _ _ => pts_nil) (fun _ _ _ _ _ => (pe_def D_law_schema hr (by rfl) (pa_cons (pv 0) (pa_cons (pe_op op_sub (pv 1) pe_int) (pa_cons (pv 2) pa_nil)))))) pa_nil)) pa_nil)))))
pss_nil)
(pss_cons (ps_if (pt_cmpR op_eq (pv 3) pe_int (nomark _))
(pss_one (ps_ret (pe_tup (pa_cons pe_str (pa_cons (pe_def D_law_schema hr (by rfl) (pa_cons (pv 0) (pa_cons (pe_op op_sub (pv 1) pe_int) (pa_cons (pv 2) pa_nil)))) pa_nil)))))
pss_nil)
(pss_cons (ps_set (i := 7) sc_law_schema.nd rfl (by first | exact .inl rfl | exact .inr rfl) (pe_ix (ix_listK K) (pe_lst (pa_cons pe_str (pa_cons pe_str pa_nil))) (pe_op op_sub (pv 3) pe_int) (fun _ _ => rfl)))
(pss_one (ps_ret (pe_tup (pa_cons (pv 7) (pa_cons (pe_callTy (call_tupleK K) (by rfl) T.n_tuple (by decide +kernel) (pa_cons (pe_lc (own := [("_law_j", 6)]) rfl sc_law_schema.nd (pi_range1 (by rfl) T.n_range (pa_cons (pe_ix (ix_listK K) (pe_lst (pa_cons pe_int (pa_cons pe_int (pa_cons pe_int (pa_cons pe_int pa_nil))))) (pe_def D_law_draw hr (by rfl) (pa_cons (pv 0) (pa_cons pe_int pa_nil))) (fun _ _ => rfl)) pa_nil)) (blkOk_by (N := N_law_schema) (sc := defScope s_law_schema) (by decide +kernel)) (fun _ _ _ _ _ => (pg_name (i := 6) sc_law_schema.nd rfl (by first | exact .inl rfl | exact .inr rfl))) (fun _ _ _ _ _ => pts_nil) (fun _ _ _ _ _ => (pe_def D_law_schema hr (by rfl) (pa_cons (pv 0) (pa_cons (pe_op op_sub (pv 1) pe_int) (pa_cons (pv 2) pa_nil)))))) pa_nil)) pa_nil))))))))))))), ?_⟩
  walk_at "st"
  obtain ⟨x, ex⟩ := ints1 (ia _ hR)
  walk_at "go"
  refine w_setL (j := 0) ex rfl ?_
  have g : G A H (upd H r (.lst ([x - 1].map V.int))) := G.set (by walk_at "ft") hR rfl
  have e1 : (upd H r (.lst ([V.int x].set 0 (.int (x - 1))))) = upd H r (.lst ([x - 1].map V.int)) := rfl
  rw [e1]
  generalize upd H r (.lst ([x - 1].map V.int)) = H2 at g
  clear ex
  walk_at "go"
  refine c_draw (A := A) (by walk_at "ft") hA (by decide) (by decide) fun k H3 g3 k0 k1 => ?_
  have leaf : ∀ {Q' : VK}, (∀ v H', G A H3 H' → tSch (n + 1) v H' → Q' v H') → spLeafSchema [.ref a, .ref r] H3 Q' E0 := fun q' =>
    c_g (A := A) _ (by walk_at "ft") ⟨a, r, rfl, hA, hR, rfl⟩ fun v H4 g4 hv => by
      obtain ⟨d, hd, od⟩ := hv
      exact q' _ _ g4 ⟨d, hd, OkSch.mono (by omega) od⟩
  obtain ⟨x3, ex3⟩ := ints1 ((show IA A H3 by walk_at "ft") _ hR)
  walk_at "go"
  refine w_iteD (fun c => ?_) (fun c => ?_)
  · walk_at "go"
    exact leaf fun v H4 g4 hv => q _ _ (by walk_at "ft") hv
  obtain ⟨n', rfl⟩ : ∃ n', n = n' + 1 := ⟨n - 1, by omega⟩
  obtain ⟨hs1, hs2⟩ := hsp n' rfl
  walk_at "go"
  refine w_iteD (fun c => ?_) (fun c => ?_)
  · walk_at "go"
    exact leaf fun v H4 g4 hv => q _ _ (by walk_at "ft") hv
  walk_at "go"
  refine w_iteD (fun c => ?_) (fun c => ?_)
  · walk_at "go"
    exact leaf fun v H4 g4 hv => q _ _ (by walk_at "ft") hv
  clear ex3
  walk_at "go"
  refine w_iteD (fun c => ?_) (fun c => ?_)
  · walk_at "go"
    refine hs2 _ _ _ _ (c_g (A := A) _ (by walk_at "ft") ⟨a, r, dp - 1, rfl, hA, hR, by omega, rfl⟩ fun rv H4 g4 hrv => ?_)
    obtain ⟨rs, hrs, lrs, ors⟩ := hrv
    walk_at "go"
    refine hs1 _ _ _ _ (c_g (A := A) _ (by walk_at "ft") ⟨a, r, 1, rfl, hA, hR, by omega, rfl⟩ fun ov H5 g5 hov => ?_)
    obtain ⟨o, ho, oo⟩ := hov
    walk_at "go"
    rename_i p9 H9 np9 g9 hp9
    exact q _ _ (by walk_at "ft") ⟨tg "object" [.tuple rs, o], .tup hp9 (.cons (.str _) (.cons (by walk_at "ft") (.cons (by walk_at "ft") .nil))), .inr (.inr (.inr (.inr ⟨rs, o, rfl, lrs, ors, oo⟩)))⟩
  walk_at "go"
  refine w_iteEqI (fun c => ?_) (fun c => ?_)
  · walk_at "go"
    refine c_g (A := A) _ (by walk_at "ft") ⟨a, 0, rfl, hA, rfl⟩ fun bv H4 g4 hb => ?_
    obtain ⟨lo, hi, hb, l0, l1, hh⟩ := hb
    obtain ⟨pb, xb, rfl, hpb, hrb⟩ := hb.tupE
    cases hrb with
    | cons hlo hrb =>
    cases hlo
    cases hrb with
    | cons hhi hrb =>
    cases hrb
    have okc : OkC (.int lo) hi := by
      refine ⟨⟨lo, rfl, by omega, by omega⟩, ?_⟩
      rcases hh with h | ⟨i, h, i0, i1⟩
      · exact .inl h
      · exact .inr ⟨i, h, by omega, by omega⟩
    walk_at "go"
    refine hs1 _ _ _ _ (c_g (A := A) _ (by walk_at "ft") ⟨a, r, dp - 1, rfl, hA, hR, by omega, rfl⟩ fun ov H5 g5 hov => ?_)
    obtain ⟨o, ho, oo⟩ := hov
    walk_at "go"
    rename_i p9 H9 np9 g9 hp9
    exact q _ _ (by walk_at "ft") ⟨tg "list" [o, .int lo, hi], .tup hp9 (.cons (.str _) (.cons (by walk_at "ft") (.cons (.int _) (.cons (by walk_at "ft") .nil)))), .inr (.inl ⟨o, _, _, rfl, oo, okc⟩)⟩
  walk_at "go"
  refine w_iteEqI (fun c => ?_) (fun c => ?_)
  · walk_at "go"
    refine c_draw (A := A) (by walk_at "ft") hA (by decide) (by decide) fun k2 H4 g4 k20 k21 => ?_
    walk_at "go"
    refine w_lcRn A (fun _ v H => tSch (n' + 1) v H) (fun i v H H' t h => h.mono t) (by walk_at "ft") k20 (by omega) ?step ?done
    case step =>
      intro i H5 Nx hi g5 nx
      walk_at "go"
      exact hs1 _ _ _ _ (c_g (A := A) _ (by walk_at "ft") ⟨a, r, dp - 1, rfl, hA, hR, by omega, rfl⟩ fun v H6 g6 hv => nx _ _ g6 hv)
    case done =>
      intro D ys H5 hD g5 e hl hp
      obtain ⟨ds, hds, ods⟩ := Reps.of hp
      have ld := hds.len
      walk_at "go"
      exact q _ _ (by walk_at "ft") ⟨_, rep_tg1 (w := "tuple") (xs := ys) (ds := ds) (by walk_at "ft") (by walk_at "ft") (by walk_at "ft"), .inr (.inr (.inl ⟨"tuple", ds, rfl, .inl rfl, by omega, ods⟩))⟩
  walk_at "go"
  refine w_iteEqI (fun c => ?_) (fun c => ?_)
  · walk_at "go"
    refine hs1 _ _ _ _ (c_g (A := A) _ (by walk_at "ft") ⟨a, r, dp - 1, rfl, hA, hR, by omega, rfl⟩ fun ov H5 g5 hov => ?_)
    obtain ⟨o, ho, oo⟩ := hov
    walk_at "go"
    rename_i p9 H9 np9 g9 hp9
    exact q _ _ (by walk_at "ft") ⟨tg "not" [o], .tup hp9 (.cons (.str _) (.cons (by walk_at "ft") .nil)), .inr (.inr (.inr (.inl ⟨o, rfl, oo⟩)))⟩
  walk_at "go"
  rename_i pl Hd npl gd hpl
  have e : ∃ (w : Str), ([V.str "either", V.str "all"] : List V)[(k - 10).toNat]? = some (V.str w) ∧ (w = "tuple" ∨ w = "either" ∨ w = "all") := by
    have h : k = 10 ∨ k = 11 := by omega
    rcases h with rfl | rfl
    · exact ⟨"either", rfl, .inr (.inl rfl)⟩
    · exact ⟨"all", rfl, .inr (.inr rfl)⟩
  obtain ⟨w, e1, e3⟩ := e
  refine w_ixLn (n := (k - 10).toNat) hpl (by omega) e1 ?_
  walk_at "go"
  rename_i pm He npm ge hpm
  have nm : pm ∉ A.map (·.1) := IA.no (H := Hd) (by walk_at "ft") npm
  refine c_draw (A := A) (by walk_at "ft") hA (by decide) (by decide) fun k2 H4 g4 k20 k21 => ?_
  have e : ∃ (j : Int), ([V.int 1, V.int 2, V.int 2, V.int 0] : List V)[k2.toNat]? = some (V.int j) ∧ 0 ≤ j ∧ j ≤ 2 := by
    have h : k2 = 0 ∨ k2 = 1 ∨ k2 = 2 ∨ k2 = 3 := by omega
    rcases h with rfl | rfl | rfl | rfl
    · exact ⟨1, rfl, by decide, by decide⟩
    · exact ⟨2, rfl, by decide, by decide⟩
    · exact ⟨2, rfl, by decide, by decide⟩
    · exact ⟨0, rfl, by decide, by decide⟩
  obtain ⟨j2, e1, j0, j1⟩ := e
  refine w_ixLn (n := k2.toNat) (xs := [V.int 1, V.int 2, V.int 2, V.int 0]) (by walk_at "ft") (by omega) e1 ?_
  walk_at "go"
  refine w_lcRn A (fun _ v H => tSch (n' + 1) v H) (fun i v H H' t h => h.mono t) (by walk_at "ft") j0 (by omega) ?step ?done
  case step =>
    intro i H5 Nx hi g5 nx
    walk_at "go"
    exact hs1 _ _ _ _ (c_g (A := A) _ (by walk_at "ft") ⟨a, r, dp - 1, rfl, hA, hR, by omega, rfl⟩ fun v H6 g6 hv => nx _ _ g6 hv)
  case done =>
    intro D ys H5 hD g5 e hl hp
    obtain ⟨ds, hds, ods⟩ := Reps.of hp
    have ld := hds.len
    walk_at "go"
    exact q _ _ (by walk_at "ft") ⟨_, rep_tg1 (w := w) (xs := ys) (ds := ds) (by walk_at "ft") (by walk_at "ft") (by walk_at "ft"), .inr (.inr (.inl ⟨w, ds, rfl, e3, by omega, ods⟩))⟩
theorem D_law_schema (F : At K mg "_law_schema" s_law_schema ["_law_source_here", "_law_depth", "_law_room"]) (Fr : At K mg "_law_rows" s_law_rows ["_law_source_here", "_law_depth", "_law_room"]) (Tg : Glob mg) (D_law_draw : Def P w K mg base 1 "_law_draw" ["_law_source_here", "_law_many"] spDraw) (D_law_name : Def P w K mg base 3 "_law_name" ["_law_source_here"] spName) (D_law_bounds : Def P w K mg base 2 "_law_bounds" ["_law_source_here", "_law_least"] spBounds) (D_law_leaf_schema : Def P w K mg base 6 "_law_leaf_schema" ["_law_source_here", "_law_room"] spLeafSchema) :
    ∀ n, Def P w K mg base (2 * n + 8) "_law_schema" ["_law_source_here", "_law_depth", "_law_room"] (spSchema n)
  | 0 => D_law_schema_s F Tg D_law_draw D_law_bounds D_law_leaf_schema (F.never.mono (by omega)) (Fr.never.mono (by omega)) fun n' e => by omega
  | n + 1 => by
    have ih := D_law_schema F Fr Tg D_law_draw D_law_name D_law_bounds D_law_leaf_schema n
    have hr := D_law_rows (j := 2 * n + 5) Fr Tg D_law_draw D_law_name ih
    exact D_law_schema_s (j := 2 * n + 2) F Tg D_law_draw D_law_bounds D_law_leaf_schema ih hr fun n' e => by
      obtain rfl : n = n' := by omega
      exact ⟨fun vs H Q E h => h, fun vs H Q E h => h⟩
end
section
variable {P : Program} {w : World} {K : PySem.W.Frag} {mg : Str → Option Value} {base : Heap}
theorem D_law_inside (F : At K mg "_law_inside" s_law_inside ["_law_source_here", "_law_low", "_law_high", "_law_far"]) (Tg : Glob mg) (D_law_draw : Def P w K mg base 1 "_law_draw" ["_law_source_here", "_law_many"] spDraw) : Def P w K mg base 2 "_law_inside" ["_law_source_here", "_law_low", "_law_high", "_law_far"] spInside := by
  refine F.def sc_law_inside (fun vs H Q E h => ?_) (fun f cdv A outer s H vs Q E hr h => ?_)
  · obtain ⟨A, R, ia, ⟨a, x, y, lo, hi, far, rfl, _⟩, _⟩ := h
    rfl
  obtain ⟨A, R, ia, ⟨a, x, y, lo, hi, far, rfl, hA, hx, hy, olo, ohi, f0, f1, rfl⟩, q⟩ := h
  have T := Tg
  refine ⟨_, (pss_cut (ps_if (pt_cmp (pc_isN (pv 1)))
(pss_cons (ps_set (i := 1) sc_law_inside.nd rfl (by first | exact .inl rfl | exact .inr rfl) (pe_un un_neg (pv 3)))
(pss_one (ps_if (pt_cmp (pc_notN (pv 2)))
(pss_one (ps_set (i := 1) sc_law_inside.nd rfl (by first | exact .inl rfl | exact .inr rfl) (pe_op op_sub (pv 2) (pv 3))))
pss_nil)))
pss_nil)
(pss_cut (ps_if (pt_cmp (pc_isN (pv 2)))
(pss_one (ps_set (i := 2) sc_law_inside.nd rfl (by first | exact .inl rfl | exact .inr rfl) (pe_op op_add (pv 1) (pv 3))))
pss_nil)
(pss_cons (ps_if (pt_cmpR op_lt (pv 2) (pv 1) (nomark _))
(pss_one (ps_ret pe_non))
pss_nil)
(pss_cons (ps_set (i := 4) sc_law_inside.nd rfl (by first | exact .inl rfl | exact .inr rfl) (pe_def D_law_draw hr (by rfl) (pa_cons (pv 0) (pa_cons pe_int pa_nil))))
(pss_cons (ps_if (pt_cmpR op_lt (pv 4) pe_int (nomark _))
(pss_one (ps_ret (pe_ix (ix_listK K) (pe_lst (pa_cons (pv 1) (pa_cons (pv 2) pa_nil))) (pv 4) (fun _ _ => rfl))))
pss_nil)
(pss_one (ps_ret (pe_op op_add (pv 1) (pe_def D_law_draw hr (by rfl) (pa_cons (pv 0) (pa_cons (pe_op op_add (pe_op op_sub (pv 2) (pv 1)) pe_int) pa_nil))))))))))), ?_⟩
  walk_at "st"
  have hp20 : (10 : Int) ^ 20 = 100000000000000000000 := by decide
  have hp6 : (10 : Int) ^ 6 = 1000000 := by decide
  rw [hp6] at f1
  refine w_cut (fun σ' H' => H = H' ∧ ∃ l' : Int, σ' = [some (.ref a), some (.int l'), some y, some (.int far), none] ∧ (∀ l, lo = .int l → l' = l) ∧ (∀ h, lo = .none → hi = .int h → l' = h - far) ∧ -2000000 ≤ l' ∧ l' ≤ 2000000) ?c1 ?c2
  case c1 =>
    rcases olo with rfl | ⟨l, rfl, l0, l1⟩
    · cases hx
      rcases ohi with rfl | ⟨h, rfl, h0, h1⟩
      · cases hy
        walk_at "go"
        refine w_ite (fun _ => ?_) (fun c => absurd c (by decide))
        walk_at "go"
        refine w_ite (fun c => absurd c (by decide)) (fun _ => ?_)
        walk_at "go"
        exact ⟨rfl, _, rfl, fun _ e => (nomatch e), fun _ _ e => (nomatch e), by omega, by omega⟩
      · cases hy
        walk_at "go"
        refine w_ite (fun _ => ?_) (fun c => absurd c (by decide))
        walk_at "go"
        refine w_ite (fun _ => ?_) (fun c => absurd c (by simp))
        walk_at "go"
        exact ⟨rfl, _, rfl, fun _ e => (nomatch e), fun _ _ e => (by cases e; rfl), by omega, by omega⟩
    · cases hx
      walk_at "go"
      refine w_ite (fun c => absurd c (by simp)) (fun _ => ?_)
      walk_at "go"
      exact ⟨rfl, _, rfl, fun _ e => (by cases e; rfl), fun _ e => (nomatch e), by omega, by omega⟩
  case c2 =>
  rintro σ' _ ⟨rfl, l', rfl, hl1, hl2, b0, b1⟩
  refine w_cut (fun σ' H' => H = H' ∧ ∃ h' : Int, σ' = [some (.ref a), some (.int l'), some (.int h'), some (.int far), none] ∧ (∀ h, hi = .int h → h' = h) ∧ (hi = .none → h' = l' + far) ∧ -4000000 ≤ h' ∧ h' ≤ 4000000) ?d1 ?d2
  case d1 =>
    rcases ohi with rfl | ⟨h, rfl, h0, h1⟩
    · cases hy
      walk_at "go"
      refine w_ite (fun _ => ?_) (fun c => absurd c (by decide))
      walk_at "go"
      exact ⟨rfl, _, rfl, fun _ e => (nomatch e), fun _ => rfl, by omega, by omega⟩
    · cases hy
      walk_at "go"
      refine w_ite (fun c => absurd c (by simp)) (fun _ => ?_)
      walk_at "go"
      exact ⟨rfl, _, rfl, fun _ e => (by cases e; rfl), fun e => (nomatch e), by omega, by omega⟩
  case d2 =>
  rintro σ' _ ⟨rfl, h', rfl, hh1, hh2, c0, c1⟩
  have fin : ∀ n : Int, l' ≤ n → n ≤ h' → (∀ l, lo = .int l → l ≤ n ∧ (hi = .none → n ≤ l + far)) ∧ ∀ h, hi = .int h → n ≤ h := fun n e0 e1 =>
    ⟨fun l e => ⟨by have := hl1 l e; omega, fun e2 => by have := hl1 l e; have := hh2 e2; omega⟩, fun h e => by have := hh1 h e; omega⟩
  walk_at "go"
  refine w_iteD (fun c => ?_) (fun c => ?_)
  · walk_at "go"
    exact q _ _ (by walk_at "ft") (.inl rfl)
  walk_at "go"
  refine c_draw ia hA (by decide) (by decide) fun k H1 g1 k0 k1 => ?_
  walk_at "go"
  refine w_iteD (fun c => ?_) (fun c => ?_)
  · walk_at "go"
    rename_i pl Hd npl gd hpl
    have e : ∃ (j : Int), ([V.int l', V.int h'] : List V)[k.toNat]? = some (V.int j) ∧ l' ≤ j ∧ j ≤ h' := by
      have h : k = 0 ∨ k = 1 := by omega
      rcases h with rfl | rfl
      · exact ⟨l', rfl, by omega, by omega⟩
      · exact ⟨h', rfl, by omega, by omega⟩
    obtain ⟨j, e1, j0, j1⟩ := e
    refine w_ixLn (n := k.toNat) hpl (by omega) e1 ?_
    exact q _ _ (by walk_at "ft") (.inr ⟨j, rfl, fin j j0 j1⟩)
  · walk_at "go"
    refine c_draw (A := A) (by walk_at "ft") hA (by omega) (by rw [hp20]; omega) fun n H2 g2 n0 n1 => ?_
    walk_at "go"
    exact q _ _ (by walk_at "ft") (.inr ⟨_, rfl, fin _ (by omega) (by omega)⟩)
theorem D_law_made_list {k j : Nat} (hk : k ≤ 10) (F : At K mg "_law_made_list" s_law_made_list ["_law_source_here", "_law_schema_here"]) (Tg : Glob mg) (D_law_inside : Def P w K mg base 2 "_law_inside" ["_law_source_here", "_law_low", "_law_high", "_law_far"] spInside)
    (D_law_made : Def P w K mg base (j + 7) "_law_made" ["_law_source_here", "_law_schema_here"] (spMade k)) : Def P w K mg base (j + 8) "_law_made_list" ["_law_source_here", "_law_schema_here"] (spMadeList k) := by
  refine F.def sc_law_made_list (fun vs H Q E h => ?_) (fun f cdv A outer s H vs Q E hr h => ?_)
  · obtain ⟨A, R, ia, ⟨a, x, s, rfl, _⟩, _⟩ := h
    rfl
  obtain ⟨A, R, ia, ⟨a, x, s, rfl, hA, hx, ⟨e, lo, hi, rfl, oe, oc⟩, rfl⟩, q⟩ := h
  have T := Tg
  refine ⟨_, (pss_cons (ps_set (i := 2) sc_law_made_list.nd rfl (by first | exact .inl rfl | exact .inr rfl) (pe_def D_law_inside hr (by rfl) (pa_cons (pv 0) (pa_cons (pe_ix (ix_tupK K) (pv 1) pe_int (fun _ _ => rfl)) (pa_cons (pe_ix (ix_tupK K) (pv 1) pe_int (fun _ _ => rfl)) (pa_cons pe_int pa_nil))))))
(pss_cons (ps_if (pt_cmp (pc_isN (pv 2)))
(pss_one (ps_ret pe_non))
pss_nil)
(pss_cons (ps_setLc (i := 3) (own := [("_law_j", 4)]) rfl sc_law_made_list.nd rfl rfl (sw_true rfl rfl rfl (by decide +kernel)) (pi_range1 (by rfl) T.n_range (pa_cons (pv 2) pa_nil)) (blkOk_by (N := N_law_made_list) (sc := defScope s_law_made_list) (by decide +kernel)) (fun _ _ _ _ _ => (pg_name (i := 4) sc_law_made_list.nd rfl (by first | exact .inl rfl | exact .inr rfl))) (fun _ _ _ _ _ => pts_nil) (fun _ _ _ _ _ => (pe_def D_law_made hr (by rfl) (pa_cons (pv 0) (pa_cons (pe_ix (ix_tupK K) (pv 1) pe_int (fun _ _ => rfl)) pa_nil)))))
(pss_cons (ps_if (pt_cmpR (op_inDK K (room65 hr)) pe_non (pv 3) rfl)
(pss_one (ps_ret (pe_tup (pa_cons pe_str (pa_cons (pe_tup pa_nil) pa_nil)))))
pss_nil)
(pss_one (ps_ret (pe_tup (pa_cons pe_str (pa_cons (pe_callTy (call_tupleK K) (by rfl) T.n_tuple (by decide +kernel) (pa_cons (pv 3) pa_nil)) pa_nil))))))))), ?_⟩
  walk_at "st"
  obtain ⟨p, xs, rfl, hp, hr1⟩ := hx.tg
  cases hr1 with
  | cons hs hr1 =>
  cases hr1 with
  | cons hlo hr1 =>
  cases hr1 with
  | cons hhi hr1 =>
  cases hr1
  walk_at "go"
  refine c_g (A := A) _ ia ⟨a, _, _, lo, hi, 2, rfl, hA, hlo, hhi, oc.b.1, oc.b.2, by decide, by decide, rfl⟩ fun nv H1 g1 hn => ?_
  walk_at "go"
  rcases hn with rfl | ⟨n, rfl, hn1, hn2⟩
  · refine w_ite (fun _ => ?_) (fun c => absurd c (by decide))
    walk_at "go"
    exact q _ _ (by walk_at "ft") (.inl rfl)
  refine w_ite (fun c => absurd c (by simp)) (fun _ => ?_)
  obtain ⟨n0, n1⟩ : 0 ≤ n ∧ n ≤ 20 := by
    obtain ⟨⟨l, el, l0, l1⟩, h2⟩ := oc
    obtain ⟨a1, a2⟩ := hn1 l el
    refine ⟨by omega, ?_⟩
    rcases h2 with e | ⟨h, e, h0, h1⟩
    · have := a2 e
      omega
    · have := hn2 h e
      omega
  walk_at "go"
  refine w_lcRn A (fun _ v H => OptV 100 (k + 2) H v) (fun i v H H' t h => h.mono t) (by walk_at "ft") n0 (by omega) ?step ?done
  case step =>
    intro i H4 Nx hi g4 nx
    walk_at "go"
    exact c_g (A := A) _ (by walk_at "ft") ⟨a, _, e, rfl, hA, by walk_at "ft", oe, rfl⟩ fun v H5 g5 hv => nx _ _ g5 hv
  case done =>
    intro D ys H4 hD g4 e hl hp
    walk_at "go"
    refine w_inN (N := 100) (k := k + 2) (by omega) (by walk_at "ft") (mem_of_ix (P := fun v H => OptV 100 (k + 2) H v) hp) ?_ fun hv => ?_
    · walk_at "go"
      exact q _ _ (by walk_at "ft") (.inr ⟨_, rep_tg1 (w := "list") (xs := []) (ds := []) (by walk_at "ft") (by walk_at "ft") .nil, OkV.list (Nat.zero_le _) fun _ z => nomatch z⟩)
    · obtain ⟨ds, hds, ods⟩ := Reps.ofM hv
      have ld := hds.len
      walk_at "go"
      exact q _ _ (by walk_at "ft") (.inr ⟨_, rep_tg1 (w := "list") (xs := ys) (ds := ds) (by walk_at "ft") (by walk_at "ft") (by walk_at "ft"), OkV.list (by omega) ods⟩)
end
section
variable {P : Program} {w : World} {K : PySem.W.Frag} {mg : Str → Option Value} {base : Heap}
theorem D_law_made_object {k j : Nat} (hk : k ≤ 10) (F : At K mg "_law_made_object" s_law_made_object ["_law_source_here", "_law_schema_here"]) (Tg : Glob mg) (D_law_draw : Def P w K mg base 1 "_law_draw" ["_law_source_here", "_law_many"] spDraw) (D_law_name : Def P w K mg base 3 "_law_name" ["_law_source_here"] spName) (D_law_object : Def P w K mg base 2 "_law_object" ["_law_pairs"] spObject)
    (D_law_made : Def P w K mg base (j + 7) "_law_made" ["_law_source_here", "_law_schema_here"] (spMade k)) : Def P w K mg base (j + 8) "_law_made_object" ["_law_source_here", "_law_schema_here"] (spMadeObject k) := by
  refine F.def sc_law_made_object (fun vs H Q E h => ?_) (fun f cdv A outer s H vs Q E hr h => ?_)
  · obtain ⟨A, R, ia, ⟨a, x, s, rfl, _⟩, _⟩ := h
    rfl
  obtain ⟨A, R, ia, ⟨a, x, s, rfl, hA, hx, ⟨rs, o, rfl, lrs, ors, oo⟩, rfl⟩, q⟩ := h
  have T := Tg
  refine ⟨_, (pss_cons (ps_set (i := 2) sc_law_made_object.nd rfl (by first | exact .inl rfl | exact .inr rfl) (pe_lst pa_nil))
(pss_cons (ps_for PassesOwn.never rfl (pi_tupK K (pe_ix (ix_tupK K) (pv 1) pe_int (fun _ _ => rfl))) (pg_name (i := 3) sc_law_made_object.nd rfl (by first | exact .inl rfl | exact .inr rfl))
(pss_one (ps_if (PW.pt (pw_or (pt_val (pe_ix (ix_tupK K) (pv 3) pe_int (fun _ _ => rfl))) (pw_or1 (pt_cmpR op_eq (pe_def D_law_draw hr (by rfl) (pa_cons (pv 0) (pa_cons pe_int pa_nil))) pe_int (nomark _)))))
(pss_cons (ps_set (i := 4) sc_law_made_object.nd rfl (by first | exact .inl rfl | exact .inr rfl) (pe_def D_law_made hr (by rfl) (pa_cons (pv 0) (pa_cons (pe_ix (ix_tupK K) (pv 3) pe_int (fun _ _ => rfl)) pa_nil))))
(pss_one (ps_if (pt_cmp (pc_notN (pv 4)))
(pss_one (ps_expr (pe_bm PySem.F.plainAttrs_list PySem.F.slot_list_append PySem.F.type_list_append mt_append (pv 2) (pa_cons (pe_tup (pa_cons (pe_ix (ix_tupK K) (pv 3) pe_int (fun _ _ => rfl)) (pa_cons (pv 4) pa_nil))) pa_nil))))
pss_nil)))
pss_nil)))
(pss_cons (ps_for PassesOwn.never rfl (pi_range1 (by rfl) T.n_range (pa_cons (pe_def D_law_draw hr (by rfl) (pa_cons (pv 0) (pa_cons pe_int pa_nil))) pa_nil)) (pg_name (i := 5) sc_law_made_object.nd rfl (by first | exact .inl rfl | exact .inr rfl))
(pss_cons (ps_set (i := 6) sc_law_made_object.nd rfl (by first | exact .inl rfl | exact .inr rfl) (pe_def D_law_name hr (by rfl) (pa_cons (pv 0) pa_nil)))
(pss_cons (ps_set (i := 4) sc_law_made_object.nd rfl (by first | exact .inl rfl | exact .inr rfl) (pe_def D_law_made hr (by rfl) (pa_cons (pv 0) (pa_cons (pe_ix (ix_tupK K) (pv 1) pe_int (fun _ _ => rfl)) pa_nil))))
(pss_one (ps_if (PW.pt (pw_and (pt_cmp (pc_notN (pv 4))) (pw_and1 (pt_cmpR (op_notInK K) (pv 6) (pe_lc (own := [("_law_row", 3)]) rfl sc_law_made_object.nd (pi_tupK K (pe_ix (ix_tupK K) (pv 1) pe_int (fun _ _ => rfl))) (blkOk_by (N := N_law_made_object) (sc := defScope s_law_made_object) (by decide +kernel)) (fun _ _ _ _ _ => (pg_name (i := 3) sc_law_made_object.nd rfl (by first | exact .inl rfl | exact .inr rfl))) (fun _ _ _ _ _ => pts_nil) (fun _ _ _ _ _ => (pe_ix (ix_tupK K) (pv 3) pe_int (fun _ _ => rfl)))) rfl))))
(pss_one (ps_expr (pe_bm PySem.F.plainAttrs_list PySem.F.slot_list_append PySem.F.type_list_append mt_append (pv 2) (pa_cons (pe_tup (pa_cons (pv 6) (pa_cons (pv 4) pa_nil))) pa_nil))))
pss_nil)))))
(pss_one (ps_ret (pe_def D_law_object hr (by rfl) (pa_cons (pv 2) pa_nil))))))), ?_⟩
  walk_at "st"
  obtain ⟨p, xs, rfl, hp, hr1⟩ := hx.tg
  cases hr1 with
  | cons hrs hr1 =>
  cases hr1 with
  | cons ho hr1 =>
  cases hr1
  obtain ⟨pr, rows, rfl, hpr, hrr⟩ := hrs.tupE
  have lr := hrr.len
  walk_at "go"
  rename_i l Hl nl gl hl0
  have nlA : l ∉ A.map (·.1) := ia.no nl
  refine w_forT (xs := rows) (fun i σ' H' => ∃ o1 o2 ys fs, σ' = [some (.ref a), some (.ref p), some (.ref l), o1, o2, none, none] ∧ Pk.T Hl H' ∧ G A H H' ∧ H' l = some (.lst ys) ∧ Reps H' ys fs ∧ (∀ f ∈ fs, OkF 100 (k + 2) f) ∧ fs.length ≤ i) (by walk_at "ft") ⟨_, _, [], [], rfl, Pk.T.refl _, by walk_at "ft", hl0, .nil, fun _ z => (nomatch z), Nat.le_refl _⟩ (fun i σ' H' h => by
    obtain ⟨_, _, _, _, _, t, _⟩ := h
    exact t) ?hs ?hd
  case hs =>
    rintro i x σ' H5 hi ⟨o1, o2, ys, fs, rfl, t5, g5, h5l, hfs, ofs, hlf⟩
    have lx := hfs.len
    have hi2 := (List.getElem?_eq_some_iff.mp hi).1
    obtain ⟨r, hr0, hxr⟩ := hrr.get hi
    obtain ⟨n, s, b, rfl, on, os⟩ := ors r (List.mem_of_getElem? hr0)
    obtain ⟨pf, xf, rfl, hpf, hrf⟩ := hxr.tupE
    cases hrf with
    | cons h1 hrf =>
    cases h1
    cases hrf with
    | cons hs2 hrf =>
    cases hrf with
    | cons h3 hrf =>
    cases h3
    cases hrf
    have skip : ∀ (H' : Hp) o1 o2, G A H5 H' → ∃ o1' o2' ys fs, [some (V.ref a), some (.ref p), some (.ref l), o1, o2, none, none] = [some (V.ref a), some (.ref p), some (.ref l), o1', o2', none, none] ∧ Pk.T Hl H' ∧ G A H H' ∧ H' l = some (.lst ys) ∧ Reps H' ys fs ∧ (∀ f ∈ fs, OkF 100 (k + 2) f) ∧ fs.length ≤ i + 1 := fun H' o1 o2 g' =>
      ⟨o1, o2, ys, fs, rfl, t5.trans g'.t, g5.trans g', g'.k _ _ nlA h5l, hfs.mono g'.t, ofs, by omega⟩
    have body : ∀ (H6 : Hp) (Q' : VK), G A H5 H6 → (∀ v H7, G A H5 H7 → tOptV 100 (k + 2) v H7 → Q' v H7) → spMade k [.ref a, _] H6 Q' E0 := fun H6 Q' g6 q' =>
      c_g (A := A) _ (by walk_at "ft") ⟨a, _, s, rfl, hA, by walk_at "ft", os, rfl⟩ fun v H7 g7 hv => q' v H7 (g6.trans g7) hv
    walk_at "go"
    refine w_ite (fun hb => ?_) (fun hb => ?_)
    · walk_at "go"
      refine body _ _ (by walk_at "ft") fun v H7 g7 hv => ?_
      walk_at "go"
      rcases hv with rfl | ⟨d, hd, od⟩
      · refine w_ite (fun c => absurd c (by decide)) (fun _ => ?_)
        walk_at "go"
        exact skip _ _ _ g7
      refine w_iteNotD (fun nn => ?_) (fun e => absurd e (ok_nn hd od))
      walk_at "go"
      refine w_ty (xs := ys) (by walk_at "ft") ?_
      walk_at "go"
      rename_i p9 H9 np9 g9 hp9
      have e9 : H9 l = some (.lst ys) := by walk_at "ft"
      refine w_append e9 (by omega) ?_
      have t9 := Pk.T.lst (o := .lst (ys ++ [V.ref p9])) e9
      have x9 : Rep H9 v d := by walk_at "ft"
      have r9 : Reps H9 ys fs := by walk_at "ft"
      have g59 : G A H5 H9 := by walk_at "ft"
      have g39 : G A H H9 := g5.trans g59
      refine ⟨_, _, ys ++ [V.ref p9], fs ++ [.tuple [.str n, d]], rfl, (t5.trans g59.t).trans t9, g39.mut nl, upd_same, Reps.append (r9.mono t9) (.cons (rep_pair (t9 _ _ hp9) (x9.mono t9)) .nil), fun f h => ?_, by rw [List.length_append, List.length_singleton]; omega⟩
      rcases List.mem_append.mp h with h | h
      · exact ofs f h
      · rw [List.mem_singleton.mp h]
        exact ⟨n, d, rfl, on, od⟩
    · walk_at "go"
      refine c_draw (A := A) (by walk_at "ft") hA (by decide) (by decide) fun n8 H8 g8 n80 n81 => ?_
      walk_at "go"
      refine w_iteEqI (fun c => ?_) (fun c => ?_)
      · walk_at "go"
        refine body _ _ (by walk_at "ft") fun v H7 g7 hv => ?_
        walk_at "go"
        rcases hv with rfl | ⟨d, hd, od⟩
        · refine w_ite (fun c => absurd c (by decide)) (fun _ => ?_)
          walk_at "go"
          exact skip _ _ _ g7
        refine w_iteNotD (fun nn => ?_) (fun e => absurd e (ok_nn hd od))
        walk_at "go"
        refine w_ty (xs := ys) (by walk_at "ft") ?_
        walk_at "go"
        rename_i p9 H9 np9 g9 hp9
        have e9 : H9 l = some (.lst ys) := by walk_at "ft"
        refine w_append e9 (by omega) ?_
        have t9 := Pk.T.lst (o := .lst (ys ++ [V.ref p9])) e9
        have x9 : Rep H9 v d := by walk_at "ft"
        have r9 : Reps H9 ys fs := by walk_at "ft"
        have g59 : G A H5 H9 := by walk_at "ft"
        have g39 : G A H H9 := g5.trans g59
        refine ⟨_, _, ys ++ [V.ref p9], fs ++ [.tuple [.str n, d]], rfl, (t5.trans g59.t).trans t9, g39.mut nl, upd_same, Reps.append (r9.mono t9) (.cons (rep_pair (t9 _ _ hp9) (x9.mono t9)) .nil), fun f h => ?_, by rw [List.length_append, List.length_singleton]; omega⟩
        rcases List.mem_append.mp h with h | h
        · exact ofs f h
        · rw [List.mem_singleton.mp h]
          exact ⟨n, d, rfl, on, od⟩
      · walk_at "go"
        exact skip _ _ _ (by walk_at "ft")
  case hd =>
    rintro σ' H5 ⟨o1, o2, ys, fs, rfl, t5, g5, h5l, hfs, ofs, hlf⟩
    walk_at "go"
    refine c_draw (A := A) (by walk_at "ft") hA (by decide) (by decide) fun m H6 g6 m0 m1 => ?_
    walk_at "go"
    refine w_forRn (fun i σ' H' => ∃ o1 o2 o3 o4 ys fs, σ' = [some (.ref a), some (.ref p), some (.ref l), o1, o2, o3, o4] ∧ G A H H' ∧ H' l = some (.lst ys) ∧ Reps H' ys fs ∧ (∀ f ∈ fs, OkF 100 (k + 2) f) ∧ fs.length ≤ 20 + i) m0 (by omega) ⟨_, _, _, _, ys, fs, rfl, by walk_at "ft", by walk_at "ft", by walk_at "ft", ofs, by omega⟩ ?hs2 ?hd2
    case hs2 =>
      clear hfs hlf ofs h5l g6 g5 t5
      rintro i σ' H5 hi ⟨o1, o2, o3, o4, ys, fs, rfl, g5, h5l, hfs, ofs, hlf⟩
      have lx := hfs.len
      walk_at "go"
      refine c_1 (A := A) (by walk_at "ft") hA fun v H6 g6 hv => ?_
      obtain ⟨s, rfl, hs1, hs2⟩ := hv
      walk_at "go"
      refine c_g (A := A) _ (by walk_at "ft") ⟨a, _, o, rfl, hA, by walk_at "ft", oo, rfl⟩ fun v H7 g7 hv => ?_
      walk_at "go"
      rcases hv with rfl | ⟨d, hd, od⟩
      · refine w_ite (fun c => absurd c (by decide)) (fun _ => ?_)
        walk_at "go"
        exact ⟨_, _, _, _, ys, fs, rfl, by walk_at "ft", by walk_at "ft", by walk_at "ft", ofs, by omega⟩
      refine w_iteNotD (fun nn => ?_) (fun e => absurd e (ok_nn hd od))
      walk_at "go"
      refine w_lcT A (fun i y _ => ∃ r, rs[i]? = some r ∧ y = .str (strD (arg 0 r))) (fun _ _ _ _ _ h => h) (by walk_at "ft") (xs := rows) (by walk_at "ft") (by omega) ?step1 ?done1
      case step1 =>
        intro i9 x9 H9 Nx hi9 g9 nx
        obtain ⟨r9, hr9, hx9⟩ := hrr.get hi9
        have or9 := ors r9 (List.mem_of_getElem? hr9)
        obtain ⟨n9, s9, b9, rfl, hn9, hs9⟩ := or9
        obtain ⟨p9, xf9, rfl, hp9, hrf9⟩ := hx9.tupE
        cases hrf9 with
        | cons hn91 hrf9 =>
        cases hn91
        walk_at "go"
        exact nx _ _ (by walk_at "ft") ⟨_, hr9, rfl⟩
      case done1 =>
      intro D7 ns H8 hD7 g8 e7 hl7 hp7
      have eb := lst_map (F := fun f => V.str (strD (arg 0 f))) (by omega) hp7
      rw [eb] at e7
      walk_at "go"
      refine w_notIn (fs := rs) e7 ?_
      walk_at "go"
      refine w_ite (fun c => ?_) (fun c => ?_)
      · walk_at "go"
        refine w_ty (xs := ys) (by walk_at "ft") ?_
        walk_at "go"
        rename_i p9 H9 np9 g9 hp9
        have e9 : H9 l = some (.lst ys) := by walk_at "ft"
        refine w_append e9 (by omega) ?_
        have t9 := Pk.T.lst (o := .lst (ys ++ [V.ref p9])) e9
        have x9 : Rep H9 v d := by walk_at "ft"
        have r9 : Reps H9 ys fs := by walk_at "ft"
        have g39 : G A H H9 := by walk_at "ft"
        refine ⟨_, _, _, _, ys ++ [V.ref p9], fs ++ [.tuple [.str s, d]], rfl, g39.mut nl, upd_same, Reps.append (r9.mono t9) (.cons (rep_pair (t9 _ _ hp9) (x9.mono t9)) .nil), fun f h => ?_, by rw [List.length_append, List.length_singleton]; omega⟩
        rcases List.mem_append.mp h with h | h
        · exact ofs f h
        · rw [List.mem_singleton.mp h]
          exact ⟨s, d, rfl, ⟨by omega, hs2⟩, od⟩
      · walk_at "go"
        exact ⟨_, _, _, _, ys, fs, rfl, by walk_at "ft", by walk_at "ft", by walk_at "ft", ofs, by omega⟩
    case hd2 =>
      clear hfs hlf ofs h5l g6 g5 t5
      rintro σ' H5 ⟨o1, o2, o3, o4, ys, fs, rfl, g5, h5l, hfs, ofs, hlf⟩
      walk_at "go"
      refine c_object h5l hfs ofs (by omega) (by decide) fun v H6 d g6 hv od => ?_
      walk_at "go"
      exact q _ _ (by walk_at "ft") (.inr ⟨d, hv, od⟩)
end
section
variable {P : Program} {w : World} {K : PySem.W.Frag} {mg : Str → Option Value} {base : Heap}
theorem D_law_made_s {k j : Nat} (hk : k ≤ 10) (F : At K mg "_law_made" s_law_made ["_law_source_here", "_law_schema_here"]) (Tg : Glob mg) (D_law_draw : Def P w K mg base 1 "_law_draw" ["_law_source_here", "_law_many"] spDraw) (D_law_char : Def P w K mg base 2 "_law_char" ["_law_source_here"] spChar) (D_law_inside : Def P w K mg base 2 "_law_inside" ["_law_source_here", "_law_low", "_law_high", "_law_far"] spInside) (D_law_value : Def P w K mg base 6 "_law_value" ["_law_source_here", "_law_depth"] (spValue 1))
    (D_law_made : Def P w K mg base (j + 7) "_law_made" ["_law_source_here", "_law_schema_here"] (spMade k)) (D_law_made_list : Def P w K mg base (j + 8) "_law_made_list" ["_law_source_here", "_law_schema_here"] (spMadeList k)) (D_law_made_object : Def P w K mg base (j + 8) "_law_made_object" ["_law_source_here", "_law_schema_here"] (spMadeObject k)) : Def P w K mg base (j + 9) "_law_made" ["_law_source_here", "_law_schema_here"] (spMade (k + 1)) := by
  refine F.def sc_law_made (fun vs H Q E h => ?_) (fun f cdv A outer s H vs Q E hr h => ?_)
  · obtain ⟨A, R, ia, ⟨a, x, s, rfl, _⟩, _⟩ := h
    rfl
  obtain ⟨A, R, ia, ⟨a, x, s, rfl, hA, hx, ok, rfl⟩, q⟩ := h
  have T := Tg
  refine ⟨_, (pss_cons (ps_set (i := 2) sc_law_made.nd rfl (by first | exact .inl rfl | exact .inr rfl) (pe_ix (ix_tupK K) (pv 1) pe_int (fun _ _ => rfl)))
(pss_cons (ps_if (pt_cmpR op_eq (pv 2) pe_str (nomark _))
(pss_one (ps_ret (pe_def D_law_value hr (by rfl) (pa_cons (pv 0) (pa_cons pe_int pa_nil)))))
pss_nil)
(pss_cons (ps_if (pt_cmpR op_eq (pv 2) pe_str (nomark _))
(pss_one (ps_ret (pe_tup (pa_cons pe_str pa_nil))))
pss_nil)
(pss_cons (ps_if (pt_cmpR op_eq (pv 2) pe_str (nomark _))
(pss_one (ps_ret (pe_tup (pa_cons pe_str (pa_cons (pe_cmpR op_eq (pe_def D_law_draw hr (by rfl) (pa_cons (pv 0) (pa_cons pe_int pa_nil))) pe_int (nomark _)) pa_nil)))))
pss_nil)
(pss_cons (ps_if (PW.pt (pw_or (pt_cmpR op_eq (pv 2) pe_str (nomark _)) (pw_or1 (pt_cmpR op_eq (pv 2) pe_str (nomark _)))))
(pss_cons (ps_set (i := 3) sc_law_made.nd rfl (by first | exact .inl rfl | exact .inr rfl) (pe_def D_law_inside hr (by rfl) (pa_cons (pv 0) (pa_cons (pe_ix (ix_tupK K) (pv 1) pe_int (fun _ _ => rfl)) (pa_cons (pe_ix (ix_tupK K) (pv 1) pe_int (fun _ _ => rfl)) (pa_cons (pe_ix (ix_listK K) (pe_lst (pa_cons (pe_op op_pow pe_int pe_int) (pa_cons pe_int pa_nil))) (pe_callTy call_int1' (by rfl) T.n_int (by decide +kernel) (pa_cons (pe_cmpR op_eq (pv 2) pe_str (nomark _)) pa_nil)) (fun _ _ => rfl)) pa_nil))))))
(pss_cons (ps_if (PW.pt (pw_or (pt_cmp (pc_isN (pv 3))) (pw_or1 (pt_cmpR op_eq (pv 2) pe_str (nomark _)))))
(pss_one (ps_ret (pe_ix (ix_listK K) (pe_lst (pa_cons (pe_tup (pa_cons pe_str (pa_cons (pv 3) pa_nil))) (pa_cons pe_non pa_nil))) (pe_callTy call_int1' (by rfl) T.n_int (by decide +kernel) (pa_cons (pe_cmp (pc_isN (pv 3))) pa_nil)) (fun _ _ => rfl))))
pss_nil)
(pss_one (ps_ret (pe_tup (pa_cons pe_str (pa_cons (pe_join pe_str (pe_lc (own := [("_law_j", 4)]) rfl sc_law_made.nd (pi_range1 (by rfl) T.n_range (pa_cons (pv 3) pa_nil)) (blkOk_by (N := N_law_made) (sc := defScope s_law_made) (by decide +kernel)) (fun _ _ _ _ _ => (pg_name (i := 4) sc_law_made.nd rfl (by first | exact .inl rfl | exact .inr rfl))) (fun _ _ _ _ _ => pts_nil) (fun _ _ _ _ _ => (pe_def D_law_char hr (by rfl) (pa_cons (pv 0) pa_nil))))) pa_nil)))))))
pss_nil)
(pss_cons (ps_if (pt_cmpR op_eq (pv 2) pe_str (nomark _))
(pss_one (ps_ret (pe_ix (ix_tupK K) (pv 1) pe_int (fun _ _ => rfl))))
pss_nil)
(pss_cons (ps_if (pt_cmpR op_eq (pv 2) pe_str (nomark _))
(pss_one (ps_ret (pe_def D_law_made_list hr (by rfl) (pa_cons (pv 0) (pa_cons (pv 1) pa_nil)))))
pss_nil)
(pss_cons (ps_if (pt_cmpR op_eq (pv 2) pe_str (nomark _))
(pss_cons (ps_setLc (i := 5) (own := [("_law_part", 6)]) rfl sc_law_made.nd rfl rfl (sw_true rfl rfl rfl (by decide +kernel)) (pi_tupK K (pe_ix (ix_tupK K) (pv 1) pe_int (fun _ _ => rfl))) (blkOk_by (N := N_law_made) (sc := defScope s_law_made) (by decide +kernel)) (fun _ _ _ _ _ => (pg_name (i := 6) sc_law_made.nd rfl (by first | exact .inl rfl | exact .inr rfl))) (fun _ _ _ _ _ => pts_nil) (fun _ _ _ _ _ => (pe_def D_law_made hr (by rfl) (pa_cons (pv 0) (pa_cons (pv 6) pa_nil)))))
(pss_cons (ps_if (pt_cmpR (op_inDK K (room65 hr)) pe_non (pv 5) rfl)
(pss_one (ps_ret pe_non))
pss_nil)
(pss_one (ps_ret (pe_tup (pa_cons pe_str (pa_cons (pe_callTy (call_tupleK K) (by rfl) T.n_tuple (by decide +kernel) (pa_cons (pv 5) pa_nil)) pa_nil)))))))
pss_nil)
(pss_cons (ps_if (pt_cmpR op_eq (pv 2) pe_str (nomark _))
(pss_one (ps_ret (pe_def D_law_made_object hr (by rfl) (pa_cons (pv 0) (pa_cons (pv 1) pa_nil)))))
pss_nil)
(pss_cons (ps_if (PW.pt (pw_and (pt_cmpR op_eq (pv 2) pe_str (nomark _)) (pw_and1 (pt_cmpR op_gt (pe_callB (call_lenK K) (by rfl) T.n_len (by decide +kernel) (pa_cons (pe_ix (ix_tupK K) (pv 1) pe_int (fun _ _ => rfl)) pa_nil)) pe_int (nomark _)))))
(pss_one (ps_ret (pe_def D_law_made hr (by rfl) (pa_cons (pv 0) (pa_cons (pe_ix (ix_tupK K) (pe_ix (ix_tupK K) (pv 1) pe_int (fun _ _ => rfl)) (pe_def D_law_draw hr (by rfl) (pa_cons (pv 0) (pa_cons (pe_callB (call_lenK K) (by rfl) T.n_len (by decide +kernel) (pa_cons (pe_ix (ix_tupK K) (pv 1) pe_int (fun _ _ => rfl)) pa_nil)) pa_nil))) (fun _ _ => rfl)) pa_nil)))))
pss_nil)
(pss_cons (ps_if (PW.pt (pw_and (pt_cmpR op_eq (pv 2) pe_str (nomark _)) (pw_and1 (pt_cmpR op_gt (pe_callB (call_lenK K) (by rfl) T.n_len (by decide +kernel) (pa_cons (pe_ix (ix_tupK K) (pv 1) pe_int (fun _ _ => rfl)) pa_nil)) pe_int (nomark _)))))
(pss_one (ps_ret (pe_def D_law_made hr (by rfl) (pa_cons (pv 0) (pa_cons (pe_ix (ix_tupK K) (pe_ix (ix_tupK K) (pv 1) pe_int (fun _ _ => rfl)) pe_int (fun _ _ => rfl)) pa_nil)))))
pss_nil)
(pss_one (ps_ret (pe_def D_law_value hr (by rfl) (pa_cons (pv 0) (pa_cons pe_int pa_nil)))))))))))))))), ?_⟩
  walk_at "st"
  obtain ⟨wd, r, rfl, ss⟩ := ok.sh
  obtain ⟨p, xs, rfl, hp, hr1⟩ := hx.tg
  have val : ∀ {Q' : VK}, (∀ v H', G A H H' → tOptV 100 (k + 1 + 2) v H' → Q' v H') → spValue 1 [.ref a, .int 2] H Q' E0 := fun q' =>
    c_g (A := A) _ ia ⟨a, 2, rfl, hA, by decide, rfl⟩ fun v H4 g4 hv => by
      obtain ⟨d, hd, od⟩ := hv
      exact q' _ _ g4 (.inr ⟨d, hd, OkV.mono (Nat.le_refl _) (by omega) od⟩)
  have reco : ∀ {Q' : VK} {H0 : Hp} {y : V} {s : PyData}, G A H H0 → Rep H0 y s → OkSch k s → (∀ v H', G A H H' → tOptV 100 (k + 1 + 2) v H' → Q' v H') → spMade k [.ref a, y] H0 Q' E0 := fun g0 hy os q' =>
    c_g (A := A) _ (by walk_at "ft") ⟨a, _, _, rfl, hA, hy, os, rfl⟩ fun v H4 g4 hv => q' _ _ (g0.trans g4) (OptV.up (by omega) hv)
  walk_at "go"
  refine w_iteEqS (fun c => ?_) (fun c1 => ?_)
  · walk_at "go"
    refine val fun v H1 g1 hv => ?_
    walk_at "go"
    exact q _ _ g1 hv
  walk_at "go"
  refine w_iteEqS (fun c => ?_) (fun c2 => ?_)
  · walk_at "go"
    exact q _ _ (by walk_at "ft") (.inr ⟨tg "null" [], .tup (xs := [.str "null"]) (by walk_at "ft") (.cons (.str _) .nil), OkV.leaf (.inl rfl)⟩)
  walk_at "go"
  refine w_iteEqS (fun c => ?_) (fun c3 => ?_)
  · walk_at "go"
    refine c_draw ia hA (by decide) (by decide) fun n H1 g1 n0 n1 => ?_
    walk_at "go"
    rename_i p9 H9 np9 g9 hp9
    exact q _ _ (by walk_at "ft") (.inr ⟨tg "bool" [.bool _], .tup hp9 (.cons (.str _) (.cons (.bl _) .nil)), OkV.leaf (.inr (.inl ⟨_, rfl⟩))⟩)
  walk_at "go"
  refine w_iteEqS (fun c => ?_) (fun c4 => ?_)
  · subst c
    obtain ⟨lo, hi, rfl, hlo, hhi⟩ := ss.int rfl
    cases hr1 with
    | cons hs1 hr1 =>
    cases hr1 with
    | cons hs2 hr1 =>
    cases hr1
    walk_at "go"
    refine c_g (A := A) _ (by walk_at "ft") ⟨a, _, _, lo, hi, _, rfl, hA, by walk_at "ft", by walk_at "ft", hlo, hhi, by decide, by decide, rfl⟩ fun nv H1 g1 hn => ?_
    walk_at "go"
    rcases hn with rfl | ⟨n, rfl, hn1, hn2⟩
    · refine w_ite (fun _ => ?_) (fun c => absurd c (by decide))
      walk_at "go"
      exact q _ _ (by walk_at "ft") (.inl rfl)
    · refine w_ite (fun c => absurd c (by simp)) (fun _ => ?_)
      walk_at "go"
      refine w_iteEqS (fun _ => ?_) (fun c => absurd rfl c)
      walk_at "go"
      exact q _ _ (by walk_at "ft") (.inr ⟨tg "int" [.int n], .tup (xs := [.str "int", .int n]) (by walk_at "ft") (.cons (.str _) (.cons (.int _) .nil)), OkV.leaf (.inr (.inr (.inl ⟨n, rfl⟩)))⟩)
  walk_at "go"
  refine w_iteEqS (fun c => ?_) (fun c5 => ?_)
  · subst c
    obtain ⟨lo, hi, rfl, oc⟩ := ss.text rfl
    cases hr1 with
    | cons hs1 hr1 =>
    cases hr1 with
    | cons hs2 hr1 =>
    cases hr1
    walk_at "go"
    refine c_g (A := A) _ (by walk_at "ft") ⟨a, _, _, lo, hi, _, rfl, hA, by walk_at "ft", by walk_at "ft", oc.b.1, oc.b.2, by decide, by decide, rfl⟩ fun nv H1 g1 hn => ?_
    walk_at "go"
    rcases hn with rfl | ⟨n, rfl, hn1, hn2⟩
    · refine w_ite (fun _ => ?_) (fun c => absurd c (by decide))
      walk_at "go"
      exact q _ _ (by walk_at "ft") (.inl rfl)
    · refine w_ite (fun c => absurd c (by simp)) (fun _ => ?_)
      obtain ⟨n0, n1⟩ : 0 ≤ n ∧ n ≤ 20 := by
        obtain ⟨⟨l, el, l0, l1⟩, h2⟩ := oc
        obtain ⟨a1, a2⟩ := hn1 l el
        refine ⟨by omega, ?_⟩
        rcases h2 with e | ⟨h, e, h0, h1⟩
        · have := a2 e
          omega
        · have := hn2 h e
          omega
      walk_at "go"
      refine w_iteEqS (fun c => absurd c (by decide +kernel)) (fun _ => ?_)
      walk_at "go"
      refine ⟨⟨_, rfl⟩, ?_⟩
      walk_at "go"
      refine w_lcRn A (fun _ v H => tChar v H) (fun i v H H' t h => h) (by walk_at "ft") n0 (by omega) ?step ?done
      case step =>
        intro i H4 Nx hi g4 nx
        walk_at "go"
        exact c_1 (A := A) (by walk_at "ft") hA fun v H5 g5 hv => nx _ _ g5 hv
      case done =>
        intro D ys H4 hD g4 e hl hp
        obtain ⟨ss, rfl, hl2, hs⟩ := chars_of (mem_of_ix hp)
        obtain ⟨j1, j2⟩ := join_ok hs
        have s1 := sum_le_one fun s h => (hs s h).1
        have e0 : (Str.ofString "").length = 0 := by decide +kernel
        refine ⟨_, D, ss, rfl, rfl, .inl (SqL.of e), ?_, ?_⟩
        · rw [e0]
          omega
        · walk_at "go"
          exact q _ _ (by walk_at "ft") (.inr ⟨tg "text" [.str _], .tup (xs := [.str "text", .str _]) (by walk_at "ft") (.cons (.str _) (.cons (.str _) .nil)), OkV.leaf (.inr (.inr (.inr ⟨_, rfl, by omega, j2⟩)))⟩)
  walk_at "go"
  refine w_iteEqS (fun c => ?_) (fun c6 => ?_)
  · subst c
    obtain ⟨v, rfl, hv⟩ := ss.const rfl
    cases hr1 with
    | cons hs1 hr1 =>
    cases hr1
    walk_at "go"
    exact q _ _ (G.refl _ _) (.inr ⟨v, hs1, OkV.mono (Nat.le_refl _) (by omega) hv⟩)
  walk_at "go"
  refine w_iteEqS (fun c => ?_) (fun c7 => ?_)
  · subst c
    obtain ⟨e, lo, hi, rfl, oe, oc⟩ := ss.list rfl
    walk_at "go"
    refine c_g (A := A) _ ia ⟨a, _, _, rfl, hA, hx, ⟨e, lo, hi, rfl, oe, oc⟩, rfl⟩ fun v H1 g1 hv => ?_
    walk_at "go"
    exact q _ _ (by walk_at "ft") hv
  walk_at "go"
  refine w_iteEqS (fun c => ?_) (fun c8 => ?_)
  · subst c
    obtain ⟨es, rfl, hel, hes⟩ := ss.many (.inl rfl)
    cases hr1 with
    | cons hs hr1 =>
    cases hr1
    obtain ⟨p4, zs1, rfl, hp4, hr4⟩ := hs.tupE
    have lz1 : zs1.length = es.length := hr4.len
    walk_at "go"
    refine w_lcT A (fun _ v H => OptV 100 (k + 2) H v) (fun i v H H' t h => h.mono t) ia (by walk_at "ft") (by omega) ?step ?done
    case step =>
      intro i x H4 Nx hi g4 nx
      obtain ⟨e, he, hxe⟩ := hr4.get hi
      walk_at "go"
      exact c_g (A := A) _ (by walk_at "ft") ⟨a, _, e, rfl, hA, by walk_at "ft", hes e (List.mem_of_getElem? he), rfl⟩ fun v H5 g5 hv => nx _ _ g5 hv
    case done =>
      intro D ys H4 hD g4 e hl hp
      walk_at "go"
      refine w_inN (N := 100) (k := k + 2) (by omega) (by walk_at "ft") (mem_of_ix (P := fun v H => OptV 100 (k + 2) H v) hp) ?_ fun hv => ?_
      · walk_at "go"
        exact q _ _ (by walk_at "ft") (.inl rfl)
      · obtain ⟨ds, hds, ods⟩ := Reps.ofM hv
        have ld := hds.len
        walk_at "go"
        exact q _ _ (by walk_at "ft") (.inr ⟨_, rep_tg1 (w := "list") (xs := ys) (ds := ds) (by walk_at "ft") (by walk_at "ft") (by walk_at "ft"), OkV.list (by omega) ods⟩)
  walk_at "go"
  refine w_iteEqS (fun c => ?_) (fun c9 => ?_)
  · subst c
    obtain ⟨rs, o, rfl, lrs, ors, oo⟩ := ss.object rfl
    walk_at "go"
    refine c_g (A := A) _ ia ⟨a, _, _, rfl, hA, hx, ⟨rs, o, rfl, lrs, ors, oo⟩, rfl⟩ fun v H1 g1 hv => ?_
    walk_at "go"
    exact q _ _ (by walk_at "ft") hv
  walk_at "go"
  refine w_iteEqS (fun c => ?_) (fun c10 => ?_)
  · subst c
    obtain ⟨es, rfl, hel, hes⟩ := ss.many (.inr (.inl rfl))
    cases hr1 with
    | cons hs hr1 =>
    cases hr1
    obtain ⟨p4, zs1, rfl, hp4, hr4⟩ := hs.tupE
    have lz1 : zs1.length = es.length := hr4.len
    walk_at "go"
    refine w_iteD (fun c => ?_) (fun c => ?_)
    · walk_at "go"
      refine c_draw ia hA (by omega) (by omega) fun n H1 g1 n0 n1 => ?_
      have hn : n.toNat < zs1.length := by omega
      obtain ⟨e, he, hxe⟩ := hr4.get (List.getElem?_eq_getElem hn)
      refine w_ixTn (n := n.toNat) (xs := zs1) (by walk_at "ft") (by omega) (List.getElem?_eq_getElem hn) ?_
      walk_at "go"
      refine reco g1 (by walk_at "ft") (hes e (List.mem_of_getElem? he)) fun v H2 g2 hv => ?_
      walk_at "go"
      exact q _ _ g2 hv
    · walk_at "go"
      refine w_iteEqS (fun c => absurd c (by decide +kernel)) (fun _ => ?_)
      walk_at "go"
      refine val fun v H1 g1 hv => ?_
      walk_at "go"
      exact q _ _ g1 hv
  walk_at "go"
  refine w_iteEqS (fun c => ?_) (fun c11 => ?_)
  · subst c
    obtain ⟨es, rfl, hel, hes⟩ := ss.many (.inr (.inr rfl))
    cases hr1 with
    | cons hs hr1 =>
    cases hr1
    obtain ⟨p4, zs1, rfl, hp4, hr4⟩ := hs.tupE
    have lz1 : zs1.length = es.length := hr4.len
    walk_at "go"
    refine w_iteD (fun c => ?_) (fun c => ?_)
    · walk_at "go"
      have hn : 0 < zs1.length := by omega
      obtain ⟨e, he, hxe⟩ := hr4.get (List.getElem?_eq_getElem hn)
      refine w_ixTn (n := 0) (xs := zs1) (by walk_at "ft") (by omega) (List.getElem?_eq_getElem hn) ?_
      walk_at "go"
      refine reco (G.refl _ _) (by walk_at "ft") (hes e (List.mem_of_getElem? he)) fun v H2 g2 hv => ?_
      walk_at "go"
      exact q _ _ g2 hv
    · walk_at "go"
      refine val fun v H1 g1 hv => ?_
      walk_at "go"
      exact q _ _ g1 hv
  walk_at "go"
  refine val fun v H1 g1 hv => ?_
  walk_at "go"
  exact q _ _ g1 hv
end
section
variable {P : Program} {w : World} {K : PySem.W.Frag} {mg : Str → Option Value} {base : Heap}
theorem D_law_changed (F : At K mg "_law_changed" s_law_changed ["_law_source_here", "_law_value_here"]) (Tg : Glob mg) (D_law_draw : Def P w K mg base 1 "_law_draw" ["_law_source_here", "_law_many"] spDraw) (D_law_leaf : Def P w K mg base 4 "_law_leaf" ["_law_source_here"] spLeaf)
    (D_law_path : Def P w K mg base 4 "_law_path" ["_law_source_here", "_law_value_here", "_law_most"] spPath) (D_law_target : Def P w K mg base 5 "_law_target" ["_law_source_here", "_law_value_here", "_law_most"] spTarget)
    (D_law_take : Def P w K mg base 7 "_law_take" ["_law_value_here", "_law_path_here"] spTake) (D_law_put : Def P w K mg base 7 "_law_put" ["_law_value_here", "_law_path_here", "_law_new"] spPut) (D_law_replace : Def P w K mg base 6 "_law_replace" ["_law_value_here", "_law_path_here", "_law_new"] (spReplace 4)) :
    Def P w K mg base 8 "_law_changed" ["_law_source_here", "_law_value_here"] spChanged := by
  refine F.def sc_law_changed (fun vs H Q E h => ?_) (fun f cdv A outer s H vs Q E hr h => ?_)
  · obtain ⟨A, R, ia, ⟨a, x, d, N, k, rfl, _⟩, _⟩ := h
    rfl
  obtain ⟨A, R, ia, ⟨a, x, d, N, k, rfl, hA, hx, od, hN, rfl⟩, q⟩ := h
  have T := Tg
  refine ⟨_, (pss_cons (ps_set (i := 2) sc_law_changed.nd rfl (by first | exact .inl rfl | exact .inr rfl) (pe_def D_law_path hr (by rfl) (pa_cons (pv 0) (pa_cons (pv 1) (pa_cons pe_int pa_nil)))))
(pss_cons (ps_set (i := 3) sc_law_changed.nd rfl (by first | exact .inl rfl | exact .inr rfl) (pe_def D_law_draw hr (by rfl) (pa_cons (pv 0) (pa_cons pe_int pa_nil))))
(pss_cons (ps_set (i := 4) sc_law_changed.nd rfl (by first | exact .inl rfl | exact .inr rfl) pe_non)
(pss_cons (ps_if (pt_cmpR op_eq (pv 3) pe_int (nomark _))
(pss_one (ps_set (i := 4) sc_law_changed.nd rfl (by first | exact .inl rfl | exact .inr rfl) (pe_def D_law_take hr (by rfl) (pa_cons (pv 1) (pa_cons (pv 2) pa_nil)))))
pss_nil)
(pss_cons (ps_if (pt_cmpR op_eq (pv 3) pe_int (nomark _))
(pss_one (ps_set (i := 4) sc_law_changed.nd rfl (by first | exact .inl rfl | exact .inr rfl) (pe_def D_law_put hr (by rfl) (pa_cons (pv 1) (pa_cons (pe_def D_law_target hr (by rfl) (pa_cons (pv 0) (pa_cons (pv 1) (pa_cons pe_int pa_nil)))) (pa_cons (pe_def D_law_leaf hr (by rfl) (pa_cons (pv 0) pa_nil)) pa_nil))))))
pss_nil)
(pss_cons (ps_if (pt_cmpR op_eq (pv 3) pe_int (nomark _))
(pss_one (ps_set (i := 4) sc_law_changed.nd rfl (by first | exact .inl rfl | exact .inr rfl) (pe_def D_law_replace hr (by rfl) (pa_cons (pv 1) (pa_cons (pv 2) (pa_cons (pe_def D_law_leaf hr (by rfl) (pa_cons (pv 0) pa_nil)) pa_nil))))))
pss_nil)
(pss_cons (ps_if (pt_cmp (pc_isN (pv 4)))
(pss_one (ps_ret (pv 1)))
pss_nil)
(pss_one (ps_ret (pv 4)))))))))), ?_⟩
  walk_at "st"
  walk_at "go"
  refine c_g (A := A) _ ia ⟨a, x, d, N, k, 3, rfl, hA, hx, od, by omega, by decide, by decide, rfl⟩ fun pv H1 g1 hpt => ?_
  obtain ⟨ts, hts, ots, lts⟩ := hpt
  walk_at "go"
  refine c_draw (A := A) (by walk_at "ft") hA (by decide) (by decide) fun n H2 g2 n0 n1 => ?_
  walk_at "go"
  obtain rfl | rfl | rfl : n = 0 ∨ n = 1 ∨ n = 2 := by omega
  · refine w_iteEqI (fun _ => ?_) (fun c => absurd rfl c)
    walk_at "go"
    refine c_take (N := N) (k := k) (by walk_at "ft") od (by omega) (by walk_at "ft") ots (by omega) fun v H3 g3 hv => ?_
    walk_at "go"
    refine w_iteEqI (fun c => absurd c (by decide)) (fun _ => ?_)
    walk_at "go"
    refine w_iteEqI (fun c => absurd c (by decide)) (fun _ => ?_)
    walk_at "go"
    rcases hv with rfl | ⟨e, he, oe⟩
    · refine w_ite (fun _ => ?_) (fun c => absurd c (by decide))
      walk_at "go"
      exact q _ _ (by walk_at "ft") ⟨d, by walk_at "ft", OkV.mono (by omega) (by omega) od⟩
    · refine w_iteD (fun c => absurd c (ok_nn he oe)) (fun _ => ?_)
      walk_at "go"
      exact q _ _ (by walk_at "ft") ⟨e, he, OkV.mono (by omega) (Nat.le_refl _) oe⟩
  · refine w_iteEqI (fun c => absurd c (by decide)) (fun _ => ?_)
    walk_at "go"
    refine w_iteEqI (fun _ => ?_) (fun c => absurd rfl c)
    walk_at "go"
    refine c_g (A := A) _ (by walk_at "ft") ⟨a, x, d, N, k, 3, rfl, hA, by walk_at "ft", od, by omega, by decide, by decide, rfl⟩ fun tv H4 g4 ht => ?_
    obtain ⟨us, hus, ous, lus⟩ := ht
    walk_at "go"
    refine c_1 (A := A) (by walk_at "ft") hA fun lv H5 g5 hlv => ?_
    obtain ⟨ld, hld, old⟩ := hlv
    walk_at "go"
    refine c_put (N := N) (k := k) (by walk_at "ft") od (by omega) (by walk_at "ft") ous (by omega) (by walk_at "ft") old fun v H3 g3 hv => ?_
    walk_at "go"
    refine w_iteEqI (fun c => absurd c (by decide)) (fun _ => ?_)
    walk_at "go"
    rcases hv with rfl | ⟨e, he, oe⟩
    · refine w_ite (fun _ => ?_) (fun c => absurd c (by decide))
      walk_at "go"
      exact q _ _ (by walk_at "ft") ⟨d, by walk_at "ft", OkV.mono (by omega) (by omega) od⟩
    · refine w_iteD (fun c => absurd c (ok_nn he oe)) (fun _ => ?_)
      walk_at "go"
      exact q _ _ (by walk_at "ft") ⟨e, he, OkV.mono (by omega) (Nat.le_refl _) oe⟩
  · refine w_iteEqI (fun c => absurd c (by decide)) (fun _ => ?_)
    walk_at "go"
    refine w_iteEqI (fun c => absurd c (by decide)) (fun _ => ?_)
    walk_at "go"
    refine w_iteEqI (fun _ => ?_) (fun c => absurd rfl c)
    walk_at "go"
    refine c_1 (A := A) (by walk_at "ft") hA fun lv H5 g5 hlv => ?_
    obtain ⟨ld, hld, old⟩ := hlv
    walk_at "go"
    refine c_replace (L := 4) (N := N) (k := k + 4) (m := 0) (by walk_at "ft") (OkV.mono (Nat.le_refl _) (by omega) od) (by omega) (by walk_at "ft") ots (by omega) (by walk_at "ft") (show OkV N 0 ld from old) (by omega) fun v H3 g3 hv => ?_
    walk_at "go"
    rcases hv with rfl | ⟨e, he, oe⟩
    · refine w_ite (fun _ => ?_) (fun c => absurd c (by decide))
      walk_at "go"
      exact q _ _ (by walk_at "ft") ⟨d, by walk_at "ft", OkV.mono (by omega) (by omega) od⟩
    · refine w_iteD (fun c => absurd c (ok_nn he oe)) (fun _ => ?_)
      walk_at "go"
      exact q _ _ (by walk_at "ft") ⟨e, he, OkV.mono (by omega) (Nat.le_refl _) oe⟩
end
section
variable {P : Program} {w : World} {K : PySem.W.Frag} {mg : Str → Option Value} {base : Heap}
theorem D_law_stretched (F : At K mg "_law_stretched" s_law_stretched ["_law_source_here", "_law_value_here"]) (Tg : Glob mg) (D_law_draw : Def P w K mg base 1 "_law_draw" ["_law_source_here", "_law_many"] spDraw) (D_law_name : Def P w K mg base 3 "_law_name" ["_law_source_here"] spName) (D_law_leaf : Def P w K mg base 4 "_law_leaf" ["_law_source_here"] spLeaf)
    (D_law_with : Def P w K mg base 1 "_law_with" ["_law_value_here", "_law_token_here", "_law_new"] spWith) :
    Def P w K mg base 5 "_law_stretched" ["_law_source_here", "_law_value_here"] spStretched := by
  refine F.def sc_law_stretched (fun vs H Q E h => ?_) (fun f cdv A outer s H vs Q E hr h => ?_)
  · obtain ⟨A, R, ia, ⟨a, x, d, N, k, rfl, _⟩, _⟩ := h
    rfl
  obtain ⟨A, R, ia, ⟨a, x, d, N, k, rfl, hA, hx, od, hN, rfl⟩, q⟩ := h
  have T := Tg
  refine ⟨_, (pss_cons (ps_if (PW.pt (pw_and (pt_cmpR op_eq (pe_ix (ix_tupK K) (pv 1) pe_int (fun _ _ => rfl)) pe_str (nomark _)) (pw_and1 (pt_cmpR op_gt (pe_callB (call_lenK K) (by rfl) T.n_len (by decide +kernel) (pa_cons (pe_ix (ix_tupK K) (pv 1) pe_int (fun _ _ => rfl)) pa_nil)) pe_int (nomark _)))))
(pss_cons (ps_set (i := 2) sc_law_stretched.nd rfl (by first | exact .inl rfl | exact .inr rfl) (pe_op op_rep (pe_callTy (call_listK K) (by rfl) T.n_list (by decide +kernel) (pa_cons (pe_ix (ix_tupK K) (pv 1) pe_int (fun _ _ => rfl)) pa_nil)) (pe_op op_add pe_int (pe_def D_law_draw hr (by rfl) (pa_cons (pv 0) (pa_cons pe_int pa_nil))))))
(pss_cons (ps_if (pt_cmpR op_eq (pe_def D_law_draw hr (by rfl) (pa_cons (pv 0) (pa_cons pe_int pa_nil))) pe_int (nomark _))
(pss_one (ps_asg (pe_def D_law_leaf hr (by rfl) (pa_cons (pv 0) pa_nil)) (pg_sub (pv 2) (pe_def D_law_draw hr (by rfl) (pa_cons (pv 0) (pa_cons (pe_callB (call_lenK K) (by rfl) T.n_len (by decide +kernel) (pa_cons (pv 2) pa_nil)) pa_nil))) set_list)))
pss_nil)
(pss_one (ps_ret (pe_tup (pa_cons pe_str (pa_cons (pe_callTy (call_tupleK K) (by rfl) T.n_tuple (by decide +kernel) (pa_cons (pv 2) pa_nil)) pa_nil)))))))
pss_nil)
(pss_cons (ps_if (pt_cmpR op_eq (pe_ix (ix_tupK K) (pv 1) pe_int (fun _ _ => rfl)) pe_str (nomark _))
(pss_one (ps_for PassesOwn.never rfl (pi_range1 (by rfl) T.n_range (pa_cons (pe_def D_law_draw hr (by rfl) (pa_cons (pv 0) (pa_cons pe_int pa_nil))) pa_nil)) (pg_name (i := 3) sc_law_stretched.nd rfl (by first | exact .inl rfl | exact .inr rfl))
(pss_cons (ps_set (i := 4) sc_law_stretched.nd rfl (by first | exact .inl rfl | exact .inr rfl) (pe_def D_law_leaf hr (by rfl) (pa_cons (pv 0) pa_nil)))
(pss_cut (ps_if (PW.pt (pw_and (pt_cmpR op_gt (pe_callB (call_lenK K) (by rfl) T.n_len (by decide +kernel) (pa_cons (pe_ix (ix_tupK K) (pv 1) pe_int (fun _ _ => rfl)) pa_nil)) pe_int (nomark _)) (pw_and1 (pt_cmpR op_gt (pe_def D_law_draw hr (by rfl) (pa_cons (pv 0) (pa_cons pe_int pa_nil))) pe_int (nomark _)))))
(pss_one (ps_set (i := 4) sc_law_stretched.nd rfl (by first | exact .inl rfl | exact .inr rfl) (pe_ix (ix_tupK K) (pe_ix (ix_tupK K) (pe_ix (ix_tupK K) (pv 1) pe_int (fun _ _ => rfl)) (pe_def D_law_draw hr (by rfl) (pa_cons (pv 0) (pa_cons (pe_callB (call_lenK K) (by rfl) T.n_len (by decide +kernel) (pa_cons (pe_ix (ix_tupK K) (pv 1) pe_int (fun _ _ => rfl)) pa_nil)) pa_nil))) (fun _ _ => rfl)) pe_int (fun _ _ => rfl))))
pss_nil)
(pss_one (ps_set (i := 1) sc_law_stretched.nd rfl (by first | exact .inl rfl | exact .inr rfl) (pe_def D_law_with hr (by rfl) (pa_cons (pv 1) (pa_cons (pe_op op_add_str (pe_def D_law_name hr (by rfl) (pa_cons (pv 0) pa_nil)) (pe_op op_repS pe_str (pe_def D_law_draw hr (by rfl) (pa_cons (pv 0) (pa_cons pe_int pa_nil))))) (pa_cons (pv 4) pa_nil))))))))))
pss_nil)
(pss_one (ps_ret (pv 1))))), ?_⟩
  walk_at "st"
  have same : tVal (5 * N + 14) k x H := ⟨d, hx, OkV.mono (by omega) (Nat.le_refl _) od⟩
  obtain ⟨wd, r, rfl, sv⟩ := od.sh
  obtain ⟨p, xs, rfl, hp, hr1⟩ := hx.tg
  walk_at "go"
  refine w_iteEqS (fun c => ?_) (fun c1 => ?_)
  · subst c
    obtain ⟨k', es, rfl, rfl, hl, hes⟩ := sv.list rfl
    cases hr1 with
    | cons hs hr1 =>
    cases hr1
    obtain ⟨p4, zs, rfl, hp4, hr4⟩ := hs.tupE
    have lz : zs.length = es.length := hr4.len
    have zok : ∀ z ∈ zs, tVal (5 * N + 14) k' z H := fun z hz => by
      obtain ⟨e, he, hze⟩ := hr4.mem hz
      exact ⟨e, hze, OkV.mono (by omega) (Nat.le_refl _) (hes e he)⟩
    have no : ∀ {Y : Prop}, Y → Y := fun y => y
    walk_at "go"
    refine w_iteD (fun c => ?_) (fun c => ?_)
    · walk_at "go"
      refine w_listT (xs := zs) (by walk_at "ft") fun l1 H1 nl1 g1 hl1 => ?_
      walk_at "go"
      refine c_draw (A := A) (by walk_at "ft") hA (by decide) (by decide) fun m H2 g2 m0 m1 => ?_
      have nA1 : l1 ∉ A.map (·.1) := ia.no nl1
      walk_at "go"
      refine w_rep (xs := zs) (by walk_at "ft") (by omega) (by omega) ?_ fun l H3 nl g3 hl3 => ?_
      · refine Nat.le_trans (Nat.mul_le_mul (show zs.length ≤ 300 by omega) (show _ ≤ 5 by omega)) (by decide)
      have nA : l ∉ A.map (·.1) := IA.no (H := H2) (by walk_at "ft") nl
      have nlH : H l = none := by
        cases e : H l with
        | none => rfl
        | some o =>
          by_cases m : l ∈ A.map (·.1)
          · exact absurd m nA
          · have g : G A H H2 := by walk_at "ft"
            have := g.k _ _ m e
            rw [nl] at this
            cases this
      have lf : (List.replicate (1 + m).toNat zs).flatten.length = (1 + m).toNat * zs.length := flat_len
      have lf5 : (1 + m).toNat * zs.length ≤ 5 * N := Nat.mul_le_mul (by omega) (by omega)
      have lf0 : 0 < (1 + m).toNat * zs.length := Nat.mul_pos (by omega) (by omega)
      have yok : ∀ z ∈ (List.replicate (1 + m).toNat zs).flatten, tVal (5 * N + 14) k' z H := fun z hz => zok z (flat_mem hz)
      generalize (List.replicate (1 + m).toNat zs).flatten = ys at *
      walk_at "go"
      refine c_draw (A := A) (by walk_at "ft") hA (by decide) (by decide) fun n H4 g4 n0 n1 => ?_
      walk_at "go"
      refine w_iteEqI (fun c => ?_) (fun c => ?_)
      · walk_at "go"
        refine c_1 (A := A) (by walk_at "ft") hA fun lv H5 g5 hlv => ?_
        obtain ⟨ld, hld, old⟩ := hlv
        walk_at "go"
        refine c_draw (A := A) (by walk_at "ft") hA (by omega) (by omega) fun i H6 g6 i0 i1 => ?_
        walk_at "go"
        have hl6 : H6 l = some (.lst ys) := by walk_at "ft"
        refine w_setL (j := i.toNat) hl6 (by unfold ixN; rw [if_pos i0, if_pos (by omega)]) ?_
        have hld6 : Rep H6 lv ld := by walk_at "ft"
        have g : G A H H6 := by walk_at "ft"
        have g7 : G A H (upd H6 l (.lst (ys.set i.toNat lv))) := g.mut nlH
        have hl7 : (upd H6 l (.lst (ys.set i.toNat lv))) l = some (.lst (ys.set i.toNat lv)) := upd_same
        have t7 : Pk.T H6 (upd H6 l (.lst (ys.set i.toNat lv))) := Pk.T.lst hl6
        have hv7 : Rep (upd H6 l (.lst (ys.set i.toNat lv))) lv ld := hld6.mono t7
        generalize upd H6 l (.lst (ys.set i.toNat lv)) = H7 at *
        have sok : ∀ z ∈ ys.set i.toNat lv, tVal (5 * N + 14) k' z H7 := fun z hz => by
          rcases List.mem_or_eq_of_mem_set hz with h | rfl
          · exact (yok z h).mono g7.t
          · exact ⟨ld, hv7, OkV.leaf old⟩
        have ls : (ys.set i.toNat lv).length = ys.length := List.length_set
        obtain ⟨ds, hds, ods⟩ := Reps.ofM sok
        have lds := hds.len
        clear g6 g5 g4 g3 g2 g1 g
        walk_at "go"
        exact q _ _ (by walk_at "ft") ⟨_, rep_tg1 (w := "list") (xs := ys.set i.toNat lv) (ds := ds) (by walk_at "ft") (by walk_at "ft") (by walk_at "ft"), OkV.list (by omega) ods⟩
      · obtain ⟨ds, hds, ods⟩ := Reps.ofM yok
        have lds := hds.len
        walk_at "go"
        exact q _ _ (by walk_at "ft") ⟨_, rep_tg1 (w := "list") (xs := ys) (ds := ds) (by walk_at "ft") (by walk_at "ft") (by walk_at "ft"), OkV.list (by omega) ods⟩
    · walk_at "go"
      refine w_iteEqS (fun c => absurd c (by decide +kernel)) (fun _ => ?_)
      walk_at "go"
      exact q _ _ (G.refl _ _) same
  walk_at "go"
  refine w_iteEqS (fun c => ?_) (fun c2 => ?_)
  · subst c
    obtain ⟨k', fs, rfl, rfl, hl, hfs⟩ := sv.object rfl
    walk_at "go"
    refine c_draw ia hA (by decide) (by decide) fun m H1 g1 m0 m1 => ?_
    walk_at "go"
    refine w_forRn (fun i σ' H' => ∃ v o1 o2 ys, σ' = [some (.ref a), some v, none, o1, o2] ∧ G A H H' ∧ Rep H' v (tg "object" [.tuple ys]) ∧ (∀ y ∈ ys, OkF N k' y) ∧ ys.length ≤ N + i) m0 (by omega) ⟨_, _, _, fs, rfl, by walk_at "ft", by walk_at "ft", hfs, by omega⟩ ?hs ?hd
    case hs =>
      rintro i σ' H5 hi ⟨v, o1, o2, ys, rfl, g5, hv, oys, ly⟩
      clear g1
      walk_at "go"
      refine c_1 (A := A) (by walk_at "ft") hA fun lv H6 g6 hlv => ?_
      obtain ⟨ld, hld, old⟩ := hlv
      have hv6 := hv
      obtain ⟨pv, xv, rfl, hpv, hrv⟩ := hv6.tg
      cases hrv with
      | cons hs hr2 =>
      cases hr2
      obtain ⟨p4, zs, rfl, hp4, hr4⟩ := hs.tupE
      have lz : zs.length = ys.length := hr4.len
      walk_at "go"
      refine w_cut (fun σ' H' => ∃ jv it d, σ' = [some (.ref a), some (.ref pv), none, some jv, some it] ∧ G A H5 H' ∧ Rep H' it d ∧ OkV N k' d) ?c1 ?c2
      case c1 =>
        walk_at "go"
        refine w_iteD (fun c => ?_) (fun c => ?_)
        · walk_at "go"
          refine c_draw (A := A) (by walk_at "ft") hA (by decide) (by decide) fun n H7 g7 n0 n1 => ?_
          walk_at "go"
          refine w_iteD (fun c => ?_) (fun c => ?_)
          · walk_at "go"
            refine c_draw (A := A) (by walk_at "ft") hA (by omega) (by omega) fun j H8 g8 j0 j1 => ?_
            have hj : j.toNat < zs.length := by omega
            obtain ⟨f, hf, hzf⟩ := hr4.get (List.getElem?_eq_getElem hj)
            obtain ⟨fn, fx, rfl, ofn, ofx⟩ := oys f (List.mem_of_getElem? hf)
            obtain ⟨pf, xf, ef, hpf, hrf⟩ := hzf.tupE
            cases hrf with
            | cons h1 hrf =>
            cases h1
            cases hrf with
            | cons h2 hrf =>
            cases hrf
            refine w_ixTn (n := j.toNat) (xs := zs) (by walk_at "ft") (by omega) (List.getElem?_eq_getElem hj) ?_
            rw [ef]
            walk_at "go"
            exact ⟨_, _, fx, rfl, by walk_at "ft", by walk_at "ft", ofx⟩
          · walk_at "go"
            exact ⟨_, _, ld, rfl, by walk_at "ft", by walk_at "ft", OkV.leaf old⟩
        · walk_at "go"
          exact ⟨_, _, ld, rfl, by walk_at "ft", by walk_at "ft", OkV.leaf old⟩
      case c2 =>
      clear hld g6
      rintro σ' H6 ⟨jv, it, d, rfl, g6, hit, oit⟩
      walk_at "go"
      refine c_1 (A := A) (by walk_at "ft") hA fun nv H7 g7 hnv => ?_
      obtain ⟨s, rfl, hs1, hs2⟩ := hnv
      walk_at "go"
      refine c_draw (A := A) (by walk_at "ft") hA (by decide) (by decide) fun n H8 g8 n0 n1 => ?_
      obtain ⟨m1, m2⟩ := rep_small (n := n) (.inr rfl) n0 (by omega)
      have s1 := str_add ⟨hs1, hs2⟩ m2
      refine w_repS m1 ?_
      walk_at "go"
      refine ⟨Nat.le_trans (by omega : _ ≤ 100) (by decide), ?_⟩
      walk_at "go"
      refine c_with (w := "object") (xs := ys) (t := .str _) (n := d) (N := N) (k := k') (by walk_at "ft") (.inr ⟨rfl, oys⟩) (by omega) (.str _) (.inr ⟨rfl, _, rfl, by omega, s1.2⟩) (by walk_at "ft") oit fun v2 H9 ys2 g9 hv2 hc2 hl2 => ?_
      walk_at "go"
      refine ⟨_, _, _, ys2, rfl, by walk_at "ft", hv2, ?_, by omega⟩
      rcases hc2 with ⟨c, _⟩ | ⟨_, h⟩
      · exact absurd c (by decide +kernel)
      · exact h
    case hd =>
      rintro σ' H5 ⟨v, o1, o2, ys, rfl, g5, hv, oys, ly⟩
      walk_at "go"
      exact q _ _ (by walk_at "ft") ⟨_, hv, OkV.object (by omega) fun f hf => OkF.up (by omega) (Nat.le_refl _) (oys f hf)⟩
  walk_at "go"
  exact q _ _ (G.refl _ _) same
end
section
variable {P : Program} {w : World} {K : PySem.W.Frag} {mg : Str → Option Value} {base : Heap}
theorem D_law_cell (F : At K mg "_law_cell" s_law_cell ["_law_script", "_law_k"]) (Tg : Glob mg) : Def P w K mg base 1 "_law_cell" ["_law_script", "_law_k"] (spCell K) := by
  refine F.def sc_law_cell (fun vs H Q E h => ?_) (fun f cdv A outer s H vs Q E hr h => ?_)
  · obtain ⟨l, ns, i, rfl, _⟩ := h
    rfl
  obtain ⟨l, ns, i, rfl, hl, i0, i1, q⟩ := h
  have T := Tg
  refine ⟨_, (pss_cons (ps_if (pt_cmpR op_lt (pv 1) (pe_callB (call_lenK K) (by rfl) T.n_len (by decide +kernel) (pa_cons (pv 0) pa_nil)) (nomark _))
(pss_one (ps_ret (pe_ix (ix_listK K) (pv 0) (pv 1) (fun _ _ => rfl))))
pss_nil)
(pss_one (ps_ret pe_int))), ?_⟩
  walk_at "st"
  have lm : (ns.map V.int).length = ns.length := List.length_map ..
  walk_at "go"
  refine w_lenQ hl ?_
  walk_at "go"
  refine w_iteD (fun c => ?_) (fun c => ?_)
  · walk_at "go"
    have hn : i.toNat < ns.length := by omega
    refine w_ixS hl (at_ofG (j := i.toNat) (v := .int ns[i.toNat]) (by omega) ?_) ?_
    · rw [List.getElem?_map, List.getElem?_eq_getElem hn]
      rfl
    exact q _
  · walk_at "go"
    exact q _
theorem D_law_source (F : At K mg "_law_source" s_law_source ["_law_cell_here"]) (Tg : Glob mg) : Def P w K mg base 1 "_law_source" ["_law_cell_here"] spSource := by
  refine F.def sc_law_source (fun vs H Q E h => ?_) (fun f cdv A outer s H vs Q E hr h => ?_)
  · obtain ⟨n, rfl, _⟩ := h
    rfl
  obtain ⟨n, rfl, q⟩ := h
  have T := Tg
  refine ⟨_, (pss_one (ps_ret (pe_lst (pa_cons (pv 0) (pa_cons (pe_callTy call_int1' (by rfl) T.n_int (by decide +kernel) (pa_cons (pe_cmpR op_ge (pv 0) (pe_op op_pow pe_int pe_int) (nomark _)) pa_nil)) (pa_cons pe_int pa_nil)))))), ?_⟩
  walk_at "st"
  walk_at "go"
  rename_i p H1 np g hp
  exact q _ _ np g ⟨[n, _, 0], rfl, hp⟩
end
section
variable {P : Program} {w : World} {K : PySem.W.Frag} {mg : Str → Option Value} {base : Heap}
theorem D_law_s {f0 : Addr} {fd0 : FuncData} (F : Fun K "law" "law" slaw f0 fd0) (Tg : Glob mg) (D_law_cell : Def P w K mg base 1 "_law_cell" ["_law_script", "_law_k"] (spCell K)) (D_law_source : Def P w K mg base 1 "_law_source" ["_law_cell_here"] spSource)
    (D_law_schema : Def P w K mg base 12 "_law_schema" ["_law_source_here", "_law_depth", "_law_room"] (spSchema 2)) (D_law_broad : Def P w K mg base 7 "_law_broad" ["_law_source_here"] spBroad) (D_law_made : Def P w K mg base 13 "_law_made" ["_law_source_here", "_law_schema_here"] (spMade 3))
    (D_law_value : Def P w K mg base 7 "_law_value" ["_law_source_here", "_law_depth"] (spValue 2)) (D_law_changed : Def P w K mg base 8 "_law_changed" ["_law_source_here", "_law_value_here"] spChanged) (D_law_stretched : Def P w K mg base 5 "_law_stretched" ["_law_source_here", "_law_value_here"] spStretched)
    (Dis_valid : Def P w K mg base 10 "is_valid" ["schema", "value"] (spValid 3)) (D_law_valid : Def P w K mg base 10 "_law_valid" ["_law_schema_here", "_law_value_here"] (spValid 3)) (D_law_is_flag : Def P w K mg base 1 "_law_is_flag" ["_law_actual", "_law_due"] spFlag) :
    FnOk P w K mg base CX0 14 f0 fd0 ["_law_script"] (spLaw K) := by
  refine F.ok sclaw (fun vs H Q E h => ?_) (fun cdv A outer s H vs Q E hr h => ?_)
  · obtain ⟨l, ns, rfl, _⟩ := h
    rfl
  obtain ⟨sc, ns, rfl, hsc, hns, q⟩ := h
  have T := Tg
  refine ⟨_, (pss_cons (ps_set (i := 1) sclaw.nd rfl (by first | exact .inl rfl | exact .inr rfl) (pe_def D_law_source hr (by rfl) (pa_cons (pe_def D_law_cell hr (by rfl) (pa_cons (pv 0) (pa_cons pe_int pa_nil))) pa_nil)))
(pss_cons (ps_set (i := 2) sclaw.nd rfl (by first | exact .inl rfl | exact .inr rfl) (pe_def D_law_schema hr (by rfl) (pa_cons (pv 1) (pa_cons pe_int (pa_cons (pe_lst (pa_cons pe_int pa_nil)) pa_nil)))))
(pss_cut (ps_if (pt_cmpR op_eq (pe_op op_mod (pe_def D_law_cell hr (by rfl) (pa_cons (pv 0) (pa_cons pe_int pa_nil))) pe_int) pe_int (nomark _))
(pss_one (ps_set (i := 2) sclaw.nd rfl (by first | exact .inl rfl | exact .inr rfl) (pe_def D_law_broad hr (by rfl) (pa_cons (pe_def D_law_source hr (by rfl) (pa_cons (pe_def D_law_cell hr (by rfl) (pa_cons (pv 0) (pa_cons pe_int pa_nil))) pa_nil)) pa_nil))))
pss_nil)
(pss_cons (ps_set (i := 3) sclaw.nd rfl (by first | exact .inl rfl | exact .inr rfl) (pe_op op_cat (pe_lc (own := [("_law_cell_here", 4)]) rfl sclaw.nd (pi_listK K (pe_slice (sl_listK K) (pv 0) (po_some pe_int) (po_some pe_int))) (blkOk_by (N := Nlaw) (sc := defScope slaw) (by decide +kernel)) (fun _ _ _ _ _ => (pg_name (i := 4) sclaw.nd rfl (by first | exact .inl rfl | exact .inr rfl))) (fun _ _ _ _ _ => pts_nil) (fun _ _ _ _ _ => (pe_def D_law_made hr (by rfl) (pa_cons (pe_def D_law_source hr (by rfl) (pa_cons (pv 4) pa_nil)) (pa_cons (pv 2) pa_nil))))) (pe_lst (pa_cons (pe_def D_law_made hr (by rfl) (pa_cons (pe_def D_law_source hr (by rfl) (pa_cons pe_int pa_nil)) (pa_cons (pv 2) pa_nil))) pa_nil))))
(pss_cons (ps_setLc (i := 3) (own := [("_law_value_here", 5)]) rfl sclaw.nd rfl rfl (sw_true rfl rfl rfl (by decide +kernel)) (pi_listK K (pv 3)) (blkOk_by (N := Nlaw) (sc := defScope slaw) (by decide +kernel)) (fun _ _ _ _ _ => (pg_name (i := 5) sclaw.nd rfl (by first | exact .inl rfl | exact .inr rfl))) (fun _ _ _ _ _ => pts_one (pt_cmp (pc_notN (pv 5)))) (fun _ _ _ _ _ => (pv 5)))
(pss_cons (ps_for PassesOwn.never rfl (pi_listK K (pe_slice (sl_listK K) (pv 0) (po_some pe_int) (po_some pe_int))) (pg_name (i := 4) sclaw.nd rfl (by first | exact .inl rfl | exact .inr rfl))
(pss_cons (ps_set (i := 6) sclaw.nd rfl (by first | exact .inl rfl | exact .inr rfl) (pe_def D_law_value hr (by rfl) (pa_cons (pe_def D_law_source hr (by rfl) (pa_cons (pv 4) pa_nil)) (pa_cons pe_int pa_nil))))
(pss_cut (ps_if (PW.pt (pw_and (pt_cmpR op_gt (pe_callB (call_lenK K) (by rfl) T.n_len (by decide +kernel) (pa_cons (pv 3) pa_nil)) pe_int (nomark _)) (pw_and1 (pt_cmpR op_eq (pe_op op_mod (pe_callTy call_int1' (by rfl) T.n_int (by decide +kernel) (pa_cons (pv 4) pa_nil)) pe_int) pe_int (nomark _)))))
(pss_one (ps_set (i := 6) sclaw.nd rfl (by first | exact .inl rfl | exact .inr rfl) (pe_def D_law_changed hr (by rfl) (pa_cons (pe_def D_law_source hr (by rfl) (pa_cons (pe_op op_fdivW (pe_callTy call_int1' (by rfl) T.n_int (by decide +kernel) (pa_cons (pv 4) pa_nil)) pe_int) pa_nil)) (pa_cons (pe_ix (ix_listK K) (pv 3) pe_int (fun _ _ => rfl)) pa_nil)))))
pss_nil)
(pss_cut (ps_if (PW.pt (pw_and (pt_cmpR op_gt (pe_callB (call_lenK K) (by rfl) T.n_len (by decide +kernel) (pa_cons (pv 3) pa_nil)) pe_int (nomark _)) (pw_and1 (pt_cmpR op_eq (pe_op op_mod (pe_callTy call_int1' (by rfl) T.n_int (by decide +kernel) (pa_cons (pv 4) pa_nil)) pe_int) pe_int (nomark _)))))
(pss_one (ps_set (i := 6) sclaw.nd rfl (by first | exact .inl rfl | exact .inr rfl) (pe_def D_law_stretched hr (by rfl) (pa_cons (pe_def D_law_source hr (by rfl) (pa_cons (pe_op op_fdivW (pe_callTy call_int1' (by rfl) T.n_int (by decide +kernel) (pa_cons (pv 4) pa_nil)) pe_int) pa_nil)) (pa_cons (pe_ix (ix_listK K) (pv 3) pe_int (fun _ _ => rfl)) pa_nil)))))
pss_nil)
(pss_one (ps_expr (pe_bm PySem.F.plainAttrs_list PySem.F.slot_list_append PySem.F.type_list_append mt_append (pv 3) (pa_cons (pv 6) pa_nil))))))))
(pss_one (ps_ret (pe_callB (cr_allK K rfl) (by rfl) T.n_all (by decide +kernel) (pa_cons (pe_lc (own := [("_law_value_here", 5)]) rfl sclaw.nd (pi_listK K (pv 3)) (blkOk_by (N := Nlaw) (sc := defScope slaw) (by decide +kernel)) (fun _ _ _ _ _ => (pg_name (i := 5) sclaw.nd rfl (by first | exact .inl rfl | exact .inr rfl))) (fun _ _ _ _ _ => pts_nil) (fun _ _ _ _ _ => (pe_def D_law_is_flag hr (by rfl) (pa_cons (pe_def Dis_valid hr (by rfl) (pa_cons (pv 2) (pa_cons (pv 5) pa_nil))) (pa_cons (pe_def D_law_valid hr (by rfl) (pa_cons (pv 2) (pa_cons (pv 5) pa_nil))) pa_nil))))) pa_nil)))))))))), ?_⟩
  walk_at "st"
  have lm : (ns.map V.int).length = ns.length := List.length_map ..
  have cl : ∀ lo hi, (cutV (ns.map V.int) lo hi).length ≤ 63 := fun lo hi => by
    have := cutV_length (ns.map V.int) lo hi
    omega
  walk_at "go"
  refine c_cell hsc (by decide) (by decide) fun n0 => ?_
  walk_at "go"
  refine c_source fun a H1 na g1 hi1 => ?_
  walk_at "go"
  rename_i r H2 nr g2 hr2
  refine c_g (A := [(r, 1), (a, 3)]) _ (IA.cons (IA.cons (ianil _) (hi1.g g2)) (ints1_of hr2)) ⟨a, r, 3, rfl, by simp, by simp, by decide, rfl⟩ fun sv H3 g3 hsv => ?_
  have g03 : G [] H H3 := G.alloc na g1 hi1 (G.alloc nr g2 (ints1_of hr2) g3)
  obtain ⟨s0, hs0, os0⟩ := hsv
  clear g1 g2 g3
  walk_at "go"
  refine w_cut (fun σ' H' => ∃ sv s, σ' = [some (.ref sc), some (.ref a), some sv, none, none, none, none] ∧ G [] H H' ∧ Rep H' sv s ∧ OkSch 3 s) ?c1 ?c2
  case c1 =>
    walk_at "go"
    refine c_cell (Pk.SqL.g hsc g03) (by decide) (by decide) fun n1 => ?_
    walk_at "go"
    refine w_iteEqI (fun c => ?_) (fun c => ?_)
    · walk_at "go"
      refine c_cell (Pk.SqL.g hsc g03) (by decide) (by decide) fun n2 => ?_
      walk_at "go"
      refine c_source fun b H4 nb g4 hi4 => ?_
      walk_at "go"
      refine c_with_src _ nb g4 hi4 ⟨b, rfl, List.mem_cons_self, rfl⟩ fun v H5 g5 hv => ?_
      obtain ⟨s1, hs1, os1⟩ := hv
      walk_at "go"
      exact ⟨_, _, rfl, g03.trans g5, hs1, OkSch.mono (by decide) os1⟩
    · walk_at "go"
      exact ⟨_, _, rfl, g03, hs0, os0⟩
  case c2 =>
  clear hs0 os0 g03
  rintro σ' Hc ⟨sv, s, rfl, gc, hs, os⟩
  have hscC := Pk.SqL.g hsc gc
  clear gc hsc
  walk_at "go"
  refine w_slL hscC fun p1 H1 np1 g1 hp1 => ?_
  walk_at "go"
  refine w_lcLi [] (fun _ v H => OptV 100 5 H v) (fun i v H H' t h => h.mono t) (ianil _) (xs := cutV (ns.map V.int) (some 1) (some 9)) (fun H9 g9 => SqL.of (by walk_at "ft")) (Nat.le_trans (cl _ _) (by decide)) ?step ?done
  case step =>
    intro i x H4 Nx hi g4 nx
    obtain ⟨n, rfl⟩ := int_mem hi
    walk_at "go"
    refine c_source fun b H5 nb g5 hi5 => ?_
    walk_at "go"
    exact c_with_src _ nb g5 hi5 ⟨b, sv, s, rfl, List.mem_cons_self, by walk_at "ft", os, rfl⟩ fun v H6 g6 hv => nx _ _ g6 hv
  case done =>
  intro D xs H2 hD g2 e hl hp
  have hl63 : xs.length ≤ 63 := by
    have := cl (some 1) (some 9)
    omega
  have hxs := mem_of_ix (P := fun v H => OptV 100 5 H v) hp
  walk_at "go"
  refine c_source fun b H3 nb g3 hi3 => ?_
  walk_at "go"
  refine c_with_src _ nb g3 hi3 ⟨b, sv, s, rfl, List.mem_cons_self, by walk_at "ft", os, rfl⟩ fun v H4 g4 hv => ?_
  clear g3
  walk_at "go"
  rename_i pl Hp npl gp hpl
  refine w_catL (xs := xs) (ys := [v]) (by walk_at "ft") (by walk_at "ft") (by rw [List.length_singleton]; omega) fun l0 H5 nl0 g5 hl0 => ?_
  have lx : (xs ++ [v]).length ≤ 64 := by rw [List.length_append, List.length_singleton]; omega
  have hxv : ∀ x ∈ xs ++ [v], OptV 100 5 H5 x := fun x hx => by
    rcases List.mem_append.mp hx with h | h
    · exact ((hxs x h).mono g4.t).mono (gp.t.trans g5.t)
    · rw [List.mem_singleton.mp h]
      exact OptV.mono (gp.t.trans g5.t) hv
  walk_at "go"
  refine w_lcLf [] (fun v H => tVal 100 5 v H) (fun v H H' t h => h.mono t) (ianil _) (xs := xs ++ [v]) (fun H9 g9 => SqL.of (by walk_at "ft")) (Nat.le_trans lx (by decide)) ?step2 ?done2
  case step2 =>
    intro i x H6 Nx No hi g6 nx no
    have hx := (hxv x (List.mem_of_getElem? hi)).mono g6.t
    walk_at "go"
    rcases hx with rfl | ⟨d, hd, od⟩
    · refine w_ite (fun c => absurd c (by decide)) (fun _ => ?_)
      exact no _ (by walk_at "ft")
    · refine w_iteNotD (fun _ => ?_) (fun e => absurd e (ok_nn hd od))
      walk_at "go"
      exact nx _ _ (by walk_at "ft") ⟨d, hd, od⟩
  case done2 =>
  intro l zs H6 nl g6 hl6 hlen2 hok
  have gc5 : G [] Hc H5 := by walk_at "ft"
  have nlc : Hc l = none := gc5.none nl
  have gc6 : G [] Hc H6 := gc5.trans g6
  clear g1 g2 g4 gp g5 g6 gc5
  walk_at "go"
  refine w_slL (Pk.SqL.g hscC gc6) fun p2 H7 np2 g7 hp2 => ?_
  have npl : p2 ≠ l := fun e => by
    rw [e, hl6] at np2
    cases np2
  have gc7 := gc6.trans g7
  have hl7 : H7 l = some (.lst zs) := g7.k _ _ nil_nin hl6
  have hok7 : ∀ y ∈ zs, tVal 100 5 y H7 := fun y hy => (hok y hy).mono g7.t
  clear g7 gc6 hl6 hok
  walk_at "go"
  have cl2 := cl (some 9) (some 21)
  generalize hcut : cutV (ns.map V.int) (some 9) (some 21) = cut at *
  refine w_forLi (xs := cut) (fun i σ' H' => ∃ o4 o5 o6 ys, σ' = [some (.ref sc), some (.ref a), some sv, some (.ref l), o4, o5, o6] ∧ G [] Hc H' ∧ H' p2 = some (.lst cut) ∧ H' l = some (.lst ys) ∧ (∀ y ∈ ys, tVal 600 9 y H') ∧ (∀ v, ys[0]? = some v → tVal 100 5 v H') ∧ ys.length ≤ 64 + i) ⟨_, _, _, zs, rfl, gc7, hp2, hl7, fun y hy => (hok7 y hy).up (by decide) (by decide), fun v hv => hok7 v (List.mem_of_getElem? hv), by omega⟩ (fun i σ' H' h => by
    obtain ⟨_, _, _, _, _, _, h, _⟩ := h
    exact SqL.of h) ?hs ?hd
  case hs =>
    clear gc7 hp2 hl7 hok7
    rintro i x σ' H5 hi ⟨o4, o5, o6, ys, rfl, g5, h5p, h5l, hall, hfst, hly⟩
    have hi2 := (List.getElem?_eq_some_iff.mp hi).1
    obtain ⟨n, rfl⟩ : ∃ n, x = .int n := int_mem (by rw [hcut]; exact hi)
    walk_at "go"
    refine c_source fun b H6 nb g6 hi6 => ?_
    walk_at "go"
    refine c_with_src _ nb g6 hi6 ⟨b, 3, rfl, List.mem_cons_self, by decide, rfl⟩ fun v H7 g7 hv => ?_
    clear g6 nb hi6
    walk_at "go"
    refine w_cut (fun σ' H' => ∃ ov, σ' = [some (.ref sc), some (.ref a), some sv, some (.ref l), some (.int n), o5, some ov] ∧ G [] H5 H' ∧ tVal 600 9 ov H' ∧ (ys = [] → tVal 100 5 ov H')) ?c3 ?c4
    case c3 =>
      walk_at "go"
      refine w_iteD (fun c => ?_) (fun c => ?_)
      · obtain ⟨v0, e0⟩ : ∃ v0, ys[0]? = some v0 := ⟨ys[0], List.getElem?_eq_getElem (by omega)⟩
        obtain ⟨d0, hd0, od0⟩ := hfst v0 e0
        walk_at "go"
        refine w_iteEqI (fun c => ?_) (fun c => ?_)
        · walk_at "go"
          refine c_source fun b H8 nb g8 hi8 => ?_
          walk_at "go"
          refine w_ixLn (n := 0) (xs := ys) (by walk_at "ft") rfl e0 ?_
          walk_at "go"
          refine c_with_src _ nb g8 hi8 ⟨b, v0, d0, 100, 5, rfl, List.mem_cons_self, by walk_at "ft", od0, by decide, rfl⟩ fun w H9 g9 hw => ?_
          walk_at "go"
          exact ⟨_, rfl, g7.trans g9, hw.up (by decide) (by decide), fun z => absurd e0 (by rw [z]; exact fun h => nomatch h)⟩
        · walk_at "go"
          exact ⟨_, rfl, g7, hv.up (by decide) (by decide), fun _ => hv.up (by decide) (by decide)⟩
      · walk_at "go"
        exact ⟨_, rfl, g7, hv.up (by decide) (by decide), fun _ => hv.up (by decide) (by decide)⟩
    case c4 =>
    clear hv g7
    rintro σ' H7 ⟨ov, rfl, g7, hv, hv0⟩
    walk_at "go"
    refine w_cut (fun σ' H' => ∃ ov, σ' = [some (.ref sc), some (.ref a), some sv, some (.ref l), some (.int n), o5, some ov] ∧ G [] H5 H' ∧ tVal 600 9 ov H' ∧ (ys = [] → tVal 100 5 ov H')) ?c5 ?c6
    case c5 =>
      walk_at "go"
      refine w_iteD (fun c => ?_) (fun c => ?_)
      · obtain ⟨v0, e0⟩ : ∃ v0, ys[0]? = some v0 := ⟨ys[0], List.getElem?_eq_getElem (by omega)⟩
        obtain ⟨d0, hd0, od0⟩ := hfst v0 e0
        walk_at "go"
        refine w_iteEqI (fun c => ?_) (fun c => ?_)
        · walk_at "go"
          refine c_source fun b H8 nb g8 hi8 => ?_
          walk_at "go"
          refine w_ixLn (n := 0) (xs := ys) (by walk_at "ft") rfl e0 ?_
          walk_at "go"
          refine c_with_src _ nb g8 hi8 ⟨b, v0, d0, 100, 5, rfl, List.mem_cons_self, by walk_at "ft", od0, by decide, rfl⟩ fun w H9 g9 hw => ?_
          walk_at "go"
          exact ⟨_, rfl, g7.trans g9, hw.up (by decide) (by decide), fun z => absurd e0 (by rw [z]; exact fun h => nomatch h)⟩
        · walk_at "go"
          exact ⟨_, rfl, g7, hv, hv0⟩
      · walk_at "go"
        exact ⟨_, rfl, g7, hv, hv0⟩
    case c6 =>
    clear hv0 hv g7
    rintro σ' H7 ⟨ov, rfl, g7, hv, hv0⟩
    walk_at "go"
    have e7 : H7 l = some (.lst ys) := g7.k _ _ nil_nin h5l
    refine w_ty (xs := ys) e7 ?_
    walk_at "go"
    refine w_append e7 (by omega) ?_
    have t7 := Pk.T.lst (o := .lst (ys ++ [ov])) e7
    refine ⟨_, _, _, ys ++ [ov], rfl, (g5.trans g7).mut nlc, by rw [upd_ne npl]; exact g7.k _ _ nil_nin h5p, upd_same, fun y hy => ?_, fun y hy => ?_, by rw [List.length_append, List.length_singleton]; omega⟩
    · rcases List.mem_append.mp hy with h | h
      · exact ((hall y h).mono g7.t).mono t7
      · rw [List.mem_singleton.mp h]
        exact hv.mono t7
    · cases ys with
      | nil =>
        cases hy
        exact (hv0 rfl).mono t7
      | cons v0 ys' =>
        exact ((hfst y hy).mono g7.t).mono t7
  case hd =>
    clear gc7 hp2 hl7 hok7
    rintro σ' H5 ⟨o4, o5, o6, ys, rfl, g5, h5p, h5l, hall, hfst, hly⟩
    walk_at "go"
    refine w_lcLi [] (fun _ y _ => y = .bl true) (fun _ _ _ _ _ h => h) (ianil _) (xs := ys) (fun H9 g9 => SqL.of (by walk_at "ft")) (by omega) ?step3 ?done3
    case step3 =>
      intro i x H6 Nx hi g6 nx
      obtain ⟨d, hd, od⟩ := hall x (List.mem_of_getElem? hi)
      have gv : GV d := OkV.mono (by decide) (by decide) od
      walk_at "go"
      refine c_valid (k := 3) (by walk_at "ft") (by walk_at "ft") os gv fun H7 g7 => ?_
      walk_at "go"
      refine c_valid (k := 3) (by walk_at "ft") (by walk_at "ft") os gv fun H8 g8 => ?_
      walk_at "go"
      refine c_flag ?_
      exact nx _ _ (by walk_at "ft") rfl
    case done3 =>
      intro D bs H6 hD g6 e hl hp
      walk_at "go"
      refine w_allF (ds := ys) (f := fun _ => true) e (by omega) (fun i y hy => ?_) ?_
      · have hi := (List.getElem?_eq_some_iff.mp hy).1
        exact ⟨_, List.getElem?_eq_getElem (by omega), hp i y hy⟩
      · have e1 : (ys.all fun _ => true) = true := by simp
        rw [e1]
        exact q _
end
end
theorem at_mk {K : PySem.W.Frag} {mg : Str → Option Value} {h : Heap} (X : K.In h) (G : h.Ns mainGlobals mg) {x : Str} {st : Stmt} {ps : List Str} {f : Addr} {od an : Option Addr} {sl : Array (Option Value)} {oc kV dc pm cd ct : Value}
    (a : PySem.W.nsIn K mainGlobals x = some (some (.ref f))) (l : K.lookup f = some ⟨oc, od, .func (PySem.W.fnOf x x (defArgs st) (defBody st) (defScope st) .none kV dc pm an cd ct), sl⟩) (c : PySem.W.codeIn K cd x = true) (k : PySem.W.keepIn K (.ref f) = true)
    (b : ∀ fd, Fun K x x st f fd → Binds K fd ps []) : At K mg x st ps :=
  have F := fun_mk (st := st) l c k
  ⟨f, _, F, PySem.W.mg_of X G a, b _ F⟩
theorem bis_within {K : PySem.W.Frag} {f : Addr} {fd : FuncData} (F : Fun K "is_within" "is_within" sis_within f fd) : Binds K fd ["count", "low", "high"] [] := F.binds fun _ _ _ _ _ _ us hl => match us, hl with | [_, _, _], _ => rfl
theorem bis_valid_list {K : PySem.W.Frag} {f : Addr} {fd : FuncData} (F : Fun K "is_valid_list" "is_valid_list" sis_valid_list f fd) : Binds K fd ["schema", "value"] [] := F.binds fun _ _ _ _ _ _ us hl => match us, hl with | [_, _], _ => rfl
theorem bis_valid_tuple {K : PySem.W.Frag} {f : Addr} {fd : FuncData} (F : Fun K "is_valid_tuple" "is_valid_tuple" sis_valid_tuple f fd) : Binds K fd ["schema", "value"] [] := F.binds fun _ _ _ _ _ _ us hl => match us, hl with | [_, _], _ => rfl
theorem bis_valid_object {K : PySem.W.Frag} {f : Addr} {fd : FuncData} (F : Fun K "is_valid_object" "is_valid_object" sis_valid_object f fd) : Binds K fd ["schema", "value"] [] := F.binds fun _ _ _ _ _ _ us hl => match us, hl with | [_, _], _ => rfl
theorem bis_valid_part {K : PySem.W.Frag} {f : Addr} {fd : FuncData} (F : Fun K "is_valid_part" "is_valid_part" sis_valid_part f fd) : Binds K fd ["schema", "value"] [] := F.binds fun _ _ _ _ _ _ us hl => match us, hl with | [_, _], _ => rfl
theorem bis_valid {K : PySem.W.Frag} {f : Addr} {fd : FuncData} (F : Fun K "is_valid" "is_valid" sis_valid f fd) : Binds K fd ["schema", "value"] [] := F.binds fun _ _ _ _ _ _ us hl => match us, hl with | [_, _], _ => rfl
theorem b_law_child {K : PySem.W.Frag} {f : Addr} {fd : FuncData} (F : Fun K "_law_child" "_law_child" s_law_child f fd) : Binds K fd ["_law_value_here", "_law_token_here"] [] := F.binds fun _ _ _ _ _ _ us hl => match us, hl with | [_, _], _ => rfl
theorem b_law_lookup {K : PySem.W.Frag} {f : Addr} {fd : FuncData} (F : Fun K "_law_lookup" "_law_lookup" s_law_lookup f fd) : Binds K fd ["_law_value_here", "_law_path_here"] [] := F.binds fun _ _ _ _ _ _ us hl => match us, hl with | [_, _], _ => rfl
theorem b_law_with {K : PySem.W.Frag} {f : Addr} {fd : FuncData} (F : Fun K "_law_with" "_law_with" s_law_with f fd) : Binds K fd ["_law_value_here", "_law_token_here", "_law_new"] [] := F.binds fun _ _ _ _ _ _ us hl => match us, hl with | [_, _, _], _ => rfl
theorem b_law_replace {K : PySem.W.Frag} {f : Addr} {fd : FuncData} (F : Fun K "_law_replace" "_law_replace" s_law_replace f fd) : Binds K fd ["_law_value_here", "_law_path_here", "_law_new"] [] := F.binds fun _ _ _ _ _ _ us hl => match us, hl with | [_, _, _], _ => rfl
theorem b_law_put {K : PySem.W.Frag} {f : Addr} {fd : FuncData} (F : Fun K "_law_put" "_law_put" s_law_put f fd) : Binds K fd ["_law_value_here", "_law_path_here", "_law_new"] [] := F.binds fun _ _ _ _ _ _ us hl => match us, hl with | [_, _, _], _ => rfl
theorem b_law_take {K : PySem.W.Frag} {f : Addr} {fd : FuncData} (F : Fun K "_law_take" "_law_take" s_law_take f fd) : Binds K fd ["_law_value_here", "_law_path_here"] [] := F.binds fun _ _ _ _ _ _ us hl => match us, hl with | [_, _], _ => rfl
theorem b_law_between {K : PySem.W.Frag} {f : Addr} {fd : FuncData} (F : Fun K "_law_between" "_law_between" s_law_between f fd) : Binds K fd ["_law_count", "_law_low", "_law_high"] [] := F.binds fun _ _ _ _ _ _ us hl => match us, hl with | [_, _, _], _ => rfl
theorem b_law_fields_valid {K : PySem.W.Frag} {f : Addr} {fd : FuncData} (F : Fun K "_law_fields_valid" "_law_fields_valid" s_law_fields_valid f fd) : Binds K fd ["_law_schema_here", "_law_fields"] [] := F.binds fun _ _ _ _ _ _ us hl => match us, hl with | [_, _], _ => rfl
theorem b_law_valid {K : PySem.W.Frag} {f : Addr} {fd : FuncData} (F : Fun K "_law_valid" "_law_valid" s_law_valid f fd) : Binds K fd ["_law_schema_here", "_law_value_here"] [] := F.binds fun _ _ _ _ _ _ us hl => match us, hl with | [_, _], _ => rfl
theorem b_law_is_flag {K : PySem.W.Frag} {f : Addr} {fd : FuncData} (F : Fun K "_law_is_flag" "_law_is_flag" s_law_is_flag f fd) : Binds K fd ["_law_actual", "_law_due"] [] := F.binds fun _ _ _ _ _ _ us hl => match us, hl with | [_, _], _ => rfl
theorem b_law_cell {K : PySem.W.Frag} {f : Addr} {fd : FuncData} (F : Fun K "_law_cell" "_law_cell" s_law_cell f fd) : Binds K fd ["_law_script", "_law_k"] [] := F.binds fun _ _ _ _ _ _ us hl => match us, hl with | [_, _], _ => rfl
theorem b_law_source {K : PySem.W.Frag} {f : Addr} {fd : FuncData} (F : Fun K "_law_source" "_law_source" s_law_source f fd) : Binds K fd ["_law_cell_here"] [] := F.binds fun _ _ _ _ _ _ us hl => match us, hl with | [_], _ => rfl
theorem b_law_draw {K : PySem.W.Frag} {f : Addr} {fd : FuncData} (F : Fun K "_law_draw" "_law_draw" s_law_draw f fd) : Binds K fd ["_law_source_here", "_law_many"] [] := F.binds fun _ _ _ _ _ _ us hl => match us, hl with | [_, _], _ => rfl
theorem b_law_char {K : PySem.W.Frag} {f : Addr} {fd : FuncData} (F : Fun K "_law_char" "_law_char" s_law_char f fd) : Binds K fd ["_law_source_here"] [] := F.binds fun _ _ _ _ _ _ us hl => match us, hl with | [_], _ => rfl
theorem b_law_name {K : PySem.W.Frag} {f : Addr} {fd : FuncData} (F : Fun K "_law_name" "_law_name" s_law_name f fd) : Binds K fd ["_law_source_here"] [] := F.binds fun _ _ _ _ _ _ us hl => match us, hl with | [_], _ => rfl
theorem b_law_number {K : PySem.W.Frag} {f : Addr} {fd : FuncData} (F : Fun K "_law_number" "_law_number" s_law_number f fd) : Binds K fd ["_law_source_here"] [] := F.binds fun _ _ _ _ _ _ us hl => match us, hl with | [_], _ => rfl
theorem b_law_leaf {K : PySem.W.Frag} {f : Addr} {fd : FuncData} (F : Fun K "_law_leaf" "_law_leaf" s_law_leaf f fd) : Binds K fd ["_law_source_here"] [] := F.binds fun _ _ _ _ _ _ us hl => match us, hl with | [_], _ => rfl
theorem b_law_object {K : PySem.W.Frag} {f : Addr} {fd : FuncData} (F : Fun K "_law_object" "_law_object" s_law_object f fd) : Binds K fd ["_law_pairs"] [] := F.binds fun _ _ _ _ _ _ us hl => match us, hl with | [_], _ => rfl
theorem b_law_value {K : PySem.W.Frag} {f : Addr} {fd : FuncData} (F : Fun K "_law_value" "_law_value" s_law_value f fd) : Binds K fd ["_law_source_here", "_law_depth"] [] := F.binds fun _ _ _ _ _ _ us hl => match us, hl with | [_, _], _ => rfl
theorem b_law_small {K : PySem.W.Frag} {f : Addr} {fd : FuncData} (F : Fun K "_law_small" "_law_small" s_law_small f fd) : Binds K fd ["_law_source_here"] [] := F.binds fun _ _ _ _ _ _ us hl => match us, hl with | [_], _ => rfl
theorem b_law_token {K : PySem.W.Frag} {f : Addr} {fd : FuncData} (F : Fun K "_law_token" "_law_token" s_law_token f fd) : Binds K fd ["_law_source_here", "_law_value_here"] [] := F.binds fun _ _ _ _ _ _ us hl => match us, hl with | [_, _], _ => rfl
theorem b_law_path {K : PySem.W.Frag} {f : Addr} {fd : FuncData} (F : Fun K "_law_path" "_law_path" s_law_path f fd) : Binds K fd ["_law_source_here", "_law_value_here", "_law_most"] [] := F.binds fun _ _ _ _ _ _ us hl => match us, hl with | [_, _, _], _ => rfl
theorem b_law_target {K : PySem.W.Frag} {f : Addr} {fd : FuncData} (F : Fun K "_law_target" "_law_target" s_law_target f fd) : Binds K fd ["_law_source_here", "_law_value_here", "_law_most"] [] := F.binds fun _ _ _ _ _ _ us hl => match us, hl with | [_, _, _], _ => rfl
theorem b_law_bounds {K : PySem.W.Frag} {f : Addr} {fd : FuncData} (F : Fun K "_law_bounds" "_law_bounds" s_law_bounds f fd) : Binds K fd ["_law_source_here", "_law_least"] [] := F.binds fun _ _ _ _ _ _ us hl => match us, hl with | [_, _], _ => rfl
theorem b_law_leaf_schema {K : PySem.W.Frag} {f : Addr} {fd : FuncData} (F : Fun K "_law_leaf_schema" "_law_leaf_schema" s_law_leaf_schema f fd) : Binds K fd ["_law_source_here", "_law_room"] [] := F.binds fun _ _ _ _ _ _ us hl => match us, hl with | [_, _], _ => rfl
theorem b_law_broad {K : PySem.W.Frag} {f : Addr} {fd : FuncData} (F : Fun K "_law_broad" "_law_broad" s_law_broad f fd) : Binds K fd ["_law_source_here"] [] := F.binds fun _ _ _ _ _ _ us hl => match us, hl with | [_], _ => rfl
theorem b_law_rows {K : PySem.W.Frag} {f : Addr} {fd : FuncData} (F : Fun K "_law_rows" "_law_rows" s_law_rows f fd) : Binds K fd ["_law_source_here", "_law_depth", "_law_room"] [] := F.binds fun _ _ _ _ _ _ us hl => match us, hl with | [_, _, _], _ => rfl
theorem b_law_schema {K : PySem.W.Frag} {f : Addr} {fd : FuncData} (F : Fun K "_law_schema" "_law_schema" s_law_schema f fd) : Binds K fd ["_law_source_here", "_law_depth", "_law_room"] [] := F.binds fun _ _ _ _ _ _ us hl => match us, hl with | [_, _, _], _ => rfl
theorem b_law_inside {K : PySem.W.Frag} {f : Addr} {fd : FuncData} (F : Fun K "_law_inside" "_law_inside" s_law_inside f fd) : Binds K fd ["_law_source_here", "_law_low", "_law_high", "_law_far"] [] := F.binds fun _ _ _ _ _ _ us hl => match us, hl with | [_, _, _, _], _ => rfl
theorem b_law_made_list {K : PySem.W.Frag} {f : Addr} {fd : FuncData} (F : Fun K "_law_made_list" "_law_made_list" s_law_made_list f fd) : Binds K fd ["_law_source_here", "_law_schema_here"] [] := F.binds fun _ _ _ _ _ _ us hl => match us, hl with | [_, _], _ => rfl
theorem b_law_made_object {K : PySem.W.Frag} {f : Addr} {fd : FuncData} (F : Fun K "_law_made_object" "_law_made_object" s_law_made_object f fd) : Binds K fd ["_law_source_here", "_law_schema_here"] [] := F.binds fun _ _ _ _ _ _ us hl => match us, hl with | [_, _], _ => rfl
theorem b_law_made {K : PySem.W.Frag} {f : Addr} {fd : FuncData} (F : Fun K "_law_made" "_law_made" s_law_made f fd) : Binds K fd ["_law_source_here", "_law_schema_here"] [] := F.binds fun _ _ _ _ _ _ us hl => match us, hl with | [_, _], _ => rfl
theorem b_law_changed {K : PySem.W.Frag} {f : Addr} {fd : FuncData} (F : Fun K "_law_changed" "_law_changed" s_law_changed f fd) : Binds K fd ["_law_source_here", "_law_value_here"] [] := F.binds fun _ _ _ _ _ _ us hl => match us, hl with | [_, _], _ => rfl
theorem b_law_stretched {K : PySem.W.Frag} {f : Addr} {fd : FuncData} (F : Fun K "_law_stretched" "_law_stretched" s_law_stretched f fd) : Binds K fd ["_law_source_here", "_law_value_here"] [] := F.binds fun _ _ _ _ _ _ us hl => match us, hl with | [_, _], _ => rfl
theorem blaw {K : PySem.W.Frag} {f : Addr} {fd : FuncData} (F : Fun K "law" "law" slaw f fd) : Binds K fd ["_law_script"] [] := F.binds fun _ _ _ _ _ _ us hl => match us, hl with | [_], _ => rfl
section
variable {P : Program} {w : World} {K : PySem.W.Frag} {mg : Str → Option Value} {base : Heap}
theorem D_is_valid_all (Tg : Glob mg) (Fis_within : At K mg "is_within" sis_within ["count", "low", "high"]) (Fis_valid_list : At K mg "is_valid_list" sis_valid_list ["schema", "value"]) (Fis_valid_tuple : At K mg "is_valid_tuple" sis_valid_tuple ["schema", "value"]) (Fis_valid_object : At K mg "is_valid_object" sis_valid_object ["schema", "value"]) (Fis_valid_part : At K mg "is_valid_part" sis_valid_part ["schema", "value"]) (Fis_valid : At K mg "is_valid" sis_valid ["schema", "value"]) : ∀ k, Def P w K mg base (3 * k + 1) "is_valid" ["schema", "value"] (spValid k)
  | 0 => Def.imp (Fis_valid.never.mono (by omega)) fun vs H Q E h => by
    obtain ⟨x, y, s, v, _, _, _, o, _⟩ := h
    exact o.elim
  | k + 1 => by
    have W := D_is_within (P := P) (w := w) (base := base) Fis_within Tg
    have D := D_is_valid_all Tg Fis_within Fis_valid_list Fis_valid_tuple Fis_valid_object Fis_valid_part Fis_valid k
    have L := D_is_valid_list Fis_valid_list Tg W D
    have U := D_is_valid_tuple Fis_valid_tuple Tg D
    have O := D_is_valid_object Fis_valid_object Tg D
    have R := D_is_valid_part Fis_valid_part Tg D L U O
    exact D_is_valid Fis_valid Tg W R
theorem D_law_valid_all (Tg : Glob mg) (F_law_child : At K mg "_law_child" s_law_child ["_law_value_here", "_law_token_here"]) (F_law_between : At K mg "_law_between" s_law_between ["_law_count", "_law_low", "_law_high"]) (F_law_fields_valid : At K mg "_law_fields_valid" s_law_fields_valid ["_law_schema_here", "_law_fields"]) (F_law_valid : At K mg "_law_valid" s_law_valid ["_law_schema_here", "_law_value_here"]) : ∀ k, Def P w K mg base (2 * k + 1) "_law_valid" ["_law_schema_here", "_law_value_here"] (spValid k)
  | 0 => Def.imp (F_law_valid.never.mono (by omega)) fun vs H Q E h => by
    obtain ⟨x, y, s, v, _, _, _, o, _⟩ := h
    exact o.elim
  | k + 1 => by
    have D := D_law_valid_all Tg F_law_child F_law_between F_law_fields_valid F_law_valid k
    have W := D_law_between (P := P) (w := w) (base := base) F_law_between Tg
    have C := D_law_child (P := P) (w := w) (base := base) F_law_child Tg
    have R := D_law_fields_valid F_law_fields_valid Tg C D
    exact D_law_valid_s F_law_valid Tg W D R
theorem D_law_made_all (Tg : Glob mg) (F_law_made_list : At K mg "_law_made_list" s_law_made_list ["_law_source_here", "_law_schema_here"]) (F_law_made_object : At K mg "_law_made_object" s_law_made_object ["_law_source_here", "_law_schema_here"]) (F_law_made : At K mg "_law_made" s_law_made ["_law_source_here", "_law_schema_here"])
    (dr : Def P w K mg base 1 "_law_draw" ["_law_source_here", "_law_many"] spDraw) (ch : Def P w K mg base 2 "_law_char" ["_law_source_here"] spChar) (nm : Def P w K mg base 3 "_law_name" ["_law_source_here"] spName) (ob : Def P w K mg base 2 "_law_object" ["_law_pairs"] spObject) (vl : Def P w K mg base 6 "_law_value" ["_law_source_here", "_law_depth"] (spValue 1)) (ins : Def P w K mg base 2 "_law_inside" ["_law_source_here", "_law_low", "_law_high", "_law_far"] spInside) : ∀ k, k ≤ 10 → Def P w K mg base (2 * k + 7) "_law_made" ["_law_source_here", "_law_schema_here"] (spMade k)
  | 0, _ => Def.imp (F_law_made.never.mono (by omega)) fun vs H Q E h => by
    obtain ⟨A, R, ia, ⟨a, x, s, _, _, _, o, _⟩, _⟩ := h
    exact o.elim
  | k + 1, hk => by
    have D := D_law_made_all Tg F_law_made_list F_law_made_object F_law_made dr ch nm ob vl ins k (by omega)
    have L := D_law_made_list (by omega) F_law_made_list Tg ins D
    have O := D_law_made_object (by omega) F_law_made_object Tg dr nm ob D
    exact D_law_made_s (by omega) F_law_made Tg dr ch ins vl D L O
theorem law_all (Tg : Glob mg) (Fis_within : At K mg "is_within" sis_within ["count", "low", "high"]) (Fis_valid_list : At K mg "is_valid_list" sis_valid_list ["schema", "value"]) (Fis_valid_tuple : At K mg "is_valid_tuple" sis_valid_tuple ["schema", "value"]) (Fis_valid_object : At K mg "is_valid_object" sis_valid_object ["schema", "value"]) (Fis_valid_part : At K mg "is_valid_part" sis_valid_part ["schema", "value"]) (Fis_valid : At K mg "is_valid" sis_valid ["schema", "value"]) (F_law_child : At K mg "_law_child" s_law_child ["_law_value_here", "_law_token_here"]) (F_law_lookup : At K mg "_law_lookup" s_law_lookup ["_law_value_here", "_law_path_here"]) (F_law_with : At K mg "_law_with" s_law_with ["_law_value_here", "_law_token_here", "_law_new"]) (F_law_replace : At K mg "_law_replace" s_law_replace ["_law_value_here", "_law_path_here", "_law_new"]) (F_law_put : At K mg "_law_put" s_law_put ["_law_value_here", "_law_path_here", "_law_new"]) (F_law_take : At K mg "_law_take" s_law_take ["_law_value_here", "_law_path_here"]) (F_law_between : At K mg "_law_between" s_law_between ["_law_count", "_law_low", "_law_high"]) (F_law_fields_valid : At K mg "_law_fields_valid" s_law_fields_valid ["_law_schema_here", "_law_fields"]) (F_law_valid : At K mg "_law_valid" s_law_valid ["_law_schema_here", "_law_value_here"]) (F_law_is_flag : At K mg "_law_is_flag" s_law_is_flag ["_law_actual", "_law_due"]) (F_law_cell : At K mg "_law_cell" s_law_cell ["_law_script", "_law_k"]) (F_law_source : At K mg "_law_source" s_law_source ["_law_cell_here"]) (F_law_draw : At K mg "_law_draw" s_law_draw ["_law_source_here", "_law_many"]) (F_law_char : At K mg "_law_char" s_law_char ["_law_source_here"]) (F_law_name : At K mg "_law_name" s_law_name ["_law_source_here"]) (F_law_number : At K mg "_law_number" s_law_number ["_law_source_here"]) (F_law_leaf : At K mg "_law_leaf" s_law_leaf ["_law_source_here"]) (F_law_object : At K mg "_law_object" s_law_object ["_law_pairs"]) (F_law_value : At K mg "_law_value" s_law_value ["_law_source_here", "_law_depth"]) (F_law_small : At K mg "_law_small" s_law_small ["_law_source_here"]) (F_law_token : At K mg "_law_token" s_law_token ["_law_source_here", "_law_value_here"]) (F_law_path : At K mg "_law_path" s_law_path ["_law_source_here", "_law_value_here", "_law_most"]) (F_law_target : At K mg "_law_target" s_law_target ["_law_source_here", "_law_value_here", "_law_most"]) (F_law_bounds : At K mg "_law_bounds" s_law_bounds ["_law_source_here", "_law_least"]) (F_law_leaf_schema : At K mg "_law_leaf_schema" s_law_leaf_schema ["_law_source_here", "_law_room"]) (F_law_broad : At K mg "_law_broad" s_law_broad ["_law_source_here"]) (F_law_rows : At K mg "_law_rows" s_law_rows ["_law_source_here", "_law_depth", "_law_room"]) (F_law_schema : At K mg "_law_schema" s_law_schema ["_law_source_here", "_law_depth", "_law_room"]) (F_law_inside : At K mg "_law_inside" s_law_inside ["_law_source_here", "_law_low", "_law_high", "_law_far"]) (F_law_made_list : At K mg "_law_made_list" s_law_made_list ["_law_source_here", "_law_schema_here"]) (F_law_made_object : At K mg "_law_made_object" s_law_made_object ["_law_source_here", "_law_schema_here"]) (F_law_made : At K mg "_law_made" s_law_made ["_law_source_here", "_law_schema_here"]) (F_law_changed : At K mg "_law_changed" s_law_changed ["_law_source_here", "_law_value_here"]) (F_law_stretched : At K mg "_law_stretched" s_law_stretched ["_law_source_here", "_law_value_here"]) {f0 : Addr} {fd0 : FuncData} (Flaw : Fun K "law" "law" slaw f0 fd0) : FnOk P w K mg base CX0 14 f0 fd0 ["_law_script"] (spLaw K) := by
  have child := D_law_child (P := P) (w := w) (base := base) F_law_child Tg
  have lookup := D_law_lookup F_law_lookup Tg child
  have wth := D_law_with (P := P) (w := w) (base := base) F_law_with Tg
  have replace := D_law_replace F_law_replace Tg child wth 4
  have put := D_law_put F_law_put Tg lookup wth replace
  have take := D_law_take F_law_take Tg lookup replace
  have flag := D_law_is_flag (P := P) (w := w) (base := base) F_law_is_flag Tg
  have lvalid := D_law_valid_all (P := P) (w := w) (base := base) Tg F_law_child F_law_between F_law_fields_valid F_law_valid 3
  have cell := D_law_cell (P := P) (w := w) (base := base) F_law_cell Tg
  have source := D_law_source (P := P) (w := w) (base := base) F_law_source Tg
  have draw := D_law_draw (P := P) (w := w) (base := base) F_law_draw Tg
  have char := D_law_char F_law_char Tg draw
  have name := D_law_name F_law_name Tg draw char
  have number := D_law_number F_law_number Tg draw
  have leaf := D_law_leaf F_law_leaf Tg draw name number
  have object := D_law_object F_law_object Tg wth
  have value := D_law_value F_law_value Tg draw name leaf object
  have small := D_law_small F_law_small Tg draw name leaf object
  have token := D_law_token F_law_token Tg draw
  have path := D_law_path F_law_path Tg draw name child token
  have target := D_law_target F_law_target Tg draw name lookup path
  have bounds := D_law_bounds F_law_bounds Tg draw
  have lschema := D_law_leaf_schema F_law_leaf_schema Tg draw leaf small bounds
  have broad := D_law_broad F_law_broad Tg draw name lschema
  have schema := D_law_schema F_law_schema F_law_rows Tg draw name bounds lschema 2
  have inside := D_law_inside F_law_inside Tg draw
  have made := D_law_made_all Tg F_law_made_list F_law_made_object F_law_made draw char name object (value 1) inside 3 (by decide)
  have changed := D_law_changed F_law_changed Tg draw leaf path target take put replace
  have stretched := D_law_stretched F_law_stretched Tg draw name leaf wth
  have valid := D_is_valid_all (P := P) (w := w) (base := base) Tg Fis_within Fis_valid_list Fis_valid_tuple Fis_valid_object Fis_valid_part Fis_valid 3
  exact D_law_s Flaw Tg cell source schema broad made (value 2) changed stretched valid (lvalid.mono (by decide)) flag
end
theorem walk_law {l : PySem.W.OpenLaw} {q : Program} {loose : List Str} {XP : (Str → Option Value) → Heap → Prop} {YP : World → Heap → Prop} {d : DefRec} {K : Params → PySem.W.Frag} (hn : l.most = some 63) (hdf : d.params.defaults = [])
    (hY : ∀ (w : World) (h : Heap), YP w h → (K w.params).In h)
    (F : ∀ (w : World) (mg : Str → Option Value) (fa : Addr) (h : Heap), (K w.params).In h → h.Ns mainGlobals mg → mg d.name = some (.ref fa) →
      ∃ fd : FuncData, (∀ (s : Shared) (u : Value), BindsTo s fd ⟨[u], []⟩ [("_law_script", u)]) ∧ ∀ base : Heap, (K w.params).In base → base.Ns mainGlobals mg → FnOk l.prog w (K w.params) mg base CX0 14 fa fd ["_law_script"] (spLaw (K w.params))) :
    PySem.W.WalkO q loose XP YP l.row.toRowW d [] (fun f vs => PySem.call f vs) :=
  L2.walk_of (n := 63) (k := 14) (x := "_law_script") (CX := fun _ => CX0) (sp := fun w => spLaw (K w.params)) hn (by decide) hdf ⟨rfl, by decide, by decide⟩ hY F (fun _ _ a ns hl _ hS => ⟨a, ns, rfl, hS, hl, fun _ => rfl⟩) fun _ _ _ _ _ z => z
theorem law_mk {l : PySem.W.OpenLaw} {w : World} {K : PySem.W.Frag} {mg : Str → Option Value} {h : Heap} {fa : Addr} (X : K.In h) (G : h.Ns mainGlobals mg) (hfa : mg "law" = some (.ref fa)) {f : Addr} {od an : Option Addr} {sl : Array (Option Value)} {oc kV dc pm cd ct : Value}
    (a : PySem.W.nsIn K mainGlobals "law" = some (some (.ref f))) (l0 : K.lookup f = some ⟨oc, od, .func (PySem.W.fnOf "law" "law" (defArgs slaw) (defBody slaw) (defScope slaw) .none kV dc pm an cd ct), sl⟩) (c : PySem.W.codeIn K cd "law" = true) (k : PySem.W.keepIn K (.ref f) = true)
    (F : ∀ (fd : FuncData) (base : Heap), Fun K "law" "law" slaw fa fd → FnOk l.prog w K mg base CX0 14 fa fd ["_law_script"] (spLaw K)) :
    ∃ fd : FuncData, (∀ (s : Shared) (u : Value), BindsTo s fd ⟨[u], []⟩ [("_law_script", u)]) ∧ ∀ base : Heap, K.In base → base.Ns mainGlobals mg → FnOk l.prog w K mg base CX0 14 fa fd ["_law_script"] (spLaw K) := by
  have e := hfa.symm.trans (PySem.W.mg_of X G a)
  cases e
  exact ⟨_, fun s v => .of_eq rfl, fun base _ _ => F _ base (fun_mk (st := slaw) l0 c k)⟩
theorem glob_mk {K : PySem.W.Frag} {mg : Str → Option Value} {h : Heap} (X : K.In h) (G : h.Ns mainGlobals mg) (zlen : PySem.W.nsIn K mainGlobals "len" = some none) (zall : PySem.W.nsIn K mainGlobals "all" = some none) (zany : PySem.W.nsIn K mainGlobals "any" = some none) (zint : PySem.W.nsIn K mainGlobals "int" = some none) (ztuple : PySem.W.nsIn K mainGlobals "tuple" = some none) (zlist : PySem.W.nsIn K mainGlobals "list" = some none) (zisinstance : PySem.W.nsIn K mainGlobals "isinstance" = some none) (zmin : PySem.W.nsIn K mainGlobals "min" = some none) (zmax : PySem.W.nsIn K mainGlobals "max" = some none) (zrange : PySem.W.nsIn K mainGlobals "range" = some none) (zzip : PySem.W.nsIn K mainGlobals "zip" = some none) (zstr : PySem.W.nsIn K mainGlobals "str" = some none) (zbool : PySem.W.nsIn K mainGlobals "bool" = some none) : Glob mg :=
  ⟨PySem.W.mg_none_of X G zlen, PySem.W.mg_none_of X G zall, PySem.W.mg_none_of X G zany, PySem.W.mg_none_of X G zint, PySem.W.mg_none_of X G ztuple, PySem.W.mg_none_of X G zlist, PySem.W.mg_none_of X G zisinstance, PySem.W.mg_none_of X G zmin, PySem.W.mg_none_of X G zmax, PySem.W.mg_none_of X G zrange, PySem.W.mg_none_of X G zzip, PySem.W.mg_none_of X G zstr, PySem.W.mg_none_of X G zbool⟩
end Pk
open PySem PySem.W PyProof.Rows
set_option maxRecDepth 100000 in
set_option maxHeartbeats 0 in
theorem PySem.Challenge.cw_patchkept_k12_whole_valid_by_all_schemas_holds : PySem.Challenge.rw_patchkept_k12_whole_valid_by_all_schemas.Holds := by
  w_on; o_law; k_head; (case hw => w_witness2)
  k_fill
  refine Pk.walk_law (l := PySem.Challenge.rw_patchkept_k12_whole_valid_by_all_schemas) rfl rfl (fun w h Y => PySem.W.kIn_of Y) ?F
  case F =>
    intro w mg fa h KX G hmg
    refine' Pk.law_mk KX G hmg ?a0 ?l0 ?c0 ?k0 ?F0
    (case a0 => k_is); (case l0 => k_is); (case c0 => k_is); (case k0 => k_is)
    case F0 =>
    intro fd base Fl
    refine' Pk.law_all (Pk.glob_mk KX G ?zlen ?zall ?zany ?zint ?ztuple ?zlist ?zisinstance ?zmin ?zmax ?zrange ?zzip ?zstr ?zbool) (Pk.at_mk KX G ?ais_within ?lis_within ?cis_within ?kis_within fun _ => Pk.bis_within) (Pk.at_mk KX G ?ais_valid_list ?lis_valid_list ?cis_valid_list ?kis_valid_list fun _ => Pk.bis_valid_list) (Pk.at_mk KX G ?ais_valid_tuple ?lis_valid_tuple ?cis_valid_tuple ?kis_valid_tuple fun _ => Pk.bis_valid_tuple) (Pk.at_mk KX G ?ais_valid_object ?lis_valid_object ?cis_valid_object ?kis_valid_object fun _ => Pk.bis_valid_object) (Pk.at_mk KX G ?ais_valid_part ?lis_valid_part ?cis_valid_part ?kis_valid_part fun _ => Pk.bis_valid_part) (Pk.at_mk KX G ?ais_valid ?lis_valid ?cis_valid ?kis_valid fun _ => Pk.bis_valid) (Pk.at_mk KX G ?a_law_child ?l_law_child ?c_law_child ?k_law_child fun _ => Pk.b_law_child) (Pk.at_mk KX G ?a_law_lookup ?l_law_lookup ?c_law_lookup ?k_law_lookup fun _ => Pk.b_law_lookup) (Pk.at_mk KX G ?a_law_with ?l_law_with ?c_law_with ?k_law_with fun _ => Pk.b_law_with) (Pk.at_mk KX G ?a_law_replace ?l_law_replace ?c_law_replace ?k_law_replace fun _ => Pk.b_law_replace) (Pk.at_mk KX G ?a_law_put ?l_law_put ?c_law_put ?k_law_put fun _ => Pk.b_law_put) (Pk.at_mk KX G ?a_law_take ?l_law_take ?c_law_take ?k_law_take fun _ => Pk.b_law_take) (Pk.at_mk KX G ?a_law_between ?l_law_between ?c_law_between ?k_law_between fun _ => Pk.b_law_between) (Pk.at_mk KX G ?a_law_fields_valid ?l_law_fields_valid ?c_law_fields_valid ?k_law_fields_valid fun _ => Pk.b_law_fields_valid) (Pk.at_mk KX G ?a_law_valid ?l_law_valid ?c_law_valid ?k_law_valid fun _ => Pk.b_law_valid) (Pk.at_mk KX G ?a_law_is_flag ?l_law_is_flag ?c_law_is_flag ?k_law_is_flag fun _ => Pk.b_law_is_flag) (Pk.at_mk KX G ?a_law_cell ?l_law_cell ?c_law_cell ?k_law_cell fun _ => Pk.b_law_cell) (Pk.at_mk KX G ?a_law_source ?l_law_source ?c_law_source ?k_law_source fun _ => Pk.b_law_source) (Pk.at_mk KX G ?a_law_draw ?l_law_draw ?c_law_draw ?k_law_draw fun _ => Pk.b_law_draw) (Pk.at_mk KX G ?a_law_char ?l_law_char ?c_law_char ?k_law_char fun _ => Pk.b_law_char) (Pk.at_mk KX G ?a_law_name ?l_law_name ?c_law_name ?k_law_name fun _ => Pk.b_law_name) (Pk.at_mk KX G ?a_law_number ?l_law_number ?c_law_number ?k_law_number fun _ => Pk.b_law_number) (Pk.at_mk KX G ?a_law_leaf ?l_law_leaf ?c_law_leaf ?k_law_leaf fun _ => Pk.b_law_leaf) (Pk.at_mk KX G ?a_law_object ?l_law_object ?c_law_object ?k_law_object fun _ => Pk.b_law_object) (Pk.at_mk KX G ?a_law_value ?l_law_value ?c_law_value ?k_law_value fun _ => Pk.b_law_value) (Pk.at_mk KX G ?a_law_small ?l_law_small ?c_law_small ?k_law_small fun _ => Pk.b_law_small) (Pk.at_mk KX G ?a_law_token ?l_law_token ?c_law_token ?k_law_token fun _ => Pk.b_law_token) (Pk.at_mk KX G ?a_law_path ?l_law_path ?c_law_path ?k_law_path fun _ => Pk.b_law_path) (Pk.at_mk KX G ?a_law_target ?l_law_target ?c_law_target ?k_law_target fun _ => Pk.b_law_target) (Pk.at_mk KX G ?a_law_bounds ?l_law_bounds ?c_law_bounds ?k_law_bounds fun _ => Pk.b_law_bounds) (Pk.at_mk KX G ?a_law_leaf_schema ?l_law_leaf_schema ?c_law_leaf_schema ?k_law_leaf_schema fun _ => Pk.b_law_leaf_schema) (Pk.at_mk KX G ?a_law_broad ?l_law_broad ?c_law_broad ?k_law_broad fun _ => Pk.b_law_broad) (Pk.at_mk KX G ?a_law_rows ?l_law_rows ?c_law_rows ?k_law_rows fun _ => Pk.b_law_rows) (Pk.at_mk KX G ?a_law_schema ?l_law_schema ?c_law_schema ?k_law_schema fun _ => Pk.b_law_schema) (Pk.at_mk KX G ?a_law_inside ?l_law_inside ?c_law_inside ?k_law_inside fun _ => Pk.b_law_inside) (Pk.at_mk KX G ?a_law_made_list ?l_law_made_list ?c_law_made_list ?k_law_made_list fun _ => Pk.b_law_made_list) (Pk.at_mk KX G ?a_law_made_object ?l_law_made_object ?c_law_made_object ?k_law_made_object fun _ => Pk.b_law_made_object) (Pk.at_mk KX G ?a_law_made ?l_law_made ?c_law_made ?k_law_made fun _ => Pk.b_law_made) (Pk.at_mk KX G ?a_law_changed ?l_law_changed ?c_law_changed ?k_law_changed fun _ => Pk.b_law_changed) (Pk.at_mk KX G ?a_law_stretched ?l_law_stretched ?c_law_stretched ?k_law_stretched fun _ => Pk.b_law_stretched) Fl
    (case zlen => k_is)
    (case zall => k_is)
    (case zany => k_is)
    (case zint => k_is)
    (case ztuple => k_is)
    (case zlist => k_is)
    (case zisinstance => k_is)
    (case zmin => k_is)
    (case zmax => k_is)
    (case zrange => k_is)
    (case zzip => k_is)
    (case zstr => k_is)
    (case zbool => k_is)
    (case ais_within => k_is); (case lis_within => k_is); (case cis_within => k_is); (case kis_within => k_is)
    (case ais_valid_list => k_is); (case lis_valid_list => k_is); (case cis_valid_list => k_is); (case kis_valid_list => k_is)
    (case ais_valid_tuple => k_is); (case lis_valid_tuple => k_is); (case cis_valid_tuple => k_is); (case kis_valid_tuple => k_is)
    (case ais_valid_object => k_is); (case lis_valid_object => k_is); (case cis_valid_object => k_is); (case kis_valid_object => k_is)
    (case ais_valid_part => k_is); (case lis_valid_part => k_is); (case cis_valid_part => k_is); (case kis_valid_part => k_is)
    (case ais_valid => k_is); (case lis_valid => k_is); (case cis_valid => k_is); (case kis_valid => k_is)
    (case a_law_child => k_is); (case l_law_child => k_is); (case c_law_child => k_is); (case k_law_child => k_is)
    (case a_law_lookup => k_is); (case l_law_lookup => k_is); (case c_law_lookup => k_is); (case k_law_lookup => k_is)
    (case a_law_with => k_is); (case l_law_with => k_is); (case c_law_with => k_is); (case k_law_with => k_is)
    (case a_law_replace => k_is); (case l_law_replace => k_is); (case c_law_replace => k_is); (case k_law_replace => k_is)
    (case a_law_put => k_is); (case l_law_put => k_is); (case c_law_put => k_is); (case k_law_put => k_is)
    (case a_law_take => k_is); (case l_law_take => k_is); (case c_law_take => k_is); (case k_law_take => k_is)
    (case a_law_between => k_is); (case l_law_between => k_is); (case c_law_between => k_is); (case k_law_between => k_is)
    (case a_law_fields_valid => k_is); (case l_law_fields_valid => k_is); (case c_law_fields_valid => k_is); (case k_law_fields_valid => k_is)
    (case a_law_valid => k_is); (case l_law_valid => k_is); (case c_law_valid => k_is); (case k_law_valid => k_is)
    (case a_law_is_flag => k_is); (case l_law_is_flag => k_is); (case c_law_is_flag => k_is); (case k_law_is_flag => k_is)
    (case a_law_cell => k_is); (case l_law_cell => k_is); (case c_law_cell => k_is); (case k_law_cell => k_is)
    (case a_law_source => k_is); (case l_law_source => k_is); (case c_law_source => k_is); (case k_law_source => k_is)
    (case a_law_draw => k_is); (case l_law_draw => k_is); (case c_law_draw => k_is); (case k_law_draw => k_is)
    (case a_law_char => k_is); (case l_law_char => k_is); (case c_law_char => k_is); (case k_law_char => k_is)
    (case a_law_name => k_is); (case l_law_name => k_is); (case c_law_name => k_is); (case k_law_name => k_is)
    (case a_law_number => k_is); (case l_law_number => k_is); (case c_law_number => k_is); (case k_law_number => k_is)
    (case a_law_leaf => k_is); (case l_law_leaf => k_is); (case c_law_leaf => k_is); (case k_law_leaf => k_is)
    (case a_law_object => k_is); (case l_law_object => k_is); (case c_law_object => k_is); (case k_law_object => k_is)
    (case a_law_value => k_is); (case l_law_value => k_is); (case c_law_value => k_is); (case k_law_value => k_is)
    (case a_law_small => k_is); (case l_law_small => k_is); (case c_law_small => k_is); (case k_law_small => k_is)
    (case a_law_token => k_is); (case l_law_token => k_is); (case c_law_token => k_is); (case k_law_token => k_is)
    (case a_law_path => k_is); (case l_law_path => k_is); (case c_law_path => k_is); (case k_law_path => k_is)
    (case a_law_target => k_is); (case l_law_target => k_is); (case c_law_target => k_is); (case k_law_target => k_is)
    (case a_law_bounds => k_is); (case l_law_bounds => k_is); (case c_law_bounds => k_is); (case k_law_bounds => k_is)
    (case a_law_leaf_schema => k_is); (case l_law_leaf_schema => k_is); (case c_law_leaf_schema => k_is); (case k_law_leaf_schema => k_is)
    (case a_law_broad => k_is); (case l_law_broad => k_is); (case c_law_broad => k_is); (case k_law_broad => k_is)
    (case a_law_rows => k_is); (case l_law_rows => k_is); (case c_law_rows => k_is); (case k_law_rows => k_is)
    (case a_law_schema => k_is); (case l_law_schema => k_is); (case c_law_schema => k_is); (case k_law_schema => k_is)
    (case a_law_inside => k_is); (case l_law_inside => k_is); (case c_law_inside => k_is); (case k_law_inside => k_is)
    (case a_law_made_list => k_is); (case l_law_made_list => k_is); (case c_law_made_list => k_is); (case k_law_made_list => k_is)
    (case a_law_made_object => k_is); (case l_law_made_object => k_is); (case c_law_made_object => k_is); (case k_law_made_object => k_is)
    (case a_law_made => k_is); (case l_law_made => k_is); (case c_law_made => k_is); (case k_law_made => k_is)
    (case a_law_changed => k_is); (case l_law_changed => k_is); (case c_law_changed => k_is); (case k_law_changed => k_is)
    (case a_law_stretched => k_is); (case l_law_stretched => k_is); (case c_law_stretched => k_is); (case k_law_stretched => k_is)
