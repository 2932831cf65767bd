import PyProof.Rows.All
import Wide.All
import OpenK.AllK
import Wide.FinOn
import KE.KStateDown
import HandS.Comp
import HandS.List
import HandS.Iter
import HandS.Conv
import HandS.Ends
import HandS.Wide
import HandS.IsInst
import HandS.TupAny
import HandS.ForMost
import KE.GoesEnum
import KE.GoesMore
import HandS.Style
import HandS.NamedTupSort
import KE.KTupSum
import HandS.Set
import HandS.Strs
import HandS.SetFor
import HandS.Zip
import HandS.Deep
import KE.GoesZip
import PyProof.P3Eq
import PyProof.ReprBulk
import HandS.HeadEnd
import HandS.HeadHook1
import HandS.HeadHook2
import HandS.Head0
import HandS.Head1
import HandS.Head2
import HandS.TupMul
import PyProof.Rows.SeqMore
import KE.KDictZip
import KE.KDictItemsList
import HandS.SortInts
import PySem.Challenge.RW_seatworks_k10_any_value_as_rule_race_dea
set_option Elab.async false
set_option linter.all false
set_option maxRecDepth 100000
set_option maxHeartbeats 4000000
/-! Dat0: a store of plain data over the hand layer's heaps: values D, stores Mu, how both lie in a heap. -/
namespace Dl
open PySem PySem.Spec PyProof.Rows L2

/-- plain data; a list that may change is a cell of the store -/
inductive D where
  | non | bl (b : Bool) | int (i : Int) | str (x : Str) | tup (ds : List D) | frz (ds : List D) | cell (k : Nat) | ty (n : String) | emp
abbrev Mu := Nat → Option (List D)
def Mu.upd (μ : Mu) (k : Nat) (xs : List D) : Mu := fun j => if j = k then some xs else μ j
/-- knows no more -/
def Mu.Sub (μ' μ : Mu) : Prop := ∀ k xs, μ' k = some xs → μ k = some xs
theorem Mu.Sub.refl (μ : Mu) : Mu.Sub μ μ := fun _ _ h => h
theorem Mu.Sub.trans {a b c : Mu} (h : Mu.Sub a b) (g : Mu.Sub b c) : Mu.Sub a c := fun k xs e => g k xs (h k xs e)
@[simp] theorem Mu.upd_same {μ : Mu} {k : Nat} {xs : List D} : μ.upd k xs k = some xs := if_pos rfl
theorem Mu.upd_ne {μ : Mu} {j k : Nat} {xs : List D} (h : j ≠ k) : μ.upd k xs j = μ j := if_neg h
theorem Mu.upd_upd {μ : Mu} {k : Nat} {xs ys : List D} : (μ.upd k xs).upd k ys = μ.upd k ys := by
  funext j
  unfold Mu.upd
  split <;> rfl
theorem Mu.sub_upd {μ : Mu} {k : Nat} {xs : List D} (h : μ k = none) : Mu.Sub μ (μ.upd k xs) := fun j ys e => by
  rw [Mu.upd_ne]
  · exact e
  · intro z
    rw [z, h] at e
    cases e
theorem Mu.Sub.upd {μ' μ : Mu} (s : Mu.Sub μ' μ) (k : Nat) (xs : List D) : Mu.Sub (μ'.upd k xs) (μ.upd k xs) := fun j ys e => by
  by_cases h : j = k
  · subst h
    rw [Mu.upd_same] at e ⊢
    exact e
  · rw [Mu.upd_ne h] at e ⊢
    exact s j ys e
theorem Mu.ne_of {μ : Mu} {j k : Nat} {xs : List D} (h : μ j = some xs) (g : μ k = none) : j ≠ k := fun e => by
  rw [e, g] at h
  cases h

/-! ### how heaps grow -/
structure Ext (H H' : Hp) : Prop where
  tup : ∀ a xs, H a = some (.tup xs) → H' a = some (.tup xs)
  frz : ∀ a o u, H a = some (.frz o u) → H' a = some (.frz o u)
  dic : ∀ a, H a = some (.dK []) → H' a = some (.dK [])
  live : ∀ a o, H a = some o → ∃ o', H' a = some o'
theorem Ext.refl (H : Hp) : Ext H H := ⟨fun _ _ h => h, fun _ _ _ h => h, fun _ h => h, fun _ o h => ⟨o, h⟩⟩
theorem Ext.trans {H H1 H2 : Hp} (a : Ext H H1) (b : Ext H1 H2) : Ext H H2 :=
  ⟨fun c xs h => b.tup c xs (a.tup c xs h), fun c o u h => b.frz c o u (a.frz c o u h), fun c h => b.dic c (a.dic c h), fun c o h => by
    obtain ⟨o', h'⟩ := a.live c o h
    exact b.live c o' h'⟩
theorem Ext.new {H : Hp} {p : Addr} {o : HO} (h : H p = none) : Ext H (upd H p o) :=
  ⟨fun a xs e => by rw [L2.upd_ne (L2.ne_of_none e h)]; exact e, fun a ob u e => by rw [L2.upd_ne (L2.ne_of_none e h)]; exact e,
    fun a e => by rw [L2.upd_ne (L2.ne_of_none e h)]; exact e, fun a ob e => ⟨ob, by rw [L2.upd_ne (L2.ne_of_none e h)]; exact e⟩⟩
theorem Ext.lst {H : Hp} {p : Addr} {vs ws : List V} (h : H p = some (.lst vs)) : Ext H (upd H p (.lst ws)) :=
  ⟨fun a xs e => by rw [L2.upd_ne (L2.ne_of e h (by intro z; cases z))]; exact e, fun a ob u e => by rw [L2.upd_ne (L2.ne_of e h (by intro z; cases z))]; exact e,
    fun a e => by rw [L2.upd_ne (L2.ne_of e h (by intro z; cases z))]; exact e, fun a ob e => by
      by_cases q : a = p
      · exact ⟨_, by rw [q, L2.upd_same]⟩
      · exact ⟨ob, by rw [L2.upd_ne q]; exact e⟩⟩

/-- a list that never changes: the script, or one of the written part -/
def FrzL (K : PySem.W.Frag) (H : Hp) (a : Addr) (xs : List V) : Prop := (∃ o, H a = some (.frz o (.lst xs))) ∨ SqL K (fun _ => none) a xs
theorem none_seq {K : PySem.W.Frag} {H : Hp} {a : Addr} {xs : List V} (h : SqL K (fun _ => none) a xs) : SqL K H a xs := by
  rcases h with h | h
  · rcases h with h | ⟨o, h⟩
    · cases h
    · cases h
  · exact .inr h
theorem FrzL.seq {K : PySem.W.Frag} {H : Hp} {a : Addr} {xs : List V} (h : FrzL K H a xs) : SqL K H a xs := by
  rcases h with ⟨o, h⟩ | h
  · exact .inl (.inr ⟨o, h⟩)
  · exact none_seq h
theorem Ext.seqT {K : PySem.W.Frag} {H H' : Hp} {a : Addr} {xs : List V} (e : Ext H H') (h : SqT K H a xs) : SqT K H' a xs := by
  rcases h with (h | ⟨o, h⟩) | h
  · exact .inl (.inl (e.tup _ _ h))
  · exact .inl (.inr ⟨o, e.frz _ _ _ h⟩)
  · exact .inr h
theorem Ext.frzL {K : PySem.W.Frag} {H H' : Hp} {a : Addr} {xs : List V} (e : Ext H H') (h : FrzL K H a xs) : FrzL K H' a xs := by
  rcases h with ⟨o, h⟩ | h
  · exact .inl ⟨o, e.frz _ _ _ h⟩
  · exact .inr h

/-- addresses of cells, and the heap, grown -/
structure Gr (α : List Addr) (H : Hp) (α' : List Addr) (H' : Hp) : Prop where
  pre : ∀ (k : Nat) a, α[k]? = some a → α'[k]? = some a
  ext : Ext H H'
theorem Gr.refl (α : List Addr) (H : Hp) : Gr α H α H := ⟨fun _ _ h => h, Ext.refl H⟩
theorem Gr.trans {α α1 α2 : List Addr} {H H1 H2 : Hp} (a : Gr α H α1 H1) (b : Gr α1 H1 α2 H2) : Gr α H α2 H2 := ⟨fun k c h => b.pre k c (a.pre k c h), a.ext.trans b.ext⟩

mutual
inductive Rl (K : PySem.W.Frag) (α : List Addr) (H : Hp) : V → D → Prop
  | non : Rl K α H .non .non
  | bl (b : Bool) : Rl K α H (.bl b) (.bl b)
  | int (i : Int) : Rl K α H (.int i) (.int i)
  | str (x : Str) : Rl K α H (.str x) (.str x)
  | ty (n : String) : Rl K α H (.ty n) (.ty n)
  | tup {a : Addr} {vs : List V} {ds : List D} : SqT K H a vs → RlAll K α H vs ds → Rl K α H (.ref a) (.tup ds)
  | frz {a : Addr} {vs : List V} {ds : List D} : FrzL K H a vs → RlAll K α H vs ds → Rl K α H (.ref a) (.frz ds)
  | cell {a : Addr} {k : Nat} : α[k]? = some a → Rl K α H (.ref a) (.cell k)
  | emp {a : Addr} : H a = some (.dK []) → Rl K α H (.ref a) .emp
inductive RlAll (K : PySem.W.Frag) (α : List Addr) (H : Hp) : List V → List D → Prop
  | nil : RlAll K α H [] []
  | cons {v : V} {vs : List V} {d : D} {ds : List D} : Rl K α H v d → RlAll K α H vs ds → RlAll K α H (v :: vs) (d :: ds)
end

section
variable {K : PySem.W.Frag} {α α' : List Addr} {H H' : Hp}
mutual
theorem Rl.mono (g : Gr α H α' H') : ∀ {v : V} {d : D}, Rl K α H v d → Rl K α' H' v d
  | _, _, .non => .non
  | _, _, .bl b => .bl b
  | _, _, .int i => .int i
  | _, _, .str x => .str x
  | _, _, .ty n => .ty n
  | _, _, .tup s r => .tup (g.ext.seqT s) (RlAll.mono g r)
  | _, _, .frz s r => .frz (g.ext.frzL s) (RlAll.mono g r)
  | _, _, .cell h => .cell (g.pre _ _ h)
  | _, _, .emp h => .emp (g.ext.dic _ h)
theorem RlAll.mono (g : Gr α H α' H') : ∀ {vs : List V} {ds : List D}, RlAll K α H vs ds → RlAll K α' H' vs ds
  | _, _, .nil => .nil
  | _, _, .cons a b => .cons (Rl.mono g a) (RlAll.mono g b)
end
theorem RlAll.length : ∀ {vs : List V} {ds : List D}, RlAll K α H vs ds → vs.length = ds.length
  | _, _, .nil => rfl
  | _, _, .cons _ b => by rw [List.length_cons, List.length_cons, RlAll.length b]
theorem RlAll.append : ∀ {vs ws : List V} {ds es : List D}, RlAll K α H vs ds → RlAll K α H ws es → RlAll K α H (vs ++ ws) (ds ++ es)
  | _, _, _, _, .nil, r => r
  | _, _, _, _, .cons a b, r => .cons a (RlAll.append b r)
theorem RlAll.get : ∀ {vs : List V} {ds : List D} {i : Nat} {d : D}, RlAll K α H vs ds → ds[i]? = some d → ∃ v, vs[i]? = some v ∧ Rl K α H v d
  | _, _, _, _, .nil, e => by simp at e
  | _, _, 0, _, .cons a _, e => by
    simp at e
    subst e
    exact ⟨_, rfl, a⟩
  | _, _, i + 1, d, .cons _ b, e => by
    obtain ⟨v, h1, h2⟩ := RlAll.get (i := i) (d := d) b (by simpa using e)
    exact ⟨v, by simpa using h1, h2⟩
theorem RlAll.getV : ∀ {vs : List V} {ds : List D} {i : Nat} {v : V}, RlAll K α H vs ds → vs[i]? = some v → ∃ d, ds[i]? = some d ∧ Rl K α H v d
  | _, _, _, _, .nil, e => by simp at e
  | _, _, 0, _, .cons a _, e => by
    simp at e
    subst e
    exact ⟨_, rfl, a⟩
  | _, _, i + 1, v, .cons _ b, e => by
    obtain ⟨d, h1, h2⟩ := RlAll.getV (i := i) (v := v) b (by simpa using e)
    exact ⟨d, by simpa using h1, h2⟩
theorem RlAll.set {v : V} {d : D} (r : Rl K α H v d) : ∀ {vs : List V} {ds : List D} (i : Nat), RlAll K α H vs ds → RlAll K α H (vs.set i v) (ds.set i d)
  | _, _, _, .nil => .nil
  | _, _, 0, .cons _ b => .cons r b
  | _, _, i + 1, .cons a b => .cons a (RlAll.set r i b)
theorem RlAll.take : ∀ {vs : List V} {ds : List D} (n : Nat), RlAll K α H vs ds → RlAll K α H (vs.take n) (ds.take n)
  | _, _, 0, _ => .nil
  | _, _, _ + 1, .nil => .nil
  | _, _, n + 1, .cons a b => .cons a (RlAll.take n b)
theorem RlAll.drop : ∀ {vs : List V} {ds : List D} (n : Nat), RlAll K α H vs ds → RlAll K α H (vs.drop n) (ds.drop n)
  | _, _, 0, r => r
  | _, _, _ + 1, .nil => .nil
  | _, _, n + 1, .cons _ b => RlAll.drop n b
theorem RlAll.flat : ∀ (n : Nat) {vs : List V} {ds : List D}, RlAll K α H vs ds → RlAll K α H (List.replicate n vs).flatten (List.replicate n ds).flatten
  | 0, _, _, _ => .nil
  | n + 1, _, _, r => by
    rw [List.replicate_succ, List.replicate_succ, List.flatten_cons, List.flatten_cons]
    exact r.append (RlAll.flat n r)
theorem RlAll.nilV {ds : List D} (r : RlAll K α H [] ds) : ds = [] := by cases r; rfl
theorem RlAll.rev : ∀ {vs : List V} {ds : List D}, RlAll K α H vs ds → RlAll K α H vs.reverse ds.reverse
  | _, _, .nil => .nil
  | _, _, .cons a b => by
    rw [List.reverse_cons, List.reverse_cons]
    exact (RlAll.rev b).append (.cons a .nil)
theorem rlInts : ∀ (ns : List Int), RlAll K α H (ns.map V.int) (ns.map D.int)
  | [] => .nil
  | n :: ns => .cons (.int n) (rlInts ns)
theorem RlAll.ints : ∀ {vs : List V} {ns : List Int}, RlAll K α H vs (ns.map D.int) → vs = ns.map V.int
  | _, [], r => by cases r; rfl
  | _, n :: ns, r => by
    cases r with
    | cons a b =>
      cases a
      rw [RlAll.ints b]
      rfl
theorem RlAll.bls : ∀ {vs : List V} {ns : List Bool}, RlAll K α H vs (ns.map D.bl) → vs = ns.map V.bl
  | _, [], r => by cases r; rfl
  | _, n :: ns, r => by
    cases r with
    | cons a b =>
      cases a
      rw [RlAll.bls b]
      rfl

/-- the store lies in the heap -/
structure Sat (K : PySem.W.Frag) (α : List Addr) (H : Hp) (μ : Mu) : Prop where
  cell : ∀ k xs, μ k = some xs → ∃ a vs, α[k]? = some a ∧ H a = some (.lst vs) ∧ RlAll K α H vs xs
  inj : ∀ (j k : Nat) a, α[j]? = some a → α[k]? = some a → j = k
  live : ∀ (k : Nat) a, α[k]? = some a → ∃ o, H a = some o
theorem Sat.sub {μ μ' : Mu} (s : Sat K α H μ) (h : Mu.Sub μ' μ) : Sat K α H μ' := ⟨fun k xs e => s.cell k xs (h k xs e), s.inj, s.live⟩
theorem Sat.fresh {μ : Mu} (s : Sat K α H μ) : μ α.length = none := by
  cases e : μ α.length with
  | none => rfl
  | some xs =>
    obtain ⟨a, vs, h, _⟩ := s.cell _ _ e
    rw [List.getElem?_eq_none (Nat.le_refl _)] at h
    cases h
theorem gr_push {a : Addr} (e : Ext H H') : Gr α H (α ++ [a]) H' := ⟨fun k c h => by
  have hk := (List.getElem?_eq_some_iff.mp h).1
  rw [List.getElem?_append_left hk]
  exact h, e⟩
theorem at_push {a : Addr} : (α ++ [a])[α.length]? = some a := by
  rw [List.getElem?_append_right (Nat.le_refl _), Nat.sub_self]
  rfl
theorem push_cases {a b : Addr} {k : Nat} (h : (α ++ [a])[k]? = some b) : α[k]? = some b ∨ (k = α.length ∧ b = a) := by
  by_cases hk : k < α.length
  · rw [List.getElem?_append_left hk] at h
    exact .inl h
  · rw [List.getElem?_append_right (by omega)] at h
    have hk2 : k - α.length = 0 := by
      have := (List.getElem?_eq_some_iff.mp h).1
      simp at this
      omega
    rw [hk2] at h
    exact .inr ⟨by omega, (Option.some.inj h).symm⟩
/-- a thing is tracked that is no cell -/
theorem Sat.new {μ : Mu} {p : Addr} {o : HO} (s : Sat K α H μ) (h : H p = none) : Sat K α (upd H p o) μ := by
  refine ⟨fun k xs e => ?_, s.inj, fun k a e => ?_⟩
  · obtain ⟨a, vs, h1, h2, h3⟩ := s.cell k xs e
    exact ⟨a, vs, h1, by rw [L2.upd_ne (L2.ne_of_none h2 h)]; exact h2, h3.mono ⟨fun _ _ z => z, Ext.new h⟩⟩
  · obtain ⟨o', h'⟩ := s.live k a e
    exact ⟨o', by rw [L2.upd_ne (L2.ne_of_none h' h)]; exact h'⟩
/-- a new cell -/
theorem Sat.alloc {μ : Mu} {p : Addr} {vs : List V} {xs : List D} (s : Sat K α H μ) (h : H p = none) (r : RlAll K α H vs xs) :
    Sat K (α ++ [p]) (upd H p (.lst vs)) (μ.upd α.length xs) := by
  have g : Gr α H (α ++ [p]) (upd H p (.lst vs)) := gr_push (Ext.new h)
  refine ⟨fun k ys e => ?_, fun j k a hj hk => ?_, fun k a e => ?_⟩
  · by_cases hk : k = α.length
    · subst hk
      rw [Mu.upd_same] at e
      cases e
      exact ⟨p, vs, at_push, L2.upd_same, r.mono g⟩
    · rw [Mu.upd_ne hk] at e
      obtain ⟨a, ws, h1, h2, h3⟩ := s.cell k ys e
      exact ⟨a, ws, g.pre _ _ h1, by rw [L2.upd_ne (L2.ne_of_none h2 h)]; exact h2, h3.mono g⟩
  · rcases push_cases hj with hj | ⟨ej, aj⟩ <;> rcases push_cases hk with hk | ⟨ek, ak⟩
    · exact s.inj _ _ _ hj hk
    · obtain ⟨o, z⟩ := s.live _ _ hj
      rw [ak, h] at z
      cases z
    · obtain ⟨o, z⟩ := s.live _ _ hk
      rw [aj, h] at z
      cases z
    · omega
  · rcases push_cases e with e | ⟨_, rfl⟩
    · obtain ⟨o', h'⟩ := s.live k a e
      exact ⟨o', by rw [L2.upd_ne (L2.ne_of_none h' h)]; exact h'⟩
    · exact ⟨_, L2.upd_same⟩
/-- a cell is changed -/
theorem Sat.set {μ : Mu} {a : Addr} {k : Nat} {ws vs : List V} {xs : List D} (s : Sat K α H μ) (ha : α[k]? = some a) (h : H a = some (.lst ws)) (r : RlAll K α H vs xs) :
    Sat K α (upd H a (.lst vs)) (μ.upd k xs) := by
  have g : Gr α H α (upd H a (.lst vs)) := ⟨fun _ _ z => z, Ext.lst h⟩
  refine ⟨fun j ys e => ?_, s.inj, fun j b e => ?_⟩
  · by_cases hj : j = k
    · subst hj
      rw [Mu.upd_same] at e
      cases e
      exact ⟨a, vs, ha, L2.upd_same, r.mono g⟩
    · rw [Mu.upd_ne hj] at e
      obtain ⟨b, us, h1, h2, h3⟩ := s.cell j ys e
      have hb : b ≠ a := fun z => hj (s.inj _ _ _ h1 (by rw [z]; exact ha))
      exact ⟨b, us, h1, by rw [L2.upd_ne hb]; exact h2, h3.mono g⟩
  · obtain ⟨o', h'⟩ := s.live j b e
    by_cases hb : b = a
    · exact ⟨_, by rw [hb, L2.upd_same]⟩
    · exact ⟨o', by rw [L2.upd_ne hb]; exact h'⟩
theorem gr_set {a : Addr} {ws vs : List V} (h : H a = some (.lst ws)) : Gr α H α (upd H a (.lst vs)) := ⟨fun _ _ z => z, Ext.lst h⟩
theorem gr_new {a : Addr} {o : HO} (h : H a = none) : Gr α H α (upd H a o) := ⟨fun _ _ z => z, Ext.new h⟩

/-! ### what is read as a sequence -/
def items (μ : Mu) : D → Option (List D)
  | .tup ds => some ds
  | .frz ds => some ds
  | .cell k => μ k
  | _ => none
def litems (μ : Mu) : D → Option (List D)
  | .frz ds => some ds
  | .cell k => μ k
  | _ => none
theorem Sat.list {μ : Mu} {v : V} {d : D} {xs : List D} (s : Sat K α H μ) (r : Rl K α H v d) (h : litems μ d = some xs) : ∃ a vs, v = .ref a ∧ SqL K H a vs ∧ RlAll K α H vs xs := by
  cases r with
  | frz q r =>
    cases h
    exact ⟨_, _, rfl, q.seq, r⟩
  | cell q =>
    obtain ⟨a, vs, h1, h2, h3⟩ := s.cell _ _ h
    rw [q] at h1
    cases h1
    exact ⟨_, _, rfl, .inl (.inl h2), h3⟩
  | _ => cases h
theorem Sat.seq {μ : Mu} {v : V} {d : D} {xs : List D} (s : Sat K α H μ) (r : Rl K α H v d) (h : items μ d = some xs) : ∃ a vs, v = .ref a ∧ (SqL K H a vs ∨ SqT K H a vs) ∧ RlAll K α H vs xs := by
  cases r with
  | tup q r =>
    cases h
    exact ⟨_, _, rfl, .inr q, r⟩
  | frz q r =>
    cases h
    exact ⟨_, _, rfl, .inl q.seq, r⟩
  | cell q =>
    obtain ⟨a, vs, h1, h2, h3⟩ := s.cell _ _ h
    rw [q] at h1
    cases h1
    exact ⟨_, _, rfl, .inl (.inl (.inl h2)), h3⟩
  | _ => cases h
end

/-! ### slots -/
abbrev Rho := List (Option D)
def EnvOk (K : PySem.W.Frag) (α : List Addr) (H : Hp) (σ : L2.St) (ρ : Rho) : Prop :=
  ρ.length = σ.length ∧ ∀ (i : Nat) d, ρ[i]? = some (some d) → ∃ v, σ[i]? = some (some v) ∧ Rl K α H v d
section
variable {K : PySem.W.Frag} {α α' : List Addr} {H H' : Hp} {σ : L2.St} {ρ : Rho}
theorem EnvOk.mono (g : Gr α H α' H') (e : EnvOk K α H σ ρ) : EnvOk K α' H' σ ρ := ⟨e.1, fun i d h => by
  obtain ⟨v, h1, h2⟩ := e.2 i d h
  exact ⟨v, h1, h2.mono g⟩⟩
theorem EnvOk.set {i : Nat} {v : V} {d : D} (e : EnvOk K α H σ ρ) (r : Rl K α H v d) : EnvOk K α H (σ.set i (some v)) (ρ.set i (some d)) := by
  refine ⟨by rw [List.length_set, List.length_set]; exact e.1, fun j c h => ?_⟩
  by_cases hj : i = j
  · subst hj
    have hl : i < ρ.length := by
      have := (List.getElem?_eq_some_iff.mp h).1
      rw [List.length_set] at this
      exact this
    rw [List.getElem?_set_self hl] at h
    cases h
    exact ⟨v, List.getElem?_set_self (by rw [← e.1]; exact hl), r⟩
  · rw [List.getElem?_set_ne hj] at h ⊢
    exact e.2 j c h
theorem EnvOk.clear {i : Nat} (e : EnvOk K α H σ ρ) : EnvOk K α H (σ.set i none) (ρ.set i none) := by
  refine ⟨by rw [List.length_set, List.length_set]; exact e.1, fun j c h => ?_⟩
  by_cases hj : i = j
  · subst hj
    have hl : i < ρ.length := by
      have := (List.getElem?_eq_some_iff.mp h).1
      rw [List.length_set] at this
      exact this
    rw [List.getElem?_set_self hl] at h
    cases h
  · rw [List.getElem?_set_ne hj] at h ⊢
    exact e.2 j c h
def wipeD (ρ : Rho) : List Nat → Rho
  | [] => ρ
  | v :: vs => (wipeD ρ vs).set v none
theorem EnvOk.wipe (e : EnvOk K α H σ ρ) : ∀ (vs : List Nat), EnvOk K α H (L2.wipe σ vs) (wipeD ρ vs)
  | [] => e
  | v :: vs => (EnvOk.wipe e vs).clear
end
end Dl
/-! Dat1: readings over plain data: expressions. -/
namespace Dl
open PySem PySem.Spec PyProof.Rows L2

abbrev DK := D → Mu → Prop
abbrev DTE := Rho → Mu → DK → Prop
abbrev DTT := Rho → Mu → (Bool → Mu → Prop) → Prop
abbrev DTA := Rho → Mu → (List D → Mu → Prop) → Prop
/-- a fresh list, by what it holds -/
abbrev DTL := Rho → Mu → (List D → Mu → Prop) → Prop

def PostE (K : PySem.W.Frag) (α : List Addr) (H : Hp) (Qd : DK) (Q : VK) : Prop := ∀ v H' α' μ' d, Gr α H α' H' → Sat K α' H' μ' → Rl K α' H' v d → Qd d μ' → Q v H'
def PostT (K : PySem.W.Frag) (α : List Addr) (H : Hp) (Qd : Bool → Mu → Prop) (Q : Bool → Hp → Prop) : Prop := ∀ b H' α' μ', Gr α H α' H' → Sat K α' H' μ' → Qd b μ' → Q b H'
def PostA (K : PySem.W.Frag) (α : List Addr) (H : Hp) (Qd : List D → Mu → Prop) (Q : List V → Hp → Prop) : Prop := ∀ vs H' α' μ' ds, Gr α H α' H' → Sat K α' H' μ' → RlAll K α' H' vs ds → Qd ds μ' → Q vs H'
/-- the list's cell k lies in the store apart -/
def PostL (K : PySem.W.Frag) (α : List Addr) (H : Hp) (Qd : List D → Mu → Prop) (Q : VK) : Prop := ∀ p k H' α' μ' xs, Gr α H α' H' → μ' k = none → α'[k]? = some p → Sat K α' H' (μ'.upd k xs) → Qd xs μ' → Q (.ref p) H'
def SndE (K : PySem.W.Frag) (te : TE) (de : DTE) : Prop := ∀ α σ H ρ μ Qd (Q : VK), Sat K α H μ → EnvOk K α H σ ρ → de ρ μ Qd → PostE K α H Qd Q → te σ H Q
def SndL (K : PySem.W.Frag) (te : TE) (de : DTL) : Prop := ∀ α σ H ρ μ Qd (Q : VK), Sat K α H μ → EnvOk K α H σ ρ → de ρ μ Qd → PostL K α H Qd Q → te σ H Q
def SndT (K : PySem.W.Frag) (tt : TT) (dt : DTT) : Prop := ∀ α σ H ρ μ Qd (Q : Bool → Hp → Prop), Sat K α H μ → EnvOk K α H σ ρ → dt ρ μ Qd → PostT K α H Qd Q → tt σ H Q
def SndA (K : PySem.W.Frag) (ta : TA) (da : DTA) : Prop := ∀ α σ H ρ μ Qd (Q : List V → Hp → Prop), Sat K α H μ → EnvOk K α H σ ρ → da ρ μ Qd → PostA K α H Qd Q → ta σ H Q
/-- operations by values -/
def SndR (K : PySem.W.Frag) (r : R2) (rd : D → D → Mu → DK → Prop) : Prop := ∀ α H μ x y dx dy Qd (Q : VK), Sat K α H μ → Rl K α H x dx → Rl K α H y dy → rd dx dy μ Qd → PostE K α H Qd Q → r x y H Q
def SndRL (K : PySem.W.Frag) (r : R2) (rd : D → D → Mu → (List D → Mu → Prop) → Prop) : Prop := ∀ α H μ x y dx dy Qd (Q : VK), Sat K α H μ → Rl K α H x dx → Rl K α H y dy → rd dx dy μ Qd → PostL K α H Qd Q → r x y H Q
def SndU (K : PySem.W.Frag) (r : V → Hp → VK → Prop) (rd : D → Mu → DK → Prop) : Prop := ∀ α H μ x dx Qd (Q : VK), Sat K α H μ → Rl K α H x dx → rd dx μ Qd → PostE K α H Qd Q → r x H Q
def SndC (K : PySem.W.Frag) (r : List V → Hp → VK → Prop) (rd : List D → Mu → DK → Prop) : Prop := ∀ α H μ xs dxs Qd (Q : VK), Sat K α H μ → RlAll K α H xs dxs → rd dxs μ Qd → PostE K α H Qd Q → r xs H Q
def SndCL (K : PySem.W.Frag) (r : List V → Hp → VK → Prop) (rd : List D → Mu → (List D → Mu → Prop) → Prop) : Prop := ∀ α H μ xs dxs Qd (Q : VK), Sat K α H μ → RlAll K α H xs dxs → rd dxs μ Qd → PostL K α H Qd Q → r xs H Q

section
variable {K : PySem.W.Frag} {α α1 : List Addr} {H H1 : Hp}
theorem PostE.mono {Qd : DK} {Q : VK} (g : Gr α H α1 H1) (p : PostE K α H Qd Q) : PostE K α1 H1 Qd Q := fun v H' α' μ' d g' => p v H' α' μ' d (g.trans g')
theorem PostT.mono {Qd : Bool → Mu → Prop} {Q : Bool → Hp → Prop} (g : Gr α H α1 H1) (p : PostT K α H Qd Q) : PostT K α1 H1 Qd Q := fun v H' α' μ' g' => p v H' α' μ' (g.trans g')
theorem PostA.mono {Qd : List D → Mu → Prop} {Q : List V → Hp → Prop} (g : Gr α H α1 H1) (p : PostA K α H Qd Q) : PostA K α1 H1 Qd Q := fun v H' α' μ' d g' => p v H' α' μ' d (g.trans g')
theorem PostL.mono {Qd : List D → Mu → Prop} {Q : VK} (g : Gr α H α1 H1) (p : PostL K α H Qd Q) : PostL K α1 H1 Qd Q := fun v k H' α' μ' d g' => p v k H' α' μ' d (g.trans g')
theorem PostE.here {μ : Mu} {v : V} {d : D} {Qd : DK} {Q : VK} (p : PostE K α H Qd Q) (s : Sat K α H μ) (r : Rl K α H v d) (q : Qd d μ) : Q v H := p v H α μ d (Gr.refl α H) s r q
theorem PostE.tup {μ : Mu} {vs : List V} {ds : List D} {Qd : DK} {Q : VK} (p : PostE K α H Qd Q) (s : Sat K α H μ) (r : RlAll K α H vs ds) (q : Qd (.tup ds) μ) {a : Addr} (h : H a = none) : Q (.ref a) (upd H a (.tup vs)) :=
  p _ _ α μ (.tup ds) (gr_new h) (s.new h) (.tup (.inl (.inl L2.upd_same)) (r.mono (gr_new h))) q
theorem PostL.here {μ : Mu} {vs : List V} {ds : List D} {Qd : List D → Mu → Prop} {Q : VK} (p : PostL K α H Qd Q) (s : Sat K α H μ) (r : RlAll K α H vs ds) (q : Qd ds μ) {a : Addr} (h : H a = none) : Q (.ref a) (upd H a (.lst vs)) :=
  p a α.length _ (α ++ [a]) μ ds (gr_push (Ext.new h)) s.fresh at_push (s.alloc h r) q

/-! ### combined judgements -/
variable {X : Cx}
structure PED (X : Cx) (e : Expr) (de : DTE) : Prop where
  ex : ∃ te, PE X e te ∧ SndE X.K te de
structure PLD (X : Cx) (e : Expr) (de : DTL) : Prop where
  ex : ∃ te, PE X e te ∧ SndL X.K te de
structure PTD (X : Cx) (e : Expr) (dt : DTT) : Prop where
  ex : ∃ tt, PT X e tt ∧ SndT X.K tt dt
structure PWD (X : Cx) (e : Expr) (dt : DTT) : Prop where
  ex : ∃ tt, PW X e tt ∧ SndT X.K tt dt
structure PAD (X : Cx) (es : List Expr) (da : DTA) : Prop where
  ex : ∃ ta, PA X es ta ∧ SndA X.K ta da

/-- a fresh list comes to stand in the store -/
def dNew (dl : DTL) : DTE := fun ρ μ Q => dl ρ μ fun xs μ' => ∀ k, μ' k = none → Q (.cell k) (μ'.upd k xs)
theorem de_new {e : Expr} {dl : DTL} (h : PLD X e dl) : PED X e (dNew dl) := by
  obtain ⟨te, pe, s⟩ := h.ex
  refine ⟨te, pe, fun α σ H ρ μ Qd Q S E q post => s α σ H ρ μ _ Q S E q fun p k H' α' μ' xs g n a S' q' => ?_⟩
  exact post _ _ _ _ (.cell k) g S' (.cell a) (q' k n)

/-! ### leaves -/
def dVar (i : Nat) : DTE := fun ρ μ Q => match ρ[i]? with | some (some d) => Q d μ | _ => False
def dC (d : D) : DTE := fun _ μ Q => Q d μ
theorem snd_var {i : Nat} : SndE K (tVar i) (dVar i) := fun α σ H ρ μ Qd Q S E h post => by
  unfold dVar at h
  split at h
  · rename_i d e
    obtain ⟨v, h1, h2⟩ := E.2 i d e
    exact ⟨v, h1, post.here S h2 h⟩
  · exact h.elim
theorem de_var (i : Nat) {x : Str} {pos : Pos} (hN : X.N[i]? = some x := by rfl) (hv : Vis X.env.scope x := by first | exact Or.inl rfl | exact Or.inr (Or.inl rfl) | exact Or.inr (Or.inr rfl)) (hd : (x == ("__debug__" : Str)) = false := by decide)
    (hcd : (x == ("__classdict__" : Str)) = false := by decide) : PED X (.Name x pos) (dVar i) := ⟨_, pe_var hN hv hd hcd, snd_var⟩
theorem snd_c {v : V} {d : D} (r : ∀ α H, Rl K α H v d) : SndE K (tC v) (dC d) := fun α σ H ρ μ Qd Q S E h post => post.here S (r α H) h
theorem de_int {i j pos} : PED X (.Constant (.int i) j pos) (dC (.int i)) := ⟨_, pe_int, snd_c fun _ _ => .int i⟩
theorem de_bl {b j pos} : PED X (.Constant (.bool b) j pos) (dC (.bl b)) := ⟨_, pe_bl, snd_c fun _ _ => .bl b⟩
theorem de_non {j pos} : PED X (.Constant .none j pos) (dC .non) := ⟨_, pe_non, snd_c fun _ _ => .non⟩
theorem de_str {x j pos} : PED X (.Constant (.str x) j pos) (dC (.str x)) := ⟨_, pe_str, snd_c fun _ _ => .str x⟩
/-- a constant of the module -/
structure Gc (K : PySem.W.Frag) (mg : Str → Option Value) (x : Str) (d : D) : Prop where
  ex : ∃ v u, mg x = some u ∧ RelV v u ∧ ∀ α H, Rl K α H v d
theorem de_glob {x : Str} {pos : Pos} {d : D} (g : Gc X.K X.mg x d) (hg : Gl X x := by rfl) (hd : (x == ("__debug__" : Str)) = false := by decide) : PED X (.Name x pos) (dC d) := by
  obtain ⟨v, u, h1, h2, h3⟩ := g.ex
  exact ⟨_, pe_glob hg h1 h2 hd, snd_c h3⟩
theorem de_ty {x : Str} {n : String} {pos : Pos} (hm : X.mg x = none) (hv : bootBuiltins x = some (.type n) := by decide +kernel) (hg : Gl X x := by rfl) (hn : x ≠ "__name__" := by decide) (hd : (x == ("__debug__" : Str)) = false := by decide) : PED X (.Name x pos) (dC (.ty n)) :=
  ⟨_, pe_bltn hg hm hv (show RelV (.ty n) _ from rfl) hn hd, snd_c fun _ _ => .ty n⟩

/-! ### operators -/
def dOp (rd : D → D → Mu → DK → Prop) (da db : DTE) : DTE := fun ρ μ Q => da ρ μ fun x μ1 => db ρ μ1 fun y μ2 => rd x y μ2 Q
def dOpL (rd : D → D → Mu → (List D → Mu → Prop) → Prop) (da db : DTE) : DTL := fun ρ μ Q => da ρ μ fun x μ1 => db ρ μ1 fun y μ2 => rd x y μ2 Q
def dUn (rd : D → Mu → DK → Prop) (da : DTE) : DTE := fun ρ μ Q => da ρ μ fun x μ1 => rd x μ1 Q
theorem snd_op {r : R2} {rd : D → D → Mu → DK → Prop} {ta tb : TE} {da db : DTE} (hr : SndR K r rd) (ha : SndE K ta da) (hb : SndE K tb db) : SndE K (tOp r ta tb) (dOp rd da db) := fun α σ H ρ μ Qd Q S E h post =>
  ha α σ H ρ μ _ _ S E h fun v1 H1 α1 μ1 d1 g1 s1 r1 q1 => hb α1 σ H1 ρ μ1 _ _ s1 (E.mono g1) q1 fun v2 H2 α2 μ2 d2 g2 s2 r2 q2 =>
    hr α2 H2 μ2 v1 v2 d1 d2 Qd Q s2 (r1.mono g2) r2 q2 (post.mono (g1.trans g2))
theorem snd_opL {r : R2} {rd : D → D → Mu → (List D → Mu → Prop) → Prop} {ta tb : TE} {da db : DTE} (hr : SndRL K r rd) (ha : SndE K ta da) (hb : SndE K tb db) : SndL K (tOp r ta tb) (dOpL rd da db) := fun α σ H ρ μ Qd Q S E h post =>
  ha α σ H ρ μ _ _ S E h fun v1 H1 α1 μ1 d1 g1 s1 r1 q1 => hb α1 σ H1 ρ μ1 _ _ s1 (E.mono g1) q1 fun v2 H2 α2 μ2 d2 g2 s2 r2 q2 =>
    hr α2 H2 μ2 v1 v2 d1 d2 Qd Q s2 (r1.mono g2) r2 q2 (post.mono (g1.trans g2))
theorem snd_un {r : V → Hp → VK → Prop} {rd : D → Mu → DK → Prop} {ta : TE} {da : DTE} (hr : SndU K r rd) (ha : SndE K ta da) : SndE K (tUn r ta) (dUn rd da) := fun α σ H ρ μ Qd Q S E h post =>
  ha α σ H ρ μ _ _ S E h fun v1 H1 α1 μ1 d1 g1 s1 r1 q1 => hr α1 H1 μ1 v1 d1 Qd Q s1 r1 q1 (post.mono g1)
/-- an operator's rule over data -/
structure OpD (X : Cx) (f : Value → Value → Sem Value) (rd : D → D → Mu → DK → Prop) : Prop where
  ex : ∃ r, OpR X f r ∧ SndR X.K r rd
structure OpLD (X : Cx) (f : Value → Value → Sem Value) (rd : D → D → Mu → (List D → Mu → Prop) → Prop) : Prop where
  ex : ∃ r, OpR X f r ∧ SndRL X.K r rd
theorem de_op {op : Operator} {rd : D → D → Mu → DK → Prop} {a b : Expr} {da db : DTE} {pos : Pos} (ho : OpD X (binaryOp op) rd) (ha : PED X a da) (hb : PED X b db) : PED X (.BinOp a op b pos) (dOp rd da db) := by
  obtain ⟨r, h1, h2⟩ := ho.ex
  obtain ⟨ta, a1, a2⟩ := ha.ex
  obtain ⟨tb, b1, b2⟩ := hb.ex
  exact ⟨_, pe_op h1 a1 b1, snd_op h2 a2 b2⟩
theorem dl_op {op : Operator} {rd : D → D → Mu → (List D → Mu → Prop) → Prop} {a b : Expr} {da db : DTE} {pos : Pos} (ho : OpLD X (binaryOp op) rd) (ha : PED X a da) (hb : PED X b db) : PLD X (.BinOp a op b pos) (dOpL rd da db) := by
  obtain ⟨r, h1, h2⟩ := ho.ex
  obtain ⟨ta, a1, a2⟩ := ha.ex
  obtain ⟨tb, b1, b2⟩ := hb.ex
  exact ⟨_, pe_op h1 a1 b1, snd_opL h2 a2 b2⟩
theorem de_cmp {op : CmpOp} {rd : D → D → Mu → DK → Prop} {a b : Expr} {da db : DTE} {pos : Pos} (ho : OpD X (compareOp op) rd) (ha : PED X a da) (hb : PED X b db) (hm : behindInMarks op b = false := by first | exact nomark _ | rfl) : PED X (.Compare a [op] [b] pos) (dOp rd da db) := by
  obtain ⟨r, h1, h2⟩ := ho.ex
  obtain ⟨ta, a1, a2⟩ := ha.ex
  obtain ⟨tb, b1, b2⟩ := hb.ex
  exact ⟨_, pe_cmpR h1 a1 b1 hm, snd_op h2 a2 b2⟩
def dTest (da : DTE) : DTT := fun ρ μ Q => da ρ μ fun x μ1 => match x with | .bl b => Q b μ1 | _ => False
theorem snd_test {t : TE} {da : DTE} (ha : SndE K t da) : SndT K (tTest t) (dTest da) := fun α σ H ρ μ Qd Q S E h post =>
  ha α σ H ρ μ _ _ S E h fun v1 H1 α1 μ1 d1 g1 s1 r1 q1 => by
    cases r1 with
    | bl b => exact ⟨b, rfl, post b H1 α1 μ1 g1 s1 q1⟩
    | _ => exact False.elim q1
theorem dt_cmp {op : CmpOp} {rd : D → D → Mu → DK → Prop} {a b : Expr} {da db : DTE} {pos : Pos} (ho : OpD X (compareOp op) rd) (ha : PED X a da) (hb : PED X b db) (hm : behindInMarks op b = false := by first | exact nomark _ | rfl) : PTD X (.Compare a [op] [b] pos) (dTest (dOp rd da db)) := by
  obtain ⟨r, h1, h2⟩ := ho.ex
  obtain ⟨ta, a1, a2⟩ := ha.ex
  obtain ⟨tb, b1, b2⟩ := hb.ex
  exact ⟨_, pt_cmpR h1 a1 b1 hm, snd_test (snd_op h2 a2 b2)⟩
theorem dt_val {e : Expr} {da : DTE} (h : PED X e da) (he : ∀ whole, isTrue e X.env whole = (do let v ← whole; standAt e.pos; holding [v] (truthy v)) := by intro _; rfl) : PTD X e (dTest da) := by
  obtain ⟨te, a1, a2⟩ := h.ex
  exact ⟨_, pt_val a1 he, snd_test a2⟩
/-- a op b op' c -/
def dChain (rd rd' : D → D → Mu → DK → Prop) (da db dc : DTE) : DTE := fun ρ μ Q => da ρ μ fun x μ1 => db ρ μ1 fun y μ2 => rd x y μ2 fun z μ3 => match z with
  | .bl b => if b = true then dc ρ μ3 fun w μ4 => rd' y w μ4 Q else Q (.bl false) μ3
  | _ => False
theorem snd_chain {r r' : R2} {rd rd' : D → D → Mu → DK → Prop} {ta tb tc : TE} {da db dc : DTE} (hr : SndR K r rd) (hr' : SndR K r' rd') (ha : SndE K ta da) (hb : SndE K tb db) (hc : SndE K tc dc) :
    SndE K (tChain r r' ta tb tc) (dChain rd rd' da db dc) := fun α σ H ρ μ Qd Q S E h post =>
  ha α σ H ρ μ _ _ S E h fun v1 H1 α1 μ1 d1 g1 s1 r1 q1 => hb α1 σ H1 ρ μ1 _ _ s1 (E.mono g1) q1 fun v2 H2 α2 μ2 d2 g2 s2 r2 q2 =>
    hr α2 H2 μ2 v1 v2 d1 d2 _ _ s2 (r1.mono g2) r2 q2 fun z H3 α3 μ3 dz g3 s3 r3 q3 => by
      cases r3 with
      | bl b =>
        refine ⟨b, rfl, ?_⟩
        cases b with
        | false => exact post _ _ _ _ _ ((g1.trans g2).trans g3) s3 (.bl false) q3
        | true => exact hc α3 σ H3 ρ μ3 _ _ s3 (((E.mono g1).mono g2).mono g3) q3 fun w H4 α4 μ4 dw g4 s4 r4 q4 => hr' α4 H4 μ4 v2 w d2 dw Qd Q s4 ((r2.mono g3).mono g4) r4 q4 (post.mono (((g1.trans g2).trans g3).trans g4))
      | _ => exact False.elim q3
theorem de_chain {op op' : CmpOp} {rd rd' : D → D → Mu → DK → Prop} {a b c : Expr} {da db dc : DTE} {pos : Pos} (ho : OpD X (compareOp op) rd) (ho' : OpD X (compareOp op') rd') (ha : PED X a da) (hb : PED X b db) (hc : PED X c dc)
    (hm : lastMarks [op, op'] [b, c] = false := by with_unfolding_all rfl) : PED X (.Compare a [op, op'] [b, c] pos) (dChain rd rd' da db dc) := by
  obtain ⟨r, h1, h2⟩ := ho.ex
  obtain ⟨r', h3, h4⟩ := ho'.ex
  obtain ⟨ta, a1, a2⟩ := ha.ex
  obtain ⟨tb, b1, b2⟩ := hb.ex
  obtain ⟨tc, c1, c2⟩ := hc.ex
  exact ⟨_, pe_chain h1 h3 a1 b1 c1 hm, snd_chain h2 h4 a2 b2 c2⟩
theorem dt_chain {op op' : CmpOp} {rd rd' : D → D → Mu → DK → Prop} {a b c : Expr} {da db dc : DTE} {pos : Pos} (ho : OpD X (compareOp op) rd) (ho' : OpD X (compareOp op') rd') (ha : PED X a da) (hb : PED X b db) (hc : PED X c dc)
    (hm : lastMarks [op, op'] [b, c] = false := by with_unfolding_all rfl) : PTD X (.Compare a [op, op'] [b, c] pos) (dTest (dChain rd rd' da db dc)) := by
  obtain ⟨r, h1, h2⟩ := ho.ex
  obtain ⟨r', h3, h4⟩ := ho'.ex
  obtain ⟨ta, a1, a2⟩ := ha.ex
  obtain ⟨tb, b1, b2⟩ := hb.ex
  obtain ⟨tc, c1, c2⟩ := hc.ex
  exact ⟨_, pt_chain h1 h3 a1 b1 c1 hm, snd_test (snd_chain h2 h4 a2 b2 c2)⟩

/-! ### and, or, not, if -/
def dAnd (da db : DTE) : DTE := fun ρ μ Q => da ρ μ fun x μ1 => match x with | .bl b => (if b = true then db ρ μ1 Q else Q (.bl false) μ1) | _ => False
def dOr (da db : DTE) : DTE := fun ρ μ Q => da ρ μ fun x μ1 => match x with | .bl b => (if b = true then Q (.bl true) μ1 else db ρ μ1 Q) | _ => False
def dNot (da : DTE) : DTE := fun ρ μ Q => da ρ μ fun x μ1 => match x with | .bl b => Q (.bl (!b)) μ1 | _ => False
def dIf (dt : DTT) (da db : DTE) : DTE := fun ρ μ Q => dt ρ μ fun b μ1 => if b = true then da ρ μ1 Q else db ρ μ1 Q
def dIfL (dt : DTT) (da db : DTL) : DTL := fun ρ μ Q => dt ρ μ fun b μ1 => if b = true then da ρ μ1 Q else db ρ μ1 Q
theorem snd_and {ta tb : TE} {da db : DTE} (ha : SndE K ta da) (hb : SndE K tb db) : SndE K (tAndV ta tb) (dAnd da db) := fun α σ H ρ μ Qd Q S E h post =>
  ha α σ H ρ μ _ _ S E h fun v1 H1 α1 μ1 d1 g1 s1 r1 q1 => by
    cases r1 with
    | bl b =>
      refine ⟨b, rfl, ?_⟩
      cases b with
      | false => exact post _ _ _ _ _ g1 s1 (.bl false) q1
      | true => exact hb α1 σ H1 ρ μ1 _ _ s1 (E.mono g1) q1 (post.mono g1)
    | _ => exact False.elim q1
theorem snd_or {ta tb : TE} {da db : DTE} (ha : SndE K ta da) (hb : SndE K tb db) : SndE K (tOrV ta tb) (dOr da db) := fun α σ H ρ μ Qd Q S E h post =>
  ha α σ H ρ μ _ _ S E h fun v1 H1 α1 μ1 d1 g1 s1 r1 q1 => by
    cases r1 with
    | bl b =>
      refine ⟨b, rfl, ?_⟩
      cases b with
      | true => exact post _ _ _ _ _ g1 s1 (.bl true) q1
      | false => exact hb α1 σ H1 ρ μ1 _ _ s1 (E.mono g1) q1 (post.mono g1)
    | _ => exact False.elim q1
theorem snd_not {ta : TE} {da : DTE} (ha : SndE K ta da) : SndE K (tNotV ta) (dNot da) := fun α σ H ρ μ Qd Q S E h post =>
  ha α σ H ρ μ _ _ S E h fun v1 H1 α1 μ1 d1 g1 s1 r1 q1 => by
    cases r1 with
    | bl b => exact ⟨b, rfl, post _ _ _ _ _ g1 s1 (.bl _) q1⟩
    | _ => exact False.elim q1
theorem snd_if {tt : TT} {ta tb : TE} {dt : DTT} {da db : DTE} (ht : SndT K tt dt) (ha : SndE K ta da) (hb : SndE K tb db) : SndE K (tIf tt ta tb) (dIf dt da db) := fun α σ H ρ μ Qd Q S E h post =>
  ht α σ H ρ μ _ _ S E h fun b H1 α1 μ1 g1 s1 q1 => by
    cases b with
    | true => exact ha α1 σ H1 ρ μ1 _ _ s1 (E.mono g1) q1 (post.mono g1)
    | false => exact hb α1 σ H1 ρ μ1 _ _ s1 (E.mono g1) q1 (post.mono g1)
theorem snd_ifL {tt : TT} {ta tb : TE} {dt : DTT} {da db : DTL} (ht : SndT K tt dt) (ha : SndL K ta da) (hb : SndL K tb db) : SndL K (tIf tt ta tb) (dIfL dt da db) := fun α σ H ρ μ Qd Q S E h post =>
  ht α σ H ρ μ _ _ S E h fun b H1 α1 μ1 g1 s1 q1 => by
    cases b with
    | true => exact ha α1 σ H1 ρ μ1 _ _ s1 (E.mono g1) q1 (post.mono g1)
    | false => exact hb α1 σ H1 ρ μ1 _ _ s1 (E.mono g1) q1 (post.mono g1)
theorem de_one {op} {a : Expr} {pos : Pos} {da : DTE} (h : PED X a da) : PED X (.BoolOp op [a] pos) da := by
  obtain ⟨te, a1, a2⟩ := h.ex
  exact ⟨te, pe_one a1, a2⟩
theorem de_and {a b : Expr} {rest : List Expr} {pos : Pos} {da db : DTE} (ha : PED X a da) (hb : PED X (.BoolOp .And (b :: rest) pos) db) : PED X (.BoolOp .And (a :: b :: rest) pos) (dAnd da db) := by
  obtain ⟨ta, a1, a2⟩ := ha.ex
  obtain ⟨tb, b1, b2⟩ := hb.ex
  exact ⟨_, pe_and a1 b1, snd_and a2 b2⟩
theorem de_or {a b : Expr} {rest : List Expr} {pos : Pos} {da db : DTE} (ha : PED X a da) (hb : PED X (.BoolOp .Or (b :: rest) pos) db) : PED X (.BoolOp .Or (a :: b :: rest) pos) (dOr da db) := by
  obtain ⟨ta, a1, a2⟩ := ha.ex
  obtain ⟨tb, b1, b2⟩ := hb.ex
  exact ⟨_, pe_or a1 b1, snd_or a2 b2⟩
theorem de_not {a : Expr} {pos : Pos} {da : DTE} (ha : PED X a da) : PED X (.UnaryOp .Not a pos) (dNot da) := by
  obtain ⟨ta, a1, a2⟩ := ha.ex
  exact ⟨_, pe_not a1, snd_not a2⟩
theorem de_if {c a b : Expr} {pos : Pos} {dt : DTT} {da db : DTE} (hc : PTD X c dt) (ha : PED X a da) (hb : PED X b db) : PED X (.IfExp c a b pos) (dIf dt da db) := by
  obtain ⟨tt, c1, c2⟩ := hc.ex
  obtain ⟨ta, a1, a2⟩ := ha.ex
  obtain ⟨tb, b1, b2⟩ := hb.ex
  exact ⟨_, pe_ifExp c1 a1 b1, snd_if c2 a2 b2⟩
theorem dl_if {c a b : Expr} {pos : Pos} {dt : DTT} {da db : DTL} (hc : PTD X c dt) (ha : PLD X a da) (hb : PLD X b db) : PLD X (.IfExp c a b pos) (dIfL dt da db) := by
  obtain ⟨tt, c1, c2⟩ := hc.ex
  obtain ⟨ta, a1, a2⟩ := ha.ex
  obtain ⟨tb, b1, b2⟩ := hb.ex
  exact ⟨_, pe_ifExp c1 a1 b1, snd_ifL c2 a2 b2⟩
/-- as tests -/
def dtAnd (da db : DTT) : DTT := fun ρ μ Q => da ρ μ fun b μ1 => if b = true then db ρ μ1 Q else Q false μ1
def dtOr (da db : DTT) : DTT := fun ρ μ Q => da ρ μ fun b μ1 => if b = true then Q true μ1 else db ρ μ1 Q
def dtNot (da : DTT) : DTT := fun ρ μ Q => da ρ μ fun b μ1 => Q (!b) μ1
theorem PWD.pt {e : Expr} {dt : DTT} (h : PWD X e dt) : PTD X e dt := by
  obtain ⟨tt, c1, c2⟩ := h.ex
  exact ⟨tt, c1.pt, c2⟩
theorem dw_and1 {a : Expr} {pos : Pos} {da : DTT} (ha : PTD X a da) : PWD X (.BoolOp .And [a] pos) da := by
  obtain ⟨ta, a1, a2⟩ := ha.ex
  exact ⟨_, pw_and1 a1, a2⟩
theorem dw_or1 {a : Expr} {pos : Pos} {da : DTT} (ha : PTD X a da) : PWD X (.BoolOp .Or [a] pos) da := by
  obtain ⟨ta, a1, a2⟩ := ha.ex
  exact ⟨_, pw_or1 a1, a2⟩
theorem dw_and {a b : Expr} {rest : List Expr} {pos : Pos} {da db : DTT} (ha : PTD X a da) (hb : PWD X (.BoolOp .And (b :: rest) pos) db) : PWD X (.BoolOp .And (a :: b :: rest) pos) (dtAnd da db) := by
  obtain ⟨ta, a1, a2⟩ := ha.ex
  obtain ⟨tb, b1, b2⟩ := hb.ex
  refine ⟨_, pw_and a1 b1, fun α σ H ρ μ Qd Q S E h post => a2 α σ H ρ μ _ _ S E h fun b H1 α1 μ1 g1 s1 q1 => ?_⟩
  cases b with
  | true => exact b2 α1 σ H1 ρ μ1 _ _ s1 (E.mono g1) q1 (post.mono g1)
  | false => exact post _ _ _ _ g1 s1 q1
theorem dw_or {a b : Expr} {rest : List Expr} {pos : Pos} {da db : DTT} (ha : PTD X a da) (hb : PWD X (.BoolOp .Or (b :: rest) pos) db) : PWD X (.BoolOp .Or (a :: b :: rest) pos) (dtOr da db) := by
  obtain ⟨ta, a1, a2⟩ := ha.ex
  obtain ⟨tb, b1, b2⟩ := hb.ex
  refine ⟨_, pw_or a1 b1, fun α σ H ρ μ Qd Q S E h post => a2 α σ H ρ μ _ _ S E h fun b H1 α1 μ1 g1 s1 q1 => ?_⟩
  cases b with
  | false => exact b2 α1 σ H1 ρ μ1 _ _ s1 (E.mono g1) q1 (post.mono g1)
  | true => exact post _ _ _ _ g1 s1 q1
theorem dt_not {a : Expr} {pos : Pos} {da : DTT} (ha : PTD X a da) : PTD X (.UnaryOp .Not a pos) (dtNot da) := by
  obtain ⟨ta, a1, a2⟩ := ha.ex
  exact ⟨_, pt_not a1, fun α σ H ρ μ Qd Q S E h post => a2 α σ H ρ μ _ _ S E h fun b H1 α1 μ1 g1 s1 q1 => post _ _ _ _ g1 s1 q1⟩

/-! ### argument lists, displays -/
def daNil : DTA := fun _ μ Q => Q [] μ
def daCons (de : DTE) (dr : DTA) : DTA := fun ρ μ Q => de ρ μ fun x μ1 => dr ρ μ1 fun xs μ2 => Q (x :: xs) μ2
theorem da_nil : PAD X [] daNil := ⟨_, pa_nil, fun α σ H ρ μ Qd Q S E h post => post _ _ _ _ _ (Gr.refl α H) S .nil h⟩
theorem snd_cons {te : TE} {tr : TA} {de : DTE} {dr : DTA} (h1 : SndE K te de) (h2 : SndA K tr dr) : SndA K (tCons te tr) (daCons de dr) := fun α σ H ρ μ Qd Q S E h post =>
  h1 α σ H ρ μ _ _ S E h fun v1 H1 α1 μ1 d1 g1 s1 r1 q1 => h2 α1 σ H1 ρ μ1 _ _ s1 (E.mono g1) q1 fun vs H2 α2 μ2 ds g2 s2 r2 q2 => post _ _ _ _ _ (g1.trans g2) s2 (.cons (r1.mono g2) r2) q2
theorem da_cons {e : Expr} {es : List Expr} {de : DTE} {dr : DTA} (he : PED X e de) (hr : PAD X es dr) (hs : starEach (e :: es) X.env = (false, eval e X.env) :: starEach es X.env := by rfl) : PAD X (e :: es) (daCons de dr) := by
  obtain ⟨te, a1, a2⟩ := he.ex
  obtain ⟨tr, b1, b2⟩ := hr.ex
  exact ⟨_, pa_cons a1 b1 hs, snd_cons a2 b2⟩
def dTup (da : DTA) : DTE := fun ρ μ Q => da ρ μ fun xs μ1 => xs.length ≤ sizeLine ∧ Q (.tup xs) μ1
def dLst (da : DTA) : DTL := fun ρ μ Q => da ρ μ fun xs μ1 => xs.length ≤ sizeLine ∧ Q xs μ1
theorem de_tup {es : List Expr} {da : DTA} {x1} {pos : Pos} (h : PAD X es da) : PED X (.Tuple es x1 pos) (dTup da) := by
  obtain ⟨ta, a1, a2⟩ := h.ex
  refine ⟨_, pe_tup a1, fun α σ H ρ μ Qd Q S E h post => a2 α σ H ρ μ _ _ S E h fun vs H1 α1 μ1 ds g1 s1 r1 q1 => ⟨by rw [r1.length]; exact q1.1, fun p hp => ?_⟩⟩
  exact (post.mono g1).tup s1 r1 q1.2 hp
theorem dl_lst {es : List Expr} {da : DTA} {pos : Pos} (h : PAD X es da) : PLD X (.List es pos) (dLst da) := by
  obtain ⟨ta, a1, a2⟩ := h.ex
  refine ⟨_, pe_lst a1, fun α σ H ρ μ Qd Q S E h post => a2 α σ H ρ μ _ _ S E h fun vs H1 α1 μ1 ds g1 s1 r1 q1 => ⟨by rw [r1.length]; exact q1.1, fun p hp => ?_⟩⟩
  exact (post.mono g1).here s1 r1 q1.2 hp

/-! ### operators, case by case -/
def rdI (C : Int → Int → Prop) (g : Int → Int → D) : D → D → Mu → DK → Prop := fun x y μ Q => match x, y with | .int i, .int j => C i j ∧ Q (g i j) μ | _, _ => False
def rdI0 (g : Int → Int → D) : D → D → Mu → DK → Prop := fun x y μ Q => match x, y with | .int i, .int j => Q (g i j) μ | _, _ => False
theorem snd_I {C : Int → Int → Prop} {g : Int → Int → V} {gd : Int → Int → D} (hg : ∀ i j α H, Rl K α H (g i j) (gd i j)) : SndR K (rI C g) (rdI C gd) := fun α H μ x y dx dy Qd Q S rx ry h post => by
  cases rx with
  | int i =>
    cases ry with
    | int j => exact ⟨i, j, rfl, rfl, h.1, post.here S (hg i j α H) h.2⟩
    | _ => exact False.elim h
  | _ => exact False.elim h
theorem snd_I0 {g : Int → Int → V} {gd : Int → Int → D} (hg : ∀ i j α H, Rl K α H (g i j) (gd i j)) : SndR K (rI0 g) (rdI0 gd) := fun α H μ x y dx dy Qd Q S rx ry h post => by
  cases rx with
  | int i =>
    cases ry with
    | int j => exact ⟨i, j, rfl, rfl, post.here S (hg i j α H) h⟩
    | _ => exact False.elim h
  | _ => exact False.elim h
abbrev oAdd := rdI0 fun i j => D.int (i + j)
abbrev oSub := rdI0 fun i j => D.int (i - j)
/-- a size that no sum of ours reaches -/
def bigN : Nat := 2 ^ 4000
theorem lt_big {n : Nat} (h : n < 2 ^ 250) : n < bigN := Nat.lt_trans h (Nat.pow_lt_pow_right (by decide) (by decide))
def MulOk (i j : Int) : Prop := (-(2 ^ 64) < i ∧ i < 2 ^ 64) ∨ (-(2 ^ 64) < j ∧ j < 2 ^ 64) ∨ (i.natAbs < bigN ∧ j.natAbs < bigN)
def DivOk (_ j : Int) : Prop := 0 < j ∧ j.natAbs < bigN
abbrev oMul := rdI MulOk fun i j => D.int (i * j)
abbrev oDiv := rdI DivOk fun i j => D.int (i / j)
abbrev oMod := rdI (fun _ j => 0 < j) fun i j => D.int (i % j)
abbrev oPow := rdI CPow fun i j => D.int (i ^ j.toNat)
abbrev oLt := rdI0 fun i j => D.bl (decide (i < j))
abbrev oLe := rdI0 fun i j => D.bl (decide (i ≤ j))
abbrev oGt := rdI0 fun i j => D.bl (decide (j < i))
abbrev oGe := rdI0 fun i j => D.bl (decide (j ≤ i))
theorem o_add : OpD X (binaryOp .Add) oAdd := ⟨_, op_add, snd_I0 fun _ _ _ _ => .int _⟩
theorem o_sub : OpD X (binaryOp .Sub) oSub := ⟨_, op_sub, snd_I0 fun _ _ _ _ => .int _⟩
theorem o_mul : OpD X (binaryOp .Mult) oMul := ⟨_, OpR.or op_mul op_mulW, fun α H μ x y dx dy Qd Q S rx ry h post => by
  cases rx with
  | int i =>
    cases ry with
    | int j =>
      obtain ⟨hc, h⟩ := h
      rcases hc with hc | hc | hc
      · exact .inl ⟨i, j, rfl, rfl, .inl hc, post.here S (.int _) h⟩
      · exact .inl ⟨i, j, rfl, rfl, .inr hc, post.here S (.int _) h⟩
      · exact .inr ⟨i, j, rfl, rfl, wide_mul hc.1 hc.2 (by decide) (by decide) (by decide), post.here S (.int _) h⟩
    | _ => exact False.elim h
  | _ => exact False.elim h⟩
theorem o_div : OpD X (binaryOp .FloorDiv) oDiv := ⟨_, op_fdivW, fun α H μ x y dx dy Qd Q S rx ry h post => by
  cases rx with
  | int i =>
    cases ry with
    | int j =>
      obtain ⟨hc, h⟩ := h
      exact ⟨i, j, rfl, rfl, wide_div hc.1 hc.2 (by decide) (by decide), post.here S (.int _) h⟩
    | _ => exact False.elim h
  | _ => exact False.elim h⟩
theorem o_mod : OpD X (binaryOp .Mod) oMod := ⟨_, op_mod, snd_I fun _ _ _ _ => .int _⟩
theorem o_pow : OpD X (binaryOp .Pow) oPow := ⟨_, op_pow, snd_I fun _ _ _ _ => .int _⟩
theorem o_lt : OpD X (compareOp .Lt) oLt := ⟨_, op_lt, snd_I0 fun _ _ _ _ => .bl _⟩
theorem o_le : OpD X (compareOp .LtE) oLe := ⟨_, op_le, snd_I0 fun _ _ _ _ => .bl _⟩
theorem o_gt : OpD X (compareOp .Gt) oGt := ⟨_, op_gt, snd_I0 fun _ _ _ _ => .bl _⟩
theorem o_ge : OpD X (compareOp .GtE) oGe := ⟨_, op_ge, snd_I0 fun _ _ _ _ => .bl _⟩
/-- -a -/
def uNeg : D → Mu → DK → Prop := fun x μ Q => match x with | .int i => Q (.int (-i)) μ | _ => False
theorem de_neg {a : Expr} {pos : Pos} {da : DTE} (ha : PED X a da) : PED X (.UnaryOp .USub a pos) (dUn uNeg da) := by
  obtain ⟨ta, a1, a2⟩ := ha.ex
  refine ⟨_, pe_un un_neg a1, snd_un (fun α H μ x dx Qd Q S r h post => ?_) a2⟩
  cases r with
  | int i => exact ⟨i, rfl, post.here S (.int _) h⟩
  | _ => exact False.elim h
/-- is None, is not None -/
def D.isNon : D → Bool
  | .non => true
  | _ => false
def oIsN : D → D → Mu → DK → Prop := fun x y μ Q => match y with | .non => Q (.bl x.isNon) μ | _ => False
def oNotN : D → D → Mu → DK → Prop := fun x y μ Q => match y with | .non => Q (.bl (!x.isNon)) μ | _ => False
theorem Rl.isNon {v : V} {d : D} (r : Rl K α H v d) : decide (v = .non) = d.isNon := by
  cases r <;> first | rfl | exact decide_eq_false (fun z => nomatch z)
theorem o_isN : OpD X (compareOp .Is) oIsN := ⟨_, op_isN, fun α H μ x y dx dy Qd Q S rx ry h post => by
  cases ry with
  | non => exact ⟨rfl, by rw [rx.isNon]; exact post.here S (.bl _) h⟩
  | _ => exact False.elim h⟩
theorem o_notN : OpD X (compareOp .IsNot) oNotN := ⟨_, op_notN, fun α H μ x y dx dy Qd Q S rx ry h post => by
  cases ry with
  | non => exact ⟨rfl, by rw [rx.isNon]; exact post.here S (.bl _) h⟩
  | _ => exact False.elim h⟩
end
end Dl
/-! Dat2: readings over plain data: equality, items, calls of built-ins. -/
namespace Dl
open PySem PySem.Spec PyProof.Rows L2
variable {K : PySem.W.Frag} {α α1 : List Addr} {H H1 : Hp} {X : Cx}

/-! ### data as a tree -/
mutual
inductive Rs (μ : Mu) : D → PyData → Prop
  | non : Rs μ .non .none
  | bl (b : Bool) : Rs μ (.bl b) (.bool b)
  | int (i : Int) : Rs μ (.int i) (.int i)
  | str (x : Str) : Rs μ (.str x) (.str x)
  | tup {ds : List D} {ps : List PyData} : RsAll μ ds ps → Rs μ (.tup ds) (.tuple ps)
  | frz {ds : List D} {ps : List PyData} : RsAll μ ds ps → Rs μ (.frz ds) (.list ps)
  | cell {k : Nat} {ds : List D} {ps : List PyData} : μ k = some ds → RsAll μ ds ps → Rs μ (.cell k) (.list ps)
inductive RsAll (μ : Mu) : List D → List PyData → Prop
  | nil : RsAll μ [] []
  | cons {d : D} {ds : List D} {p : PyData} {ps : List PyData} : Rs μ d p → RsAll μ ds ps → RsAll μ (d :: ds) (p :: ps)
end
mutual
theorem Rl.dp {μ : Mu} (S : Sat K α H μ) : ∀ {d : D} {p : PyData} {v : V}, Rs μ d p → Rl K α H v d → Dp K H v p
  | _, _, _, .non, .non => .non
  | _, _, _, .bl b, .bl _ => .bl b
  | _, _, _, .int i, .int _ => .int i
  | _, _, _, .str x, .str _ => .str x
  | _, _, _, .tup r, .tup q r' => .tup q (Rl.dpAll S r r')
  | _, _, _, .frz r, .frz q r' => .lst q.seq (Rl.dpAll S r r')
  | _, _, _, .cell e r, .cell q => by
    obtain ⟨a, vs, h1, h2, h3⟩ := S.cell _ _ e
    rw [q] at h1
    cases h1
    exact .lst (.inl (.inl h2)) (Rl.dpAll S r h3)
theorem Rl.dpAll {μ : Mu} (S : Sat K α H μ) : ∀ {ds : List D} {ps : List PyData} {vs : List V}, RsAll μ ds ps → RlAll K α H vs ds → DpAll K H vs ps
  | _, _, _, .nil, .nil => .nil
  | _, _, _, .cons a b, .cons a' b' => .cons (Rl.dp S a a') (Rl.dpAll S b b')
end
/-- == of data -/
def deepEq (neg : Bool) (x y : D) (μ : Mu) (Q : DK) : Prop := ∃ p q, Rs μ x p ∧ Rs μ y q ∧ SeqAt.shaped p = true ∧ SeqAt.shaped q = true ∧ Q (.bl (if neg then !PyData.eqv p q else PyData.eqv p q)) μ
def oEq : D → D → Mu → DK → Prop := fun x y μ Q => match x, y with
  | .int i, .int j => Q (.bl (decide (i = j))) μ
  | .str i, .str j => Q (.bl (decide (i = j))) μ
  | .bl i, .bl j => Q (.bl (decide (i = j))) μ
  | x, y => deepEq false x y μ Q
def oNe : D → D → Mu → DK → Prop := fun x y μ Q => match x, y with
  | .int i, .int j => Q (.bl (!decide (i = j))) μ
  | .str i, .str j => Q (.bl (!decide (i = j))) μ
  | .bl i, .bl j => Q (.bl (!decide (i = j))) μ
  | x, y => deepEq true x y μ Q
theorem dec_inj {α β : Type} [DecidableEq α] [DecidableEq β] (f : α → β) (inj : ∀ a b, f a = f b → a = b) (a b : α) : decide (f a = f b) = decide (a = b) := by
  by_cases h : a = b
  · subst h
    simp
  · rw [decide_eq_false h, decide_eq_false fun e => h (inj _ _ e)]
theorem o_eq (hu : X.A.units + 64 < cLine) : OpD X (compareOp .Eq) oEq := by
  refine ⟨_, OpR.or op_eq (op_eqD hu), fun α H μ x y dx dy Qd Q S rx ry h post => ?_⟩
  have deep : deepEq false dx dy μ Qd → rEqD X.K x y H Q := fun ⟨p, q, h1, h2, h3, h4, h5⟩ => ⟨p, q, rx.dp S h1, ry.dp S h2, h3, h4, post.here S (.bl _) h5⟩
  unfold oEq at h
  split at h
  · cases rx; cases ry
    exact .inl ⟨rfl, by rw [dec_inj V.int (fun _ _ e => V.int.inj e)]; exact post.here S (.bl _) h⟩
  · cases rx; cases ry
    exact .inl ⟨rfl, by rw [dec_inj V.str (fun _ _ e => V.str.inj e)]; exact post.here S (.bl _) h⟩
  · cases rx; cases ry
    exact .inl ⟨rfl, by rw [dec_inj V.bl (fun _ _ e => V.bl.inj e)]; exact post.here S (.bl _) h⟩
  · exact .inr (deep h)
theorem o_ne (hu : X.A.units + 64 < cLine) : OpD X (compareOp .NotEq) oNe := by
  refine ⟨_, OpR.or op_ne (op_neD hu), fun α H μ x y dx dy Qd Q S rx ry h post => ?_⟩
  have deep : deepEq true dx dy μ Qd → rNeD X.K x y H Q := fun ⟨p, q, h1, h2, h3, h4, h5⟩ => ⟨p, q, rx.dp S h1, ry.dp S h2, h3, h4, post.here S (.bl _) h5⟩
  unfold oNe at h
  split at h
  · cases rx; cases ry
    exact .inl ⟨rfl, by rw [dec_inj V.int (fun _ _ e => V.int.inj e)]; exact post.here S (.bl _) h⟩
  · cases rx; cases ry
    exact .inl ⟨rfl, by rw [dec_inj V.str (fun _ _ e => V.str.inj e)]; exact post.here S (.bl _) h⟩
  · cases rx; cases ry
    exact .inl ⟨rfl, by rw [dec_inj V.bl (fun _ _ e => V.bl.inj e)]; exact post.here S (.bl _) h⟩
  · exact .inr (deep h)

/-! ### places -/
theorem RlAll.atI {vs : List V} {ds : List D} {i : Int} {d : D} (r : RlAll K α H vs ds) (h : atI ds i = some d) : ∃ v, atI vs i = some v ∧ Rl K α H v d := by
  unfold L2.atI at h ⊢
  rw [r.length]
  cases e : ixN ds.length i with
  | none =>
    rw [e] at h
    cases h
  | some j =>
    rw [e] at h
    exact r.get h
def oIx : D → D → Mu → DK → Prop := fun x y μ Q => match items μ x, y with
  | some ds, .int i => (match atI ds i with | some d => Q d μ | none => False)
  | _, _ => False
theorem snd_ix : SndR K (fun x y H Q => rIxL K x y H Q ∨ rIxT K x y H Q) oIx := fun α H μ x y dx dy Qd Q S rx ry h post => by
  unfold oIx at h
  split at h
  · rename_i ds i e
    split at h
    · rename_i d e2
      cases ry
      obtain ⟨a, vs, rfl, q, r⟩ := S.seq rx e
      obtain ⟨v, h1, h2⟩ := r.atI e2
      rcases q with q | q
      · exact .inl ⟨a, vs, i, v, rfl, rfl, q, h1, post.here S h2 h⟩
      · exact .inr ⟨a, vs, i, v, rfl, rfl, q, h1, post.here S h2 h⟩
    · exact h.elim
  · exact h.elim
theorem de_ix {a b : Expr} {pos : Pos} {da db : DTE} (ha : PED X a da) (hb : PED X b db) (hs : PlainIx b := by exact fun _ _ => rfl) : PED X (.Subscript a b pos) (dOp oIx da db) := by
  obtain ⟨ta, a1, a2⟩ := ha.ex
  obtain ⟨tb, b1, b2⟩ := hb.ex
  exact ⟨_, pe_ix (IxR.or ix_list ix_tup) a1 b1 hs, snd_op snd_ix a2 b2⟩

/-! ### calls of built-ins -/
structure CallD (X : Cx) (f : Value) (rd : List D → Mu → DK → Prop) : Prop where
  ex : ∃ r, CallR X f r ∧ SndC X.K r rd
structure CallLD (X : Cx) (f : Value) (rd : List D → Mu → (List D → Mu → Prop) → Prop) : Prop where
  ex : ∃ r, CallR X f r ∧ SndCL X.K r rd
def dCall (rd : List D → Mu → DK → Prop) (da : DTA) : DTE := fun ρ μ Q => da ρ μ fun ds μ1 => rd ds μ1 Q
def dCallF (rd : List D → Mu → (List D → Mu → Prop) → Prop) (da : DTA) : DTL := fun ρ μ Q => da ρ μ fun ds μ1 => rd ds μ1 Q
theorem snd_call {r : List V → Hp → VK → Prop} {rd : List D → Mu → DK → Prop} {ta : TA} {da : DTA} (hr : SndC K r rd) (ha : SndA K ta da) : SndE K (tCB r ta) (dCall rd da) := fun α σ H ρ μ Qd Q S E h post =>
  ha α σ H ρ μ _ _ S E h fun vs H1 α1 μ1 ds g1 s1 r1 q1 => hr α1 H1 μ1 vs ds Qd Q s1 r1 q1 (post.mono g1)
theorem snd_callF {r : List V → Hp → VK → Prop} {rd : List D → Mu → (List D → Mu → Prop) → Prop} {ta : TA} {da : DTA} (hr : SndCL K r rd) (ha : SndA K ta da) : SndL K (tCB r ta) (dCallF rd da) := fun α σ H ρ μ Qd Q S E h post =>
  ha α σ H ρ μ _ _ S E h fun vs H1 α1 μ1 ds g1 s1 r1 q1 => hr α1 H1 μ1 vs ds Qd Q s1 r1 q1 (post.mono g1)
section
variable {x : Str} {p pos : Pos} {e : Expr} {es : List Expr} {id T : String} {da : DTA}
theorem de_callB {rd : List D → Mu → DK → Prop} (hc : CallD X (.builtin id) rd) (hm : X.mg x = none) (hv : bootBuiltins x = some (.builtin id)) (ha : PAD X (e :: es) da) (hg : Gl X x := by rfl) (hn : x ≠ "__name__" := by decide) (hdb : (x == ("__debug__" : Str)) = false := by decide)
    (he : starEach (e :: es) X.env = (false, eval e X.env) :: starEach es X.env := by rfl) (hpl : (backTo pos (starEach es X.env)).any (·.1) = false := by rfl) : PED X (.Call (.Name x p) (e :: es) [] pos) (dCall rd da) := by
  obtain ⟨r, h1, h2⟩ := hc.ex
  obtain ⟨ta, a1, a2⟩ := ha.ex
  exact ⟨_, pe_callB h1 hg hm hv a1 hn hdb he hpl, snd_call h2 a2⟩
theorem de_callTy {rd : List D → Mu → DK → Prop} (hc : CallD X (.type T) rd) (hm : X.mg x = none) (hv : bootBuiltins x = some (.type T)) (ha : PAD X (e :: es) da) (hg : Gl X x := by rfl) (hn : x ≠ "__name__" := by decide) (hdb : (x == ("__debug__" : Str)) = false := by decide)
    (he : starEach (e :: es) X.env = (false, eval e X.env) :: starEach es X.env := by rfl) (hpl : (backTo pos (starEach es X.env)).any (·.1) = false := by rfl) : PED X (.Call (.Name x p) (e :: es) [] pos) (dCall rd da) := by
  obtain ⟨r, h1, h2⟩ := hc.ex
  obtain ⟨ta, a1, a2⟩ := ha.ex
  exact ⟨_, pe_callTy h1 hg hm hv a1 hn hdb he hpl, snd_call h2 a2⟩
theorem dl_callB {rd : List D → Mu → (List D → Mu → Prop) → Prop} (hc : CallLD X (.builtin id) rd) (hm : X.mg x = none) (hv : bootBuiltins x = some (.builtin id)) (ha : PAD X (e :: es) da) (hg : Gl X x := by rfl) (hn : x ≠ "__name__" := by decide) (hdb : (x == ("__debug__" : Str)) = false := by decide)
    (he : starEach (e :: es) X.env = (false, eval e X.env) :: starEach es X.env := by rfl) (hpl : (backTo pos (starEach es X.env)).any (·.1) = false := by rfl) : PLD X (.Call (.Name x p) (e :: es) [] pos) (dCallF rd da) := by
  obtain ⟨r, h1, h2⟩ := hc.ex
  obtain ⟨ta, a1, a2⟩ := ha.ex
  exact ⟨_, pe_callB h1 hg hm hv a1 hn hdb he hpl, snd_callF h2 a2⟩
theorem dl_callTy {rd : List D → Mu → (List D → Mu → Prop) → Prop} (hc : CallLD X (.type T) rd) (hm : X.mg x = none) (hv : bootBuiltins x = some (.type T)) (ha : PAD X (e :: es) da) (hg : Gl X x := by rfl) (hn : x ≠ "__name__" := by decide) (hdb : (x == ("__debug__" : Str)) = false := by decide)
    (he : starEach (e :: es) X.env = (false, eval e X.env) :: starEach es X.env := by rfl) (hpl : (backTo pos (starEach es X.env)).any (·.1) = false := by rfl) : PLD X (.Call (.Name x p) (e :: es) [] pos) (dCallF rd da) := by
  obtain ⟨r, h1, h2⟩ := hc.ex
  obtain ⟨ta, a1, a2⟩ := ha.ex
  exact ⟨_, pe_callTy h1 hg hm hv a1 hn hdb he hpl, snd_callF h2 a2⟩
end
/-- f(xs) that reads one list (or tuple), by what it holds; tp: tuples too -/
structure SeqD (X : Cx) (f : Value) (tp : Bool) (rs : List D → Mu → DK → Prop) : Prop where
  ex : ∃ r, CallR X f r ∧ ∀ α H μ p vs xs Qd (Q : VK), Sat X.K α H μ → (SqL X.K H p vs ∨ (tp = true ∧ SqT X.K H p vs)) → RlAll X.K α H vs xs → rs xs μ Qd → PostE X.K α H Qd Q → r [.ref p] H Q
structure SeqLD (X : Cx) (f : Value) (tp : Bool) (rs : List D → Mu → (List D → Mu → Prop) → Prop) : Prop where
  ex : ∃ r, CallR X f r ∧ ∀ α H μ p vs xs Qd (Q : VK), Sat X.K α H μ → (SqL X.K H p vs ∨ (tp = true ∧ SqT X.K H p vs)) → RlAll X.K α H vs xs → rs xs μ Qd → PostL X.K α H Qd Q → r [.ref p] H Q
def sitems (tp : Bool) (μ : Mu) (d : D) : Option (List D) := if tp then items μ d else litems μ d
theorem Sat.sitems {tp : Bool} {μ : Mu} {v : V} {d : D} {xs : List D} (S : Sat K α H μ) (r : Rl K α H v d) (h : sitems tp μ d = some xs) : ∃ a vs, v = .ref a ∧ (SqL K H a vs ∨ (tp = true ∧ SqT K H a vs)) ∧ RlAll K α H vs xs := by
  unfold Dl.sitems at h
  cases tp with
  | true =>
    obtain ⟨a, vs, e, q, r⟩ := S.seq r (by simpa using h)
    exact ⟨a, vs, e, q.imp id fun z => ⟨rfl, z⟩, r⟩
  | false =>
    obtain ⟨a, vs, e, q, r⟩ := S.list r (by simpa using h)
    exact ⟨a, vs, e, .inl q, r⟩
def dSeq1 (tp : Bool) (rs : List D → Mu → DK → Prop) : List D → Mu → DK → Prop := fun ds μ Q => match ds with | [x] => (match sitems tp μ x with | some xs => rs xs μ Q | none => False) | _ => False
def dSeqL1 (tp : Bool) (rs : List D → Mu → (List D → Mu → Prop) → Prop) : List D → Mu → (List D → Mu → Prop) → Prop := fun ds μ Q => match ds with | [x] => (match sitems tp μ x with | some xs => rs xs μ Q | none => False) | _ => False
theorem SeqD.call {f : Value} {tp : Bool} {rs : List D → Mu → DK → Prop} (h : SeqD X f tp rs) : CallD X f (dSeq1 tp rs) := by
  obtain ⟨r, h1, h2⟩ := h.ex
  refine ⟨r, h1, fun α H μ vs ds Qd Q S rr h post => ?_⟩
  cases rr with
  | nil => exact False.elim h
  | cons a b =>
    cases b with
    | cons _ _ => exact False.elim h
    | nil =>
      unfold dSeq1 at h
      dsimp only at h
      split at h
      · rename_i xs e
        obtain ⟨p, vs, rfl, q, r⟩ := S.sitems a e
        exact h2 α H μ p vs xs Qd Q S q r h post
      · exact False.elim h
theorem SeqLD.call {f : Value} {tp : Bool} {rs : List D → Mu → (List D → Mu → Prop) → Prop} (h : SeqLD X f tp rs) : CallLD X f (dSeqL1 tp rs) := by
  obtain ⟨r, h1, h2⟩ := h.ex
  refine ⟨r, h1, fun α H μ vs ds Qd Q S rr h post => ?_⟩
  cases rr with
  | nil => exact False.elim h
  | cons a b =>
    cases b with
    | cons _ _ => exact False.elim h
    | nil =>
      unfold dSeqL1 at h
      dsimp only at h
      split at h
      · rename_i xs e
        obtain ⟨p, vs, rfl, q, r⟩ := S.sitems a e
        exact h2 α H μ p vs xs Qd Q S q r h post
      · exact False.elim h
/-- f([..]): the fresh list is read and dropped -/
def dOf (rs : List D → Mu → DK → Prop) (dl : DTL) : DTE := fun ρ μ Q => dl ρ μ fun xs μ1 => rs xs μ1 Q
def dOfL (rs : List D → Mu → (List D → Mu → Prop) → Prop) (dl : DTL) : DTL := fun ρ μ Q => dl ρ μ fun xs μ1 => rs xs μ1 Q
theorem fresh_of {μ : Mu} {k : Nat} {p : Addr} {xs : List D} (n : μ k = none) (a : α[k]? = some p) (S : Sat K α H (μ.upd k xs)) : Sat K α H μ ∧ ∃ vs, H p = some (.lst vs) ∧ RlAll K α H vs xs := by
  refine ⟨S.sub (Mu.sub_upd n), ?_⟩
  obtain ⟨b, vs, h1, h2, h3⟩ := S.cell k xs Mu.upd_same
  rw [a] at h1
  cases h1
  exact ⟨vs, h2, h3⟩
section
variable {x : Str} {p pos : Pos} {e : Expr} {id T : String} {dl : DTL} {tp : Bool}
theorem de_ofB {rs : List D → Mu → DK → Prop} (hc : SeqD X (.builtin id) tp rs) (hm : X.mg x = none) (hv : bootBuiltins x = some (.builtin id)) (ha : PLD X e dl) (hg : Gl X x := by rfl) (hn : x ≠ "__name__" := by decide) (hdb : (x == ("__debug__" : Str)) = false := by decide)
    (he : starEach [e] X.env = (false, eval e X.env) :: starEach [] X.env := by rfl) (hpl : (backTo pos (starEach [] X.env)).any (·.1) = false := by rfl) : PED X (.Call (.Name x p) [e] [] pos) (dOf rs dl) := by
  obtain ⟨r, h1, h2⟩ := hc.ex
  obtain ⟨ta, a1, a2⟩ := ha.ex
  refine ⟨_, pe_callB h1 hg hm hv (pa_cons a1 pa_nil he) hn hdb he hpl, fun α σ H ρ μ Qd Q S E h post => a2 α σ H ρ μ _ _ S E h fun p k H1 α1 μ1 xs g1 n1 l1 s1 q1 => ?_⟩
  obtain ⟨s2, vs, hp, r1⟩ := fresh_of n1 l1 s1
  exact h2 α1 H1 μ1 p vs xs Qd Q s2 (.inl (.inl (.inl hp))) r1 q1 (post.mono g1)
theorem de_ofTy {rs : List D → Mu → DK → Prop} (hc : SeqD X (.type T) tp rs) (hm : X.mg x = none) (hv : bootBuiltins x = some (.type T)) (ha : PLD X e dl) (hg : Gl X x := by rfl) (hn : x ≠ "__name__" := by decide) (hdb : (x == ("__debug__" : Str)) = false := by decide)
    (he : starEach [e] X.env = (false, eval e X.env) :: starEach [] X.env := by rfl) (hpl : (backTo pos (starEach [] X.env)).any (·.1) = false := by rfl) : PED X (.Call (.Name x p) [e] [] pos) (dOf rs dl) := by
  obtain ⟨r, h1, h2⟩ := hc.ex
  obtain ⟨ta, a1, a2⟩ := ha.ex
  refine ⟨_, pe_callTy h1 hg hm hv (pa_cons a1 pa_nil he) hn hdb he hpl, fun α σ H ρ μ Qd Q S E h post => a2 α σ H ρ μ _ _ S E h fun p k H1 α1 μ1 xs g1 n1 l1 s1 q1 => ?_⟩
  obtain ⟨s2, vs, hp, r1⟩ := fresh_of n1 l1 s1
  exact h2 α1 H1 μ1 p vs xs Qd Q s2 (.inl (.inl (.inl hp))) r1 q1 (post.mono g1)
theorem dl_ofB {rs : List D → Mu → (List D → Mu → Prop) → Prop} (hc : SeqLD X (.builtin id) tp rs) (hm : X.mg x = none) (hv : bootBuiltins x = some (.builtin id)) (ha : PLD X e dl) (hg : Gl X x := by rfl) (hn : x ≠ "__name__" := by decide) (hdb : (x == ("__debug__" : Str)) = false := by decide)
    (he : starEach [e] X.env = (false, eval e X.env) :: starEach [] X.env := by rfl) (hpl : (backTo pos (starEach [] X.env)).any (·.1) = false := by rfl) : PLD X (.Call (.Name x p) [e] [] pos) (dOfL rs dl) := by
  obtain ⟨r, h1, h2⟩ := hc.ex
  obtain ⟨ta, a1, a2⟩ := ha.ex
  refine ⟨_, pe_callB h1 hg hm hv (pa_cons a1 pa_nil he) hn hdb he hpl, fun α σ H ρ μ Qd Q S E h post => a2 α σ H ρ μ _ _ S E h fun p k H1 α1 μ1 xs g1 n1 l1 s1 q1 => ?_⟩
  obtain ⟨s2, vs, hp, r1⟩ := fresh_of n1 l1 s1
  exact h2 α1 H1 μ1 p vs xs Qd Q s2 (.inl (.inl (.inl hp))) r1 q1 (post.mono g1)
end

/-! ### the built-ins -/
theorem rl1 {vs : List V} {d : D} (r : RlAll K α H vs [d]) : ∃ v, vs = [v] ∧ Rl K α H v d := by
  cases r with
  | cons a b => cases b; exact ⟨_, rfl, a⟩
theorem rl2 {vs : List V} {d e : D} (r : RlAll K α H vs [d, e]) : ∃ v w, vs = [v, w] ∧ Rl K α H v d ∧ Rl K α H w e := by
  cases r with
  | cons a b =>
    obtain ⟨w, rfl, r2⟩ := rl1 b
    exact ⟨_, w, rfl, a, r2⟩
def cAbs : List D → Mu → DK → Prop := fun ds μ Q => match ds with | [.int i] => Q (.int (i.natAbs : Int)) μ | _ => False
theorem c_abs : CallD X (.builtin "abs") cAbs := ⟨_, call_abs, fun α H μ vs ds Qd Q S r h post => by
  unfold cAbs at h
  split at h
  · rename_i i
    obtain ⟨v, rfl, r1⟩ := rl1 r
    cases r1
    refine ⟨i, rfl, ?_⟩
    rw [show (if i < 0 then -i else i) = (i.natAbs : Int) by split <;> omega]
    exact post.here S (.int _) h
  · exact h.elim⟩
def cMax : List D → Mu → DK → Prop := fun ds μ Q => match ds with | [.int i, .int j] => Q (.int (max i j)) μ | _ => False
def cMin : List D → Mu → DK → Prop := fun ds μ Q => match ds with | [.int i, .int j] => Q (.int (min i j)) μ | _ => False
theorem c_max (hc : X.calm = true) : CallD X (.builtin "max") cMax := ⟨_, call_max2 hc, fun α H μ vs ds Qd Q S r h post => by
  unfold cMax at h
  split at h
  · rename_i i j
    obtain ⟨v, w, rfl, r1, r2⟩ := rl2 r
    cases r1; cases r2
    refine ⟨i, j, rfl, ?_⟩
    rw [show (if j > i then j else i) = max i j by split <;> omega]
    exact post.here S (.int _) h
  · exact h.elim⟩
theorem c_min (hc : X.calm = true) : CallD X (.builtin "min") cMin := ⟨_, call_min2 hc, fun α H μ vs ds Qd Q S r h post => by
  unfold cMin at h
  split at h
  · rename_i i j
    obtain ⟨v, w, rfl, r1, r2⟩ := rl2 r
    cases r1; cases r2
    refine ⟨i, j, rfl, ?_⟩
    rw [show (if j < i then j else i) = min i j by split <;> omega]
    exact post.here S (.int _) h
  · exact h.elim⟩
def cInt : List D → Mu → DK → Prop := fun ds μ Q => match ds with | [.int i] => Q (.int i) μ | _ => False
theorem c_int : CallD X (.type "int") cInt := ⟨_, call_int1, fun α H μ vs ds Qd Q S r h post => by
  unfold cInt at h
  split at h
  · rename_i i
    obtain ⟨v, rfl, r1⟩ := rl1 r
    cases r1
    exact .inl ⟨i, rfl, post.here S (.int _) h⟩
  · exact h.elim⟩
def cDivmod : List D → Mu → DK → Prop := fun ds μ Q => match ds with | [.int i, .int j] => CDiv i j ∧ Q (.tup [.int (i / j), .int (i % j)]) μ | _ => False
theorem c_divmod : CallD X (.builtin "divmod") cDivmod := ⟨_, call_divmod, fun α H μ vs ds Qd Q S r h post => by
  unfold cDivmod at h
  split at h
  · rename_i i j
    obtain ⟨v, w, rfl, r1, r2⟩ := rl2 r
    cases r1; cases r2
    exact ⟨i, j, rfl, h.1, fun p hp => post.tup S (.cons (.int _) (.cons (.int _) .nil)) h.2 hp⟩
  · exact h.elim⟩
def sLen : List D → Mu → DK → Prop := fun xs μ Q => Q (.int (xs.length : Nat)) μ
theorem s_len : SeqD X (.builtin "len") true sLen := ⟨_, call_len_seq, fun α H μ p vs xs Qd Q S q r h post => ⟨p, vs, rfl, q.imp id And.right, by rw [r.length]; exact post.here S (.int _) h⟩⟩
def sTup : List D → Mu → DK → Prop := fun xs μ Q => Q (.tup xs) μ
theorem s_tup : SeqD X (.type "tuple") true sTup := ⟨_, call_tuple_of, fun α H μ p vs xs Qd Q S q r h post => ⟨p, vs, rfl, by
  rcases q with q | ⟨_, q⟩
  · exact .inl ⟨q, fun l hl => post.tup S r h hl⟩
  · exact .inr ⟨q, post.here S (.tup q r) h⟩⟩⟩
def sLst : List D → Mu → (List D → Mu → Prop) → Prop := fun xs μ Q => Q xs μ
theorem s_lst : SeqLD X (.type "list") true sLst := ⟨_, call_list_of, fun α H μ p vs xs Qd Q S q r h post => ⟨p, vs, rfl, q.imp id And.right, fun l hl => post.here S r h hl⟩⟩
def sSum : List D → Mu → DK → Prop := fun xs μ Q => ∃ ns : List Int, xs = ns.map D.int ∧ Q (.int ns.sum) μ
theorem s_sum (hc : X.calm = true) : SeqD X (.builtin "sum") false sSum := ⟨_, cr_sum hc, fun α H μ p vs xs Qd Q S q r h post => by
  obtain ⟨ns, rfl, h⟩ := h
  have e := r.ints
  subst e
  exact ⟨p, ns, rfl, q.resolve_right (fun z => nomatch z.1), post.here S (.int _) h⟩⟩
def sAll : List D → Mu → DK → Prop := fun xs μ Q => ∃ bs : List Bool, xs = bs.map D.bl ∧ Q (.bl (bs.all id)) μ
def sAny : List D → Mu → DK → Prop := fun xs μ Q => ∃ bs : List Bool, xs = bs.map D.bl ∧ Q (.bl (bs.any id)) μ
theorem s_all (hc : X.calm = true) : SeqD X (.builtin "all") false sAll := ⟨_, cr_all hc, fun α H μ p vs xs Qd Q S q r h post => by
  obtain ⟨ns, rfl, h⟩ := h
  have e := r.bls
  subst e
  exact ⟨p, ns, rfl, q.resolve_right (fun z => nomatch z.1), post.here S (.bl _) h⟩⟩
theorem s_any (hc : X.calm = true) : SeqD X (.builtin "any") false sAny := ⟨_, cr_any hc, fun α H μ p vs xs Qd Q S q r h post => by
  obtain ⟨ns, rfl, h⟩ := h
  have e := r.bls
  subst e
  exact ⟨p, ns, rfl, q.resolve_right (fun z => nomatch z.1), post.here S (.bl _) h⟩⟩
/-- len of a text too -/
def sMax : List D → Mu → DK → Prop := fun xs μ Q => ∃ ns : List Int, xs = ns.map D.int ∧ 0 < ns.length ∧ ∀ m, m ∈ ns → (∀ y, y ∈ ns → y ≤ m) → Q (.int m) μ
def sMin : List D → Mu → DK → Prop := fun xs μ Q => ∃ ns : List Int, xs = ns.map D.int ∧ 0 < ns.length ∧ ∀ m, m ∈ ns → (∀ y, y ∈ ns → m ≤ y) → Q (.int m) μ
theorem s_max (hc : X.calm = true) : SeqD X (.builtin "max") false sMax := ⟨_, cr_max hc, fun α H μ p vs xs Qd Q S q r h post => by
  obtain ⟨ns, rfl, h0, h⟩ := h
  have e := r.ints
  subst e
  exact ⟨p, ns, rfl, q.resolve_right (fun z => nomatch z.1), h0, fun m h1 h2 => post.here S (.int _) (h m h1 h2)⟩⟩
theorem s_min (hc : X.calm = true) : SeqD X (.builtin "min") false sMin := ⟨_, cr_min hc, fun α H μ p vs xs Qd Q S q r h post => by
  obtain ⟨ns, rfl, h0, h⟩ := h
  have e := r.ints
  subst e
  exact ⟨p, ns, rfl, q.resolve_right (fun z => nomatch z.1), h0, fun m h1 h2 => post.here S (.int _) (h m h1 h2)⟩⟩

/-! ### isinstance -/
def tyD (μ : Mu) : D → Option String
  | .non => some "NoneType"
  | .bl _ => some "bool"
  | .int _ => some "int"
  | .str _ => some "str"
  | .tup _ => some "tuple"
  | .frz _ => some "list"
  | .cell k => (μ k).map fun _ => "list"
  | .ty _ => none
  | .emp => some "dict"
theorem Rl.tyX {μ : Mu} {v : V} {d : D} {t : String} (S : Sat K α H μ) (r : Rl K α H v d) (h : tyD μ d = some t) : TyX K H v (.type t) := by
  cases r with
  | non => cases h; exact .base .non
  | bl b => cases h; exact .base (.bl b)
  | int i => cases h; exact .base (.int i)
  | str x => cases h; exact .base (.str x)
  | ty n => cases h
  | emp q => cases h; exact .base (.dK q)
  | tup q r =>
    cases h
    rcases q with (q | ⟨o, q⟩) | ⟨o, its, n, q, hc, _⟩
    · exact .base (.tup q)
    · exact .fTuple q
    · exact .kTuple q hc
  | frz q r =>
    cases h
    rcases q with ⟨o, q⟩ | q
    · exact .base (.frz q)
    · rcases q with (q | ⟨o, q⟩) | ⟨o, its, n, q, hc, _⟩
      · cases q
      · cases q
      · exact .kList q hc
  | @cell a k q =>
    cases e : μ k with
    | none =>
      rw [tyD, e] at h
      cases h
    | some xs =>
      rw [tyD, e] at h
      cases h
      obtain ⟨b, vs, h1, h2, h3⟩ := S.cell _ _ e
      rw [q] at h1
      cases h1
      exact .base (.lst h2)
def cIsi : List D → Mu → DK → Prop := fun ds μ Q => match ds with
  | [x, .ty n] => (match tyD μ x with | some t => (match kitB t n with | some b => Q (.bl b) μ | none => False) | none => False)
  | _ => False
theorem c_isi : CallD X (.builtin "isinstance") cIsi := ⟨_, call_isi, fun α H μ vs ds Qd Q S r h post => by
  unfold cIsi at h
  split at h
  · rename_i x n
    obtain ⟨v, w, rfl, r1, r2⟩ := rl2 r
    split at h
    · rename_i t e
      split at h
      · rename_i b e2
        cases r2
        exact ⟨v, .ty n, .type t, .type n, b, rfl, .ty n, r1.tyX S e, kit_ty e2, post.here S (.bl b) h⟩
      · exact h.elim
    · exact h.elim
  · exact h.elim⟩

/-! ### in, not in: numbers -/
def oIn (neg : Bool) : D → D → Mu → DK → Prop := fun x y μ Q => match x with
  | .int i => ∃ ns : List Int, items μ y = some (ns.map D.int) ∧ Q (.bl (if neg then !decide (i ∈ ns) else decide (i ∈ ns))) μ
  | _ => False
theorem inV_ints (i : Int) (ns : List Int) : inV (.int i) (ns.map V.int) = decide (i ∈ ns) := by
  unfold inV
  induction ns with
  | nil => simp
  | cons n ns ih =>
    rw [List.map_cons, List.any_cons, ih]
    have e : eqV (.int n) (.int i) = decide (n = i) := by
      by_cases h : n = i <;> simp [eqV, h]
    rw [e]
    by_cases h : n = i
    · subst h; simp
    · have h2 : ¬ i = n := fun z => h z.symm
      simp [h, h2]
theorem flat_ints (ns : List Int) : (ns.map V.int).all flatV = true := by
  rw [List.all_map, List.all_eq_true]
  intro x _
  rfl
theorem snd_in (neg : Bool) : SndR K (rIn K neg) (oIn neg) := fun α H μ x y dx dy Qd Q S rx ry h post => by
  unfold oIn at h
  split at h
  · rename_i i
    obtain ⟨ns, e, h⟩ := h
    obtain ⟨a, vs, rfl, q, r⟩ := S.seq ry e
    have e2 := r.ints
    subst e2
    cases rx
    refine ⟨a, _, rfl, q, rfl, flat_ints ns, ?_⟩
    rw [inV_ints]
    exact post.here S (.bl _) h
  · exact h.elim
theorem o_in : OpD X (compareOp .In) (oIn false) := ⟨_, op_in_seq, snd_in false⟩
theorem o_notIn : OpD X (compareOp .NotIn) (oIn true) := ⟨_, op_notIn_seq, snd_in true⟩

/-! ### tuples and lists put together, cut -/
def oCatT : D → D → Mu → DK → Prop := fun x y μ Q => match x, y with | .tup xs, .tup ys => xs.length + ys.length ≤ sizeLine ∧ Q (.tup (xs ++ ys)) μ | _, _ => False
theorem o_catT : OpD X (binaryOp .Add) oCatT := ⟨_, op_catA, fun α H μ x y dx dy Qd Q S rx ry h post => by
  unfold oCatT at h
  split at h
  · rename_i xs ys
    cases rx with
    | tup q r =>
      cases ry with
      | tup q' r' =>
        refine ⟨_, _, _, _, rfl, rfl, q, q', by rw [r.length, r'.length]; exact h.1, fun e => ?_, fun e e' => ?_, fun e e' p hp => ?_⟩
        · subst e
          have e2 := r.nilV
          subst e2
          exact post.here S (.tup q' r') h.2
        · subst e'
          have e2 := r'.nilV
          subst e2
          rw [List.append_nil] at h
          exact post.here S (.tup q r) h.2
        · exact post.tup S (r.append r') h.2 hp
  · exact h.elim⟩
def oCatL : D → D → Mu → (List D → Mu → Prop) → Prop := fun x y μ Q => match x, y with
  | .cell j, .cell k => (match μ j, μ k with | some xs, some ys => xs.length + ys.length ≤ sizeLine ∧ Q (xs ++ ys) μ | _, _ => False)
  | _, _ => False
theorem o_catL : OpLD X (binaryOp .Add) oCatL := ⟨_, op_cat, fun α H μ x y dx dy Qd Q S rx ry h post => by
  unfold oCatL at h
  split at h
  · rename_i j k
    split at h
    · rename_i xs ys e1 e2
      cases rx with
      | cell q =>
        cases ry with
        | cell q' =>
          obtain ⟨a, vs, h1, h2, h3⟩ := S.cell _ _ e1
          obtain ⟨b, ws, k1, k2, k3⟩ := S.cell _ _ e2
          rw [q] at h1
          rw [q'] at k1
          cases h1; cases k1
          exact ⟨_, _, _, _, rfl, rfl, h2, k2, by rw [h3.length, k3.length]; exact h.1, fun p hp => post.here S (h3.append k3) h.2 hp⟩
    · exact h.elim
  · exact h.elim⟩
def oRep : D → D → Mu → (List D → Mu → Prop) → Prop := fun x y μ Q => match x, y with
  | .cell j, .int n => (match μ j with | some xs => (-(2 ^ 63) ≤ n ∧ n < 2 ^ 63 ∧ xs.length * n.toNat ≤ sizeLine) ∧ Q (List.replicate n.toNat xs).flatten μ | _ => False)
  | _, _ => False
theorem o_rep : OpLD X (binaryOp .Mult) oRep := ⟨_, op_rep, fun α H μ x y dx dy Qd Q S rx ry h post => by
  unfold oRep at h
  split at h
  · rename_i j n
    split at h
    · rename_i xs e1
      cases rx with
      | cell q =>
        cases ry with
        | int n =>
          obtain ⟨a, vs, h1, h2, h3⟩ := S.cell _ _ e1
          rw [q] at h1
          cases h1
          exact ⟨_, n, _, rfl, rfl, h2, h.1.1, h.1.2.1, by rw [h3.length]; exact h.1.2.2, fun p hp => post.here S (h3.flat _) h.2 hp⟩
    · exact h.elim
  · exact h.elim⟩
/-- parts of slices -/
abbrev DTO := Rho → Mu → (Option Int → Mu → Prop) → Prop
structure POD (X : Cx) (e : Option Expr) (d : DTO) : Prop where
  ex : ∃ t, PO X e t ∧ ∀ α σ H ρ μ Qd (Q : Option Int → Hp → Prop), Sat X.K α H μ → EnvOk X.K α H σ ρ → d ρ μ Qd → (∀ o H' α' μ', Gr α H α' H' → Sat X.K α' H' μ' → Qd o μ' → Q o H') → t σ H Q
def doNone : DTO := fun _ μ Q => Q none μ
def doSome (de : DTE) : DTO := fun ρ μ Q => de ρ μ fun x μ1 => match x with | .int i => Q (some i) μ1 | _ => False
theorem do_none : POD X none doNone := ⟨_, po_none, fun α σ H ρ μ Qd Q S E h post => post _ _ _ _ (Gr.refl α H) S h⟩
theorem do_some {e : Expr} {de : DTE} (h : PED X e de) : POD X (some e) (doSome de) := by
  obtain ⟨te, a1, a2⟩ := h.ex
  refine ⟨_, po_some a1, fun α σ H ρ μ Qd Q S E h post => a2 α σ H ρ μ _ _ S E h fun v H1 α1 μ1 d g1 s1 r1 q1 => ?_⟩
  cases r1 with
  | int i => exact ⟨i, rfl, post _ _ _ _ g1 s1 q1⟩
  | _ => exact False.elim q1
/-- xs[lo:hi] of what stands at a list -/
def cutD (xs : List D) (lo hi : Option Int) : List D := (xs.drop (HT.sIx xs.length 0 lo)).take (HT.sIx xs.length xs.length hi - HT.sIx xs.length 0 lo)
theorem RlAll.cut {vs : List V} {ds : List D} (r : RlAll K α H vs ds) (lo hi : Option Int) : RlAll K α H (cutV vs lo hi) (cutD ds lo hi) := by
  unfold cutV cutD
  rw [r.length]
  exact (r.drop _).take _
def dSlL (de : DTE) (d1 d2 : DTO) : DTL := fun ρ μ Q => de ρ μ fun x μ1 => d1 ρ μ1 fun lo μ2 => d2 ρ μ2 fun hi μ3 => match litems μ3 x with | some xs => Q (cutD xs lo hi) μ3 | none => False
theorem dl_slice {e : Expr} {lo hi : Option Expr} {p2 pos : Pos} {de : DTE} {d1 d2 : DTO} (he : PED X e de) (h1 : POD X lo d1) (h2 : POD X hi d2) : PLD X (.Subscript e (.Slice lo hi none p2) pos) (dSlL de d1 d2) := by
  obtain ⟨te, a1, a2⟩ := he.ex
  obtain ⟨t1, b1, b2⟩ := h1.ex
  obtain ⟨t2, c1, c2⟩ := h2.ex
  refine ⟨_, pe_slice sl_list a1 b1 c1, fun α σ H ρ μ Qd Q S E h post => a2 α σ H ρ μ _ _ S E h fun v H1 α1 μ1 d g1 s1 r1 q1 =>
    b2 α1 σ H1 ρ μ1 _ _ s1 (E.mono g1) q1 fun o1 H2 α2 μ2 g2 s2 q2 => c2 α2 σ H2 ρ μ2 _ _ s2 ((E.mono g1).mono g2) q2 fun o2 H3 α3 μ3 g3 s3 q3 => ?_⟩
  split at q3
  · rename_i xs ex
    obtain ⟨a, vs, rfl, q, r⟩ := s3.list ((r1.mono g2).mono g3) ex
    exact ⟨a, vs, rfl, q, fun p hp => (post.mono ((g1.trans g2).trans g3)).here s3 (r.cut o1 o2) q3 hp⟩
  · exact False.elim q3
def dSlT (de : DTE) (d1 d2 : DTO) : DTE := fun ρ μ Q => de ρ μ fun x μ1 => d1 ρ μ1 fun lo μ2 => d2 ρ μ2 fun hi μ3 => match x with | .tup xs => Q (.tup (cutD xs lo hi)) μ3 | _ => False
theorem cut_all {β : Type} (xs : List β) (a b : Nat) (h0 : a = 0) (h1 : b = xs.length) : (xs.drop a).take (b - a) = xs := by
  subst h0 h1
  rw [List.drop_zero, Nat.sub_zero, List.take_length]
theorem de_sliceT {e : Expr} {lo hi : Option Expr} {p2 pos : Pos} {de : DTE} {d1 d2 : DTO} (he : PED X e de) (h1 : POD X lo d1) (h2 : POD X hi d2) : PED X (.Subscript e (.Slice lo hi none p2) pos) (dSlT de d1 d2) := by
  obtain ⟨te, a1, a2⟩ := he.ex
  obtain ⟨t1, b1, b2⟩ := h1.ex
  obtain ⟨t2, c1, c2⟩ := h2.ex
  refine ⟨_, pe_slice sl_tupA a1 b1 c1, fun α σ H ρ μ Qd Q S E h post => a2 α σ H ρ μ _ _ S E h fun v H1 α1 μ1 d g1 s1 r1 q1 =>
    b2 α1 σ H1 ρ μ1 _ _ s1 (E.mono g1) q1 fun o1 H2 α2 μ2 g2 s2 q2 => c2 α2 σ H2 ρ μ2 _ _ s2 ((E.mono g1).mono g2) q2 fun o2 H3 α3 μ3 g3 s3 q3 => ?_⟩
  have post3 := post.mono ((g1.trans g2).trans g3)
  have r3 := (r1.mono g2).mono g3
  cases r3 with
  | @tup a vs ds q r =>
    refine ⟨a, vs, rfl, q, fun w => ?_, fun _ p hp => post3.tup s3 (r.cut o1 o2) q3 hp⟩
    have e : cutD ds o1 o2 = ds := cut_all ds _ _ (by rw [← r.length]; exact w.1) (by rw [← r.length]; exact w.2)
    dsimp only at q3
    rw [e] at q3
    exact post3.here s3 (.tup q r) q3
  | _ => exact False.elim q3
end Dl
/-! Dat3: readings over plain data: statements, loops, comprehensions. -/
namespace Dl
open PySem PySem.Spec PyProof.Rows L2
variable {K : PySem.W.Frag} {α α1 : List Addr} {H H1 : Hp} {X : Cx}

structure DEnds where
  nx : Rho → Mu → Prop
  rt : DK
  bk : Rho → Mu → Prop := fun _ _ => False
  ct : Rho → Mu → Prop := fun _ _ => False
abbrev DTS := DEnds → Rho → Mu → Prop
/-- a mark whose kind names x: a simplifier told to let dependent arguments be (-dsimp) does not look into x -/
class Lk {β : Sort _} (x : β) : Type where
instance (priority := low) lkAll {β : Sort _} (x : β) : Lk x := ⟨⟩
def PostS (K : PySem.W.Frag) (α : List Addr) (H : Hp) (Qd : Rho → Mu → Prop) (Q : L2.St → Hp → Prop) : Prop := ∀ σ' H' α' ρ' μ', Gr α H α' H' → Sat K α' H' μ' → EnvOk K α' H' σ' ρ' → Qd ρ' μ' → Q σ' H'
theorem PostS.mono {Qd : Rho → Mu → Prop} {Q : L2.St → Hp → Prop} (g : Gr α H α1 H1) (p : PostS K α H Qd Q) : PostS K α1 H1 Qd Q := fun σ' H' α' ρ' μ' g' => p σ' H' α' ρ' μ' (g.trans g')
structure EndsOk (K : PySem.W.Frag) (α : List Addr) (H : Hp) (D : DEnds) (E : Ends) : Prop where
  nx : PostS K α H D.nx E.nx
  rt : PostE K α H D.rt E.rt
  bk : PostS K α H D.bk E.bk
  ct : PostS K α H D.ct E.ct
theorem EndsOk.mono {D : DEnds} {E : Ends} (g : Gr α H α1 H1) (e : EndsOk K α H D E) : EndsOk K α1 H1 D E := ⟨e.nx.mono g, e.rt.mono g, e.bk.mono g, e.ct.mono g⟩
def SndS (K : PySem.W.Frag) (ts : TS) (ds : DTS) : Prop := ∀ α σ H ρ μ (D : DEnds) (E : Ends), Sat K α H μ → EnvOk K α H σ ρ → ds D ρ μ → EndsOk K α H D E → ts E σ H
structure PSD (X : Cx) (st : Stmt) (ds : DTS) : Prop where
  ex : ∃ ts, PS X st ts ∧ SndS X.K ts ds
structure PSSD (X : Cx) (st : List Stmt) (ds : DTS) : Prop where
  ex : ∃ ts, PSs X st ts ∧ SndS X.K ts ds

def dNext : DTS := fun D ρ μ => D.nx ρ μ
/-- behind each statement what is known of the store may be less -/
def seqAt (t u : DTS) (D : DEnds) (ρ : Rho) (μ : Mu) [Lk t] [Lk u] [Lk D] : Prop := t { D with nx := fun ρ1 μ1 => ∃ μ2, Mu.Sub μ2 μ1 ∧ u D ρ1 μ2 } ρ μ
def dSeq (t u : DTS) [Lk t] [Lk u] : DTS := fun D ρ μ => seqAt t u D ρ μ
theorem dSeq_at (t u : DTS) (D : DEnds) (ρ : Rho) (μ : Mu) : dSeq t u D ρ μ = seqAt t u D ρ μ := rfl
theorem snd_next : SndS K tNext dNext := fun α σ H ρ μ D E S e h post => post.nx σ H α ρ μ (Gr.refl α H) S e h
theorem dss_nil : PSSD X [] dNext := ⟨_, pss_nil, snd_next⟩
theorem dss_cons {st : Stmt} {rest : List Stmt} {t u : DTS} (h1 : PSD X st t) (h2 : PSSD X rest u) : PSSD X (st :: rest) (dSeq t u) := by
  obtain ⟨t1, a1, a2⟩ := h1.ex
  obtain ⟨t2, b1, b2⟩ := h2.ex
  exact ⟨_, pss_cons a1 b1, fun α σ H ρ μ D E S e h post => a2 α σ H ρ μ _ _ S e h ⟨fun σ' H' α' ρ' μ' g S' e' ⟨μ2, sb, h'⟩ => b2 α' σ' H' ρ' μ2 D E (S'.sub sb) e' h' (post.mono g), post.rt, post.bk, post.ct⟩⟩
theorem dss_one {st : Stmt} {t : DTS} (h1 : PSD X st t) : PSSD X [st] t := by
  obtain ⟨t1, a1, a2⟩ := h1.ex
  exact ⟨_, pss_one a1, a2⟩
theorem ds_pass {pos : Pos} : PSD X (.Pass pos) dNext := ⟨_, ps_pass, snd_next⟩
def dBreak : DTS := fun D ρ μ => D.bk ρ μ
def dCont : DTS := fun D ρ μ => D.ct ρ μ
theorem ds_break {pos : Pos} : PSD X (.Break pos) dBreak := ⟨_, ps_break, fun α σ H ρ μ D E S e h post => post.bk σ H α ρ μ (Gr.refl α H) S e h⟩
theorem ds_continue {pos : Pos} : PSD X (.Continue pos) dCont := ⟨_, ps_continue, fun α σ H ρ μ D E S e h post => post.ct σ H α ρ μ (Gr.refl α H) S e h⟩
def dNever : DTS := fun _ _ _ => False
theorem ds_never {st : Stmt} : PSD X st dNever := ⟨_, ps_never, fun _ _ _ _ _ _ _ _ _ h _ => h.elim⟩
def dDrop (de : DTE) : DTS := fun D ρ μ => de ρ μ fun _ μ1 => D.nx ρ μ1
theorem ds_expr {e : Expr} {de : DTE} {pos : Pos} (he : PED X e de) (hs : swapsWith e none pos.line X.env = pure false := by rfl) : PSD X (.Expr e pos) (dDrop de) := by
  obtain ⟨te, a1, a2⟩ := he.ex
  exact ⟨_, ps_expr a1 hs, fun α σ H ρ μ D E S e h post => a2 α σ H ρ μ _ _ S e h fun v H' α' μ' d g S' r h' => post.nx σ H' α' ρ μ' g S' (e.mono g) h'⟩
def dRet (de : DTE) : DTS := fun D ρ μ => de ρ μ D.rt
theorem ds_ret {e : Expr} {de : DTE} {pos : Pos} (he : PED X e de) : PSD X (.Return (some e) pos) (dRet de) := by
  obtain ⟨te, a1, a2⟩ := he.ex
  exact ⟨_, ps_ret a1, fun α σ H ρ μ D E S e h post => a2 α σ H ρ μ _ _ S e h post.rt⟩
def dRetN : DTS := fun D _ μ => D.rt .non μ
theorem ds_retN {pos : Pos} : PSD X (.Return none pos) dRetN := ⟨_, ps_retN, fun α σ H ρ μ D E S e h post => post.rt _ _ _ _ _ (Gr.refl α H) S .non h⟩
def dIfS (dt : DTT) (t u : DTS) : DTS := fun D ρ μ => dt ρ μ fun b μ1 => if b = true then t D ρ μ1 else u D ρ μ1
theorem ds_if {c : Expr} {a b : List Stmt} {dt : DTT} {t u : DTS} {pos : Pos} (hc : PTD X c dt) (ha : PSSD X a t) (hb : PSSD X b u) : PSD X (.If c a b pos) (dIfS dt t u) := by
  obtain ⟨tc, c1, c2⟩ := hc.ex
  obtain ⟨ta, a1, a2⟩ := ha.ex
  obtain ⟨tb, b1, b2⟩ := hb.ex
  refine ⟨_, ps_if c1 a1 b1, fun α σ H ρ μ D E S e h post => c2 α σ H ρ μ _ _ S e h fun k H' α' μ' g S' h' => ?_⟩
  cases k with
  | true => exact a2 α' σ H' ρ μ' D E S' (e.mono g) h' (post.mono g)
  | false => exact b2 α' σ H' ρ μ' D E S' (e.mono g) h' (post.mono g)

/-! ### targets -/
abbrev DTG := D → Rho → Mu → (Rho → Mu → Prop) → Prop
abbrev DTGs := List D → Rho → Mu → (Rho → Mu → Prop) → Prop
def SndG (K : PySem.W.Frag) (g : TG) (dg : DTG) : Prop := ∀ α σ H ρ μ v d Qd (Q : L2.St → Hp → Prop), Sat K α H μ → EnvOk K α H σ ρ → Rl K α H v d → dg d ρ μ Qd → PostS K α H Qd Q → g v σ H Q
def SndGs (K : PySem.W.Frag) (g : TGs) (dg : DTGs) : Prop := ∀ α σ H ρ μ vs ds Qd (Q : L2.St → Hp → Prop), Sat K α H μ → EnvOk K α H σ ρ → RlAll K α H vs ds → dg ds ρ μ Qd → PostS K α H Qd Q → g vs σ H Q
structure PGD (X : Cx) (e : Expr) (dg : DTG) : Prop where
  ex : ∃ g, PG X e g ∧ SndG X.K g dg
structure PGsD (X : Cx) (es : List Expr) (dg : DTGs) : Prop where
  ex : ∃ g, PGs X es g ∧ SndGs X.K g dg
def gdName (i : Nat) : DTG := fun d ρ μ Q => Q (ρ.set i (some d)) μ
theorem dg_name (i : Nat) {x : Str} {pos : Pos} (hN : X.N.Nodup) (hi : X.N[i]? = some x := by rfl) (hx : Loc X.env.scope x := by first | exact Or.inl rfl | exact Or.inr rfl) (hf : X.fn x = true ∨ X.env.scope.names.lookup x = some .local := by first | exact .inl rfl | exact .inr rfl | assumption) : PGD X (.Name x pos) (gdName i) :=
  ⟨_, pg_name hN hi hx hf, fun α σ H ρ μ v d Qd Q S e r h post => post _ _ _ _ _ (Gr.refl α H) S (e.set r) h⟩
def gdNil : DTGs := fun ds ρ μ Q => match ds with | [] => Q ρ μ | _ => False
def gdCons (g : DTG) (gs : DTGs) : DTGs := fun ds ρ μ Q => match ds with | d :: r => g d ρ μ fun ρ1 μ1 => gs r ρ1 μ1 Q | [] => False
def gdTup (n : Nat) (gs : DTGs) : DTG := fun d ρ μ Q => match d with | .tup ds => ds.length = n ∧ gs ds ρ μ Q | _ => False
theorem dgs_nil : PGsD X [] gdNil := ⟨_, pgs_nil, fun α σ H ρ μ vs ds Qd Q S e r h post => by
  cases r with
  | nil => exact ⟨rfl, post _ _ _ _ _ (Gr.refl α H) S e h⟩
  | cons _ _ => exact False.elim h⟩
theorem dgs_cons {e : Expr} {es : List Expr} {g : DTG} {gs : DTGs} (h1 : PGD X e g) (h2 : PGsD X es gs) (hs : ∀ {t : TG} {u : TGs}, PG X e t → PGs X es u → PGs X (e :: es) (gCons t u) := by intro _ _ a b; exact pgs_cons a b) : PGsD X (e :: es) (gdCons g gs) := by
  obtain ⟨t1, a1, a2⟩ := h1.ex
  obtain ⟨t2, b1, b2⟩ := h2.ex
  refine ⟨_, hs a1 b1, fun α σ H ρ μ vs ds Qd Q S e r h post => ?_⟩
  cases r with
  | nil => exact False.elim h
  | cons r rs => exact ⟨_, _, rfl, a2 α σ H ρ μ _ _ _ _ S e r h fun σ' H' α' ρ' μ' g S' e' h' => b2 α' σ' H' ρ' μ' _ _ _ _ S' e' (rs.mono g) h' (post.mono g)⟩
def gdSub (da di : DTE) : DTG := fun d ρ μ Q => da ρ μ fun o μ1 => di ρ μ1 fun i μ2 => match o, i with
  | .cell k, .int j => (match μ2 k with | some xs => (match ixN xs.length j with | some n => Q ρ (μ2.upd k (xs.set n d)) | none => False) | none => False)
  | _, _ => False
theorem dg_sub {o i : Expr} {da di : DTE} {pos : Pos} (ho : PED X o da) (hi : PED X i di) (mk : ∀ {ta ti : TE}, PE X o ta → PE X i ti → PG X (.Subscript o i pos) (gSub ta ti rSetL) := by intro _ _ a b; exact pg_sub a b set_list) : PGD X (.Subscript o i pos) (gdSub da di) := by
  obtain ⟨t1, a1, a2⟩ := ho.ex
  obtain ⟨t2, b1, b2⟩ := hi.ex
  refine ⟨_, mk a1 b1, fun α σ H ρ μ v d Qd Q S e r h post => a2 α σ H ρ μ _ _ S e h fun o H1 α1 μ1 od g1 S1 r1 q1 => b2 α1 σ H1 ρ μ1 _ _ S1 (e.mono g1) q1 fun j H2 α2 μ2 jd g2 S2 r2 q2 => ?_⟩
  have r1' := r1.mono g2
  split at q2
  · rename_i k j
    split at q2
    · rename_i xs e1
      split at q2
      · rename_i n en
        cases r1' with
        | cell qa =>
          cases r2
          obtain ⟨a, vs, h1, h2, h3⟩ := S2.cell _ _ e1
          rw [qa] at h1
          cases h1
          refine ⟨_, vs, j, n, rfl, rfl, h2, by rw [h3.length]; exact en, ?_⟩
          exact post _ _ _ _ _ ((g1.trans g2).trans (gr_set h2)) (S2.set qa h2 (h3.set (r.mono (g1.trans g2)) n)) (((e.mono g1).mono g2).mono (gr_set h2)) q2
      · exact False.elim q2
    · exact False.elim q2
  · exact False.elim q2

/-! ### assignments -/
def dAsg (de : DTE) (g : DTG) : DTS := fun D ρ μ => de ρ μ fun x μ1 => g x ρ μ1 D.nx
theorem snd_asg {te : TE} {de : DTE} {g : TG} {dg : DTG} (h1 : SndE K te de) (h2 : SndG K g dg) : SndS K (tAsg te g) (dAsg de dg) := fun α σ H ρ μ D E S e h post =>
  h1 α σ H ρ μ _ _ S e h fun v H' α' μ' d g S' r h' => h2 α' σ H' ρ μ' v d _ _ S' (e.mono g) r h' (post.nx.mono g)
theorem ds_asg {tg e : Expr} {de : DTE} {dg : DTG} {pos : Pos} (he : PED X e de) (hg : PGD X tg dg) (mk : ∀ {te : TE} {g : TG}, PE X e te → PG X tg g → PS X (.Assign [tg] e pos) (tAsg te g) := by intro _ _ a b; exact ps_asg a b) : PSD X (.Assign [tg] e pos) (dAsg de dg) := by
  obtain ⟨t1, a1, a2⟩ := he.ex
  obtain ⟨t2, b1, b2⟩ := hg.ex
  exact ⟨_, mk a1 b1, snd_asg a2 b2⟩
/-- a fresh list to one name, told apart: the cell's number is any new one -/
def dPar (i j : Nat) (da : DTA) : DTS := fun D ρ μ => da ρ μ fun ds μ1 => match ds with | [v, w] => D.nx ((ρ.set i (some v)).set j (some w)) μ1 | _ => False
theorem ds_par (i j : Nat) {x y : Str} {a b : Expr} {da : DTA} {px py pt pos : Pos} {kt k2 pt2} (hN : X.N.Nodup) (ha : PAD X [a, b] da) (hc : X.calm = true := by rfl) (hi : X.N[i]? = some x := by rfl) (hj : X.N[j]? = some y := by rfl) (hij : i ≠ j := by decide)
    (hx : X.env.scope.names.lookup x = some .local := by rfl) (hy : X.env.scope.names.lookup y = some .local := by rfl)
    (hw : swappedStores [.Tuple [.Name x px, .Name y py] kt pt] (.Tuple [a, b] k2 pt2) X.env = pure (some [x, y]) := by rfl)
    (hs : swapsWithSole [.Tuple [.Name x px, .Name y py] kt pt] (.Tuple [a, b] k2 pt2) pos.line X.env = pure false := by rfl) :
    PSD X (.Assign [.Tuple [.Name x px, .Name y py] kt pt] (.Tuple [a, b] k2 pt2) pos) (dPar i j da) := by
  obtain ⟨t1, a1, a2⟩ := ha.ex
  refine ⟨_, ps_par hc hN hi hj hij hx hy a1 hw hs, fun α σ H ρ μ D E S e h post => a2 α σ H ρ μ _ _ S e h fun vs H' α' μ' ds g S' r h' => ?_⟩
  unfold dPar at h
  split at h'
  · obtain ⟨v, w, rfl, r1, r2⟩ := rl2 r
    exact ⟨v, w, rfl, post.nx _ _ _ _ _ g S' (((e.mono g).set r1).set r2) h'⟩
  · exact False.elim h'

/-! ### what is walked -/
structure Src where
  its : List D
  keep : List (Nat × List D)
def Src.held (s : Src) (μ : Mu) : Prop := ∀ p ∈ s.keep, μ p.1 = some p.2
abbrev DTI := Rho → Mu → (Src → Mu → Prop) → Prop
structure ItOk (K : PySem.W.Frag) (J : It) (s : Src) (α : List Addr) (H : Hp) : Prop where
  ok : ∀ α' H' μ', Gr α H α' H' → Sat K α' H' μ' → s.held μ' → (∀ i, i < s.its.length → J.go i H') ∧ (∀ i, s.its.length ≤ i → J.stop i H') ∧
    ∀ i d v H2, s.its[i]? = some d → J.yld i H' v H2 → Gr α' H' α' H2 ∧ Sat K α' H2 μ' ∧ Rl K α' H2 v d
def SndI (K : PySem.W.Frag) (wi : TI) (di : DTI) : Prop := ∀ α σ H ρ μ Qd (R : It → Hp → Prop), Sat K α H μ → EnvOk K α H σ ρ → di ρ μ Qd →
  (∀ J H' α' μ' s, Gr α H α' H' → Sat K α' H' μ' → s.held μ' → ItOk K J s α' H' → Qd s μ' → R J H') → wi σ H R
structure PID (X : Cx) (tg iter : Expr) (di : DTI) : Prop where
  ex : ∃ wi, PI X tg iter wi ∧ SndI X.K wi di
theorem held_nil {xs : List D} {μ : Mu} : Src.held ⟨xs, []⟩ μ := fun _ h => nomatch h
theorem held_one {xs : List D} {μ : Mu} {k : Nat} {ys : List D} (h : μ k = some ys) : Src.held ⟨xs, [(k, ys)]⟩ μ := fun p hp => by
  cases hp with
  | head => exact h
  | tail _ hp => cases hp
theorem held_of {xs : List D} {μ : Mu} {k : Nat} {ys : List D} {r : List (Nat × List D)} (h : Src.held ⟨xs, (k, ys) :: r⟩ μ) : μ k = some ys := h (k, ys) (.head _)

def diLst (de : DTE) : DTI := fun ρ μ Q => de ρ μ fun x μ1 => match x with
  | .frz ds => Q ⟨ds, []⟩ μ1
  | .cell k => (match μ1 k with | some xs => Q ⟨xs, [(k, xs)]⟩ μ1 | none => False)
  | _ => False
def diTup (de : DTE) : DTI := fun ρ μ Q => de ρ μ fun x μ1 => match x with
  | .tup ds => Q ⟨ds, []⟩ μ1
  | _ => False
theorem itl_cell {a : Addr} {k : Nat} {xs : List D} (h : α[k]? = some a) : ItOk K (Itl K a) ⟨xs, [(k, xs)]⟩ α H := ⟨fun α' H' μ' g S hd => by
  obtain ⟨b, vs, h1, h2, h3⟩ := S.cell k xs (held_of hd)
  rw [g.pre _ _ h] at h1
  cases h1
  refine ⟨fun i hi => ⟨vs, vs[i]'(by rw [h3.length]; exact hi), .of h2, by simp⟩, fun i hi => ⟨vs, .of h2, by rw [h3.length]; exact hi⟩, fun i d v H2 hd hy => ?_⟩
  obtain ⟨rfl, hy⟩ := hy
  obtain ⟨w, e, r⟩ := h3.get hd
  have e2 := hy vs (.of h2)
  rw [e] at e2
  cases e2
  exact ⟨Gr.refl _ _, S, r⟩⟩
theorem itl_frz {a : Addr} {vs : List V} {xs : List D} (q : FrzL K H a vs) (r0 : RlAll K α H vs xs) : ItOk K (Itl K a) ⟨xs, []⟩ α H := ⟨fun α' H' μ' g S hd => by
  have q' := (g.ext.frzL q).seq
  have h3 := r0.mono g
  refine ⟨fun i hi => ⟨vs, vs[i]'(by rw [h3.length]; exact hi), q', by simp⟩, fun i hi => ⟨vs, q', by rw [h3.length]; exact hi⟩, fun i d v H2 hd hy => ?_⟩
  obtain ⟨rfl, hy⟩ := hy
  obtain ⟨w, e, r⟩ := h3.get hd
  have e2 := hy vs q'
  rw [e] at e2
  cases e2
  exact ⟨Gr.refl _ _, S, r⟩⟩
theorem itt_tup {a : Addr} {vs : List V} {xs : List D} (q : SqT K H a vs) (r0 : RlAll K α H vs xs) : ItOk K (Itt K a) ⟨xs, []⟩ α H := ⟨fun α' H' μ' g S hd => by
  have q' := g.ext.seqT q
  have h3 := r0.mono g
  refine ⟨fun i hi => ⟨vs, vs[i]'(by rw [h3.length]; exact hi), q', by simp⟩, fun i hi => ⟨vs, q', by rw [h3.length]; exact hi⟩, fun i d v H2 hd hy => ?_⟩
  obtain ⟨rfl, hy⟩ := hy
  obtain ⟨w, e, r⟩ := h3.get hd
  have e2 := hy vs q'
  rw [e] at e2
  cases e2
  exact ⟨Gr.refl _ _, S, r⟩⟩
theorem di_lst {tg l : Expr} {de : DTE} (h : PED X l de) : PID X tg l (diLst de) := by
  obtain ⟨t1, a1, a2⟩ := h.ex
  refine ⟨_, pi_list a1, fun α σ H ρ μ Qd R S e h post => a2 α σ H ρ μ _ _ S e h fun v H1 α1 μ1 d g1 S1 r1 q1 => ?_⟩
  cases r1 with
  | frz q r => exact ⟨_, rfl, ⟨_, q.seq⟩, post _ _ _ _ _ g1 S1 held_nil (itl_frz q r) q1⟩
  | @cell a k q =>
    dsimp only at q1
    split at q1
    · rename_i xs ex
      obtain ⟨b, vs, h1, h2, h3⟩ := S1.cell k xs ex
      rw [q] at h1
      cases h1
      exact ⟨_, rfl, ⟨_, .of h2⟩, post _ _ _ _ _ g1 S1 (held_one ex) (itl_cell q) q1⟩
    · exact False.elim q1
  | _ => exact False.elim q1
theorem di_tup {tg l : Expr} {de : DTE} (h : PED X l de) : PID X tg l (diTup de) := by
  obtain ⟨t1, a1, a2⟩ := h.ex
  refine ⟨_, pi_tup a1, fun α σ H ρ μ Qd R S e h post => a2 α σ H ρ μ _ _ S e h fun v H1 α1 μ1 d g1 S1 r1 q1 => ?_⟩
  cases r1 with
  | tup q r => exact ⟨_, rfl, ⟨_, q⟩, post _ _ _ _ _ g1 S1 held_nil (itt_tup q r) q1⟩
  | _ => exact False.elim q1
/-- lo, lo + 1, .. below hi -/
def rangeD (lo hi : Int) : List D := (List.range (hi - lo).toNat).map fun i => .int (lo + (i : Nat))
theorem rangeD_len (lo hi : Int) : (rangeD lo hi).length = (hi - lo).toNat := by
  unfold rangeD
  rw [List.length_map, List.length_range]
theorem itr_ok (lo hi : Int) : ItOk K (Itr lo (hi - lo).toNat) ⟨rangeD lo hi, []⟩ α H := ⟨fun α' H' μ' g S hd => by
  refine ⟨fun i hi => ?_, fun i hi => ?_, fun i d v H2 hd hy => ?_⟩
  · have hi : i < (rangeD lo _).length := hi
    rw [rangeD_len] at hi
    exact hi
  · have hi : (rangeD lo _).length ≤ i := hi
    rw [rangeD_len] at hi
    exact hi
  · obtain ⟨rfl, rfl⟩ := hy
    have hd : (rangeD lo hi)[i]? = some d := hd
    have hi := (List.getElem?_eq_some_iff.mp hd).1
    rw [rangeD_len] at hi
    unfold rangeD at hd
    rw [List.getElem?_map, List.getElem?_range hi] at hd
    cases hd
    exact ⟨Gr.refl _ _, S, .int _⟩⟩
def Rg (i : Int) : Prop := -(2 ^ 62) ≤ i ∧ i < 2 ^ 62
def diR1 (da : DTA) : DTI := fun ρ μ Q => da ρ μ fun ds μ1 => match ds with | [.int n] => Rg n ∧ Q ⟨rangeD 0 n, []⟩ μ1 | _ => False
def diR2 (da : DTA) : DTI := fun ρ μ Q => da ρ μ fun ds μ1 => match ds with | [.int lo, .int hi] => (Rg lo ∧ Rg hi) ∧ Q ⟨rangeD lo hi, []⟩ μ1 | _ => False
theorem di_r1 {tg a : Expr} {da : DTA} {p pos : Pos} (hm : X.mg "range" = none) (ha : PAD X [a] da) (hg : Gl X "range" := by rfl) (hs : starEach [a] X.env = [(false, eval a X.env)] := by rfl) : PID X tg (.Call (.Name "range" p) [a] [] pos) (diR1 da) := by
  obtain ⟨t1, a1, a2⟩ := ha.ex
  refine ⟨_, pi_range1 hg hm a1 hs, fun α σ H ρ μ Qd R S e h post => a2 α σ H ρ μ _ _ S e h fun vs H1 α1 μ1 ds g1 S1 r1 q1 => ?_⟩
  split at q1
  · rename_i n
    obtain ⟨v, rfl, r⟩ := rl1 r1
    cases r
    have e0 : n.toNat = (n - 0).toNat := by rw [Int.sub_zero]
    refine ⟨n, rfl, q1.1.1, q1.1.2, ?_⟩
    rw [e0]
    exact post _ _ _ _ _ g1 S1 held_nil (itr_ok 0 n) q1.2
  · exact False.elim q1
theorem di_r2 {tg a b : Expr} {da : DTA} {p pos : Pos} (hm : X.mg "range" = none) (ha : PAD X [a, b] da) (hg : Gl X "range" := by rfl) (hs : starEach [a, b] X.env = [(false, eval a X.env), (false, eval b X.env)] := by rfl) (hs2 : starEach [b] X.env = [(false, eval b X.env)] := by rfl) :
    PID X tg (.Call (.Name "range" p) [a, b] [] pos) (diR2 da) := by
  obtain ⟨t1, a1, a2⟩ := ha.ex
  refine ⟨_, pi_range2 hg hm a1 hs hs2, fun α σ H ρ μ Qd R S e h post => a2 α σ H ρ μ _ _ S e h fun vs H1 α1 μ1 ds g1 S1 r1 q1 => ?_⟩
  split at q1
  · rename_i lo hi
    obtain ⟨v, w, rfl, r, r'⟩ := rl2 r1
    cases r; cases r'
    exact ⟨lo, hi, rfl, ⟨q1.1.1.1, q1.1.1.2, q1.1.2.1, q1.1.2.2⟩, post _ _ _ _ _ g1 S1 held_nil (itr_ok lo hi) q1.2⟩
  · exact False.elim q1
/-- what stands at a list, with its cell -/
def lsrc (μ : Mu) : D → Option Src
  | .frz ds => some ⟨ds, []⟩
  | .cell k => (μ k).map fun xs => ⟨xs, [(k, xs)]⟩
  | _ => none
def enumD (xs : List D) : List D := xs.zipIdx.map fun p => .tup [.int (p.2 : Nat), p.1]
def zipD (xs ys : List D) : List D := List.zipWith (fun x y => .tup [x, y]) xs ys
/-- a list stays as it stands as long as its cell is held -/
structure LOk (K : PySem.W.Frag) (a : Addr) (s : Src) (α : List Addr) (H : Hp) : Prop where
  ok : ∀ α' H' μ', Gr α H α' H' → Sat K α' H' μ' → s.held μ' → ∃ vs, SqL K H' a vs ∧ RlAll K α' H' vs s.its
theorem lok_of {μ : Mu} {v : V} {d : D} {s : Src} (S : Sat K α H μ) (r : Rl K α H v d) (h : lsrc μ d = some s) : s.held μ ∧ ∃ a vs, v = .ref a ∧ SqL K H a vs ∧ LOk K a s α H := by
  cases r with
  | frz q r =>
    cases h
    exact ⟨held_nil, _, _, rfl, q.seq, ⟨fun α' H' μ' g S' hd => ⟨_, (g.ext.frzL q).seq, r.mono g⟩⟩⟩
  | @cell a k q =>
    cases e : μ k with
    | none =>
      rw [lsrc, e] at h
      cases h
    | some xs =>
      rw [lsrc, e] at h
      cases h
      obtain ⟨b, vs, h1, h2, h3⟩ := S.cell _ _ e
      rw [q] at h1
      cases h1
      refine ⟨held_one e, _, vs, rfl, .of h2, ⟨fun α' H' μ' g S' hd => ?_⟩⟩
      obtain ⟨c, ws, k1, k2, k3⟩ := S'.cell k xs (held_of hd)
      rw [g.pre _ _ q] at k1
      cases k1
      exact ⟨ws, .of k2, k3⟩
  | _ => cases h
def diEnum (de : DTE) : DTI := fun ρ μ Q => de ρ μ fun x μ1 => match lsrc μ1 x with | some s => Q ⟨enumD s.its, s.keep⟩ μ1 | none => False
def diZip (d1 d2 : DTE) : DTI := fun ρ μ Q => d1 ρ μ fun x μ1 => d2 ρ μ1 fun y μ2 => match lsrc μ2 x, lsrc μ2 y with | some s, some t => Q ⟨zipD s.its t.its, s.keep ++ t.keep⟩ μ2 | _, _ => False
theorem enumD_len (xs : List D) : (enumD xs).length = xs.length := by
  unfold enumD
  rw [List.length_map, List.length_zipIdx]
theorem enumD_get {xs : List D} {i : Nat} {d : D} (h : (enumD xs)[i]? = some d) : ∃ x, xs[i]? = some x ∧ d = .tup [.int (i : Nat), x] := by
  unfold enumD at h
  rw [List.getElem?_map, List.getElem?_zipIdx] at h
  cases e : xs[i]? with
  | none =>
    rw [e] at h
    cases h
  | some x =>
    rw [e] at h
    cases h
    exact ⟨x, rfl, by simp⟩
theorem zipD_get {xs ys : List D} {i : Nat} {d : D} (h : (zipD xs ys)[i]? = some d) : ∃ x y, xs[i]? = some x ∧ ys[i]? = some y ∧ d = .tup [x, y] := by
  unfold zipD at h
  rw [List.getElem?_zipWith] at h
  cases e : xs[i]? with
  | none =>
    rw [e] at h
    cases h
  | some x =>
    cases e2 : ys[i]? with
    | none =>
      rw [e, e2] at h
      cases h
    | some y =>
      rw [e, e2] at h
      cases h
      exact ⟨x, y, rfl, rfl, rfl⟩
theorem new_pair {μ : Mu} {v w : V} {d e : D} {T : Addr} (S : Sat K α H μ) (r : Rl K α H v d) (r' : Rl K α H w e) (h : H T = none) :
    Gr α H α (upd H T (.tup [v, w])) ∧ Sat K α (upd H T (.tup [v, w])) μ ∧ Rl K α (upd H T (.tup [v, w])) (.ref T) (.tup [d, e]) :=
  ⟨gr_new h, S.new h, .tup (.inl (.inl L2.upd_same)) (.cons (r.mono (gr_new h)) (.cons (r'.mono (gr_new h)) .nil))⟩
theorem di_enum {e : Expr} {de : DTE} {p pos tpos : Pos} {elts : List Expr} {kk : Nat} (hm : X.mg "enumerate" = none) (he : PED X e de) (hg : Gl X "enumerate" := by rfl) (hs : starEach [e] X.env = [(false, eval e X.env)] := by rfl) (hs1 : starEach [e] X.env = (false, eval e X.env) :: starEach [] X.env := by rfl) :
    PID X (.Tuple elts kk tpos) (.Call (.Name "enumerate" p) [e] [] pos) (diEnum de) := by
  obtain ⟨t1, a1, a2⟩ := he.ex
  refine ⟨_, pi_enum hg hm (pa_cons a1 pa_nil hs1) hs, fun α σ H ρ μ Qd R S en h post => a2 α σ H ρ μ _ _ S en h fun v H1 α1 μ1 d g1 S1 r1 q1 => ?_⟩
  split at q1
  · rename_i s es
    obtain ⟨hd, a, vs, rfl, q, L⟩ := lok_of S1 r1 es
    refine ⟨a, vs, rfl, q, post _ _ _ _ ⟨enumD s.its, s.keep⟩ g1 S1 hd ⟨fun α' H' μ' g S' hd' => ?_⟩ q1⟩
    obtain ⟨ws, q', r'⟩ := L.ok α' H' μ' g S' hd'
    refine ⟨fun i hi => ?_, fun i hi => ?_, fun i d v H2 hg hy => ?_⟩
    · have hi : i < (enumD s.its).length := hi
      rw [enumD_len, ← r'.length] at hi
      exact ⟨ws, ws[i], q', by simp⟩
    · have hi : (enumD s.its).length ≤ i := hi
      rw [enumD_len, ← r'.length] at hi
      exact ⟨ws, q', hi⟩
    · obtain ⟨x, hx, rfl⟩ := enumD_get hg
      obtain ⟨T, y, rfl, hT, rfl, hy⟩ := hy
      obtain ⟨w, hw, rw'⟩ := r'.get hx
      have e2 := hy ws q'
      rw [hw] at e2
      cases e2
      exact new_pair S' (.int _) rw' hT
  · exact False.elim q1
theorem di_zip {e e2 : Expr} {d1 d2 : DTE} {p pos tpos : Pos} {elts : List Expr} {kk : Nat} (hm : X.mg "zip" = none) (he : PED X e d1) (he2 : PED X e2 d2) (hg : Gl X "zip" := by rfl)
    (hs : starEach [e, e2] X.env = (false, eval e X.env) :: starEach [e2] X.env := by rfl) (hs2 : starEach [e2] X.env = (false, eval e2 X.env) :: starEach [] X.env := by rfl) (hpl : (backTo pos (starEach [e2] X.env)).any (·.1) = false := by rfl) :
    PID X (.Tuple elts kk tpos) (.Call (.Name "zip" p) [e, e2] [] pos) (diZip d1 d2) := by
  obtain ⟨t1, a1, a2⟩ := he.ex
  obtain ⟨t2, b1, b2⟩ := he2.ex
  refine ⟨_, pi_zip hg hm (pa_cons a1 (pa_cons b1 pa_nil hs2) hs) hs hpl, fun α σ H ρ μ Qd R S en h post => a2 α σ H ρ μ _ _ S en h fun v H1 α1 μ1 d g1 S1 r1 q1 => b2 α1 σ H1 ρ μ1 _ _ S1 (en.mono g1) q1 fun w H2 α2 μ2 dd g2 S2 r2 q2 => ?_⟩
  split at q2
  · rename_i s t es et
    obtain ⟨hd, a, vs, rfl, q, L⟩ := lok_of S2 (r1.mono g2) es
    obtain ⟨hd2, b, us, rfl, q', L'⟩ := lok_of S2 r2 et
    refine ⟨a, b, vs, us, rfl, q, q', post _ _ _ _ _ (g1.trans g2) S2 (fun p hp => ?_) ⟨fun α' H' μ' g S' hd' => ?_⟩ q2⟩
    · rcases List.mem_append.mp hp with hp | hp
      · exact hd p hp
      · exact hd2 p hp
    obtain ⟨ws, k1, k2⟩ := L.ok α' H' μ' g S' (fun p hp => hd' p (List.mem_append.mpr (.inl hp)))
    obtain ⟨zs, m1, m2⟩ := L'.ok α' H' μ' g S' (fun p hp => hd' p (List.mem_append.mpr (.inr hp)))
    have len : (zipD s.its t.its).length = min ws.length zs.length := by
      unfold zipD
      rw [List.length_zipWith, k2.length, m2.length]
    refine ⟨fun i hi => ?_, fun i hi => ?_, fun i d v H3 hg hy => ?_⟩
    · have hi : i < (zipD s.its t.its).length := hi
      rw [len] at hi
      exact ⟨ws, zs, ws[i]'(by omega), zs[i]'(by omega), k1, m1, by simp, by simp⟩
    · have hi : (zipD s.its t.its).length ≤ i := hi
      rw [len] at hi
      exact ⟨ws, zs, k1, m1, by omega⟩
    · obtain ⟨x, y, hx, hz, rfl⟩ := zipD_get hg
      obtain ⟨T, x1, x2, rfl, hT, rfl, hy1, hy2⟩ := hy
      obtain ⟨w1, hw1, rw1⟩ := k2.get hx
      obtain ⟨w2, hw2, rw2⟩ := m2.get hz
      have e1 := hy1 ws k1
      have e2 := hy2 zs m1
      rw [hw1] at e1
      rw [hw2] at e2
      cases e1; cases e2
      exact new_pair S' rw1 rw2 hT
  · exact False.elim q2

/-! ### for, while -/
def forIn (s : Src) (g : DTG) (body : DTS) (D : DEnds) (ρ : Rho) (μ1 : Mu) [Lk s] [Lk g] [Lk body] [Lk D] [Lk ρ] [Lk μ1] : Prop := ∃ W : Nat → Rho → Mu → Prop, W 0 ρ μ1 ∧
  (∀ i x ρ' μ', s.its[i]? = some x → W i ρ' μ' → s.held μ' ∧ g x ρ' μ' fun ρ2 μ2 => body { D with nx := W (i + 1), ct := W (i + 1), bk := D.nx } ρ2 μ2) ∧
  ∀ ρ' μ', W s.its.length ρ' μ' → s.held μ' ∧ D.nx ρ' μ'
def dFor (di : DTI) (g : DTG) (body : DTS) [Lk di] [Lk g] [Lk body] : DTS := fun D ρ μ => di ρ μ fun s μ1 => forIn s g body D ρ μ1
theorem ds_for {tg iter : Expr} {body : List Stmt} {di : DTI} {g : DTG} {db : DTS} {pos : Pos} (hi : PID X tg iter di) (hg : PGD X tg g) (hb : PSSD X body db) (hp : PassesOwn (model X.prog X.w) X.A X.env X.xe := by exact PassesOwn.never) (hc : X.calm = true := by rfl)
    (hs : ∀ x, foldedSetIterable iter X.env x = pure x := by intro _; rfl) : PSD X (.For tg iter body [] pos) (dFor di g db) := by
  obtain ⟨wi, i1, i2⟩ := hi.ex
  obtain ⟨tg', g1, g2⟩ := hg.ex
  obtain ⟨tb, b1, b2⟩ := hb.ex
  refine ⟨_, ps_for hp hc i1 g1 b1 hs, fun α σ H ρ μ D E S e h post => i2 α σ H ρ μ _ _ S e h fun J H1 α1 μ1 s gr S1 hd1 I q1 => ?_⟩
  obtain ⟨W, w0, ws, wd⟩ := q1
  refine ⟨fun i m σ' H' => i ≤ s.its.length ∧ m = s.its.length - i ∧ ∃ α' ρ' μ', Gr α1 H1 α' H' ∧ Sat X.K α' H' μ' ∧ EnvOk X.K α' H' σ' ρ' ∧ W i ρ' μ',
    ⟨_, Nat.zero_le _, rfl, α1, ρ, μ1, Gr.refl _ _, S1, e.mono gr, w0⟩, fun i m σ' H' hW => ?_⟩
  obtain ⟨hi, rfl, α', ρ', μ', gr', S', e', w⟩ := hW
  by_cases hlt : i < s.its.length
  · obtain ⟨hd, q⟩ := ws i s.its[i] ρ' μ' (List.getElem?_eq_getElem hlt) w
    obtain ⟨go, _, yl⟩ := I.ok α' H' μ' gr' S' hd
    refine .inr ⟨go i hlt, fun σ2 H2 => ∃ α2 ρ2 μ2, Gr α1 H1 α2 H2 ∧ Sat X.K α2 H2 μ2 ∧ EnvOk X.K α2 H2 σ2 ρ2 ∧ W (i + 1) ρ2 μ2, fun σ2 H2 hN => ?_, fun x H2 hy => ?_⟩
    · exact ⟨s.its.length - (i + 1), by omega, hlt, rfl, hN⟩
    · obtain ⟨gy, Sy, ry⟩ := yl i _ x H2 (List.getElem?_eq_getElem hlt) hy
      refine g2 α' σ' H2 ρ' μ' x _ _ _ Sy (e'.mono gy) ry q fun σ3 H3 α3 ρ3 μ3 g3 S3 e3 q3 => ?_
      have gg : Gr α1 H1 α3 H3 := (gr'.trans gy).trans g3
      refine b2 α3 σ3 H3 ρ3 μ3 _ _ S3 e3 q3 ⟨?_, ((post.mono gr).mono gg).rt, ((post.mono gr).mono gg).nx, ?_⟩
      · exact fun σ4 H4 α4 ρ4 μ4 g4 S4 e4 q4 => ⟨α4, ρ4, μ4, gg.trans g4, S4, e4, q4⟩
      · exact fun σ4 H4 α4 ρ4 μ4 g4 S4 e4 q4 => ⟨α4, ρ4, μ4, gg.trans g4, S4, e4, q4⟩
  · have ei : i = s.its.length := by omega
    subst ei
    obtain ⟨hd, q⟩ := wd ρ' μ' w
    obtain ⟨_, st, _⟩ := I.ok α' H' μ' gr' S' hd
    exact .inl ⟨st _ (Nat.le_refl _), (post.mono gr).nx _ _ _ _ _ gr' S' e' q⟩
def dWhile (c : DTT) (body : DTS) [Lk c] [Lk body] : DTS := fun D ρ μ => ∃ (W : Rho → Mu → Prop) (m : Rho → Mu → Nat), W ρ μ ∧ ∀ ρ' μ', W ρ' μ' → c ρ' μ' fun b μ1 =>
  if b = true then body { D with nx := fun ρ2 μ2 => W ρ2 μ2 ∧ m ρ2 μ2 < m ρ' μ', ct := fun ρ2 μ2 => W ρ2 μ2 ∧ m ρ2 μ2 < m ρ' μ', bk := D.nx } ρ' μ1 else D.nx ρ' μ1
theorem ds_while {c : Expr} {body : List Stmt} {dc : DTT} {db : DTS} {pos : Pos} (hc : PTD X c dc) (hb : PSSD X body db) (hp : PassesOwn (model X.prog X.w) X.A X.env X.xe := by exact PassesOwn.never) : PSD X (.While c body [] pos) (dWhile dc db) := by
  obtain ⟨tc, c1, c2⟩ := hc.ex
  obtain ⟨tb, b1, b2⟩ := hb.ex
  refine ⟨_, ps_while hp c1 b1, fun α σ H ρ μ D E S e h post => ?_⟩
  obtain ⟨W, m, w0, ws⟩ := h
  refine ⟨fun n σ' H' => ∃ α' ρ' μ', Gr α H α' H' ∧ Sat X.K α' H' μ' ∧ EnvOk X.K α' H' σ' ρ' ∧ W ρ' μ' ∧ n = m ρ' μ', ⟨_, α, ρ, μ, Gr.refl _ _, S, e, w0, rfl⟩, fun n σ' H' hW => ?_⟩
  obtain ⟨α', ρ', μ', g', S', e', w, rfl⟩ := hW
  refine c2 α' σ' H' ρ' μ' _ _ S' e' (ws ρ' μ' w) fun b H2 α2 μ2 g2 S2 q2 => ?_
  cases b with
  | false => exact post.nx _ _ _ _ _ (g'.trans g2) S2 (e'.mono g2) q2
  | true =>
    refine ⟨fun σ3 H3 => ∃ α3 ρ3 μ3, Gr α H α3 H3 ∧ Sat X.K α3 H3 μ3 ∧ EnvOk X.K α3 H3 σ3 ρ3 ∧ W ρ3 μ3 ∧ m ρ3 μ3 < m ρ' μ', fun σ3 H3 hN => ?_, ?_⟩
    · obtain ⟨α3, ρ3, μ3, g3, S3, e3, w3, l3⟩ := hN
      exact ⟨_, l3, α3, ρ3, μ3, g3, S3, e3, w3, rfl⟩
    · have gg := g'.trans g2
      refine b2 α2 σ' H2 ρ' μ2 _ _ S2 (e'.mono g2) q2 ⟨?_, (post.mono gg).rt, (post.mono gg).nx, ?_⟩
      · exact fun σ4 H4 α4 ρ4 μ4 g4 S4 e4 q4 => ⟨α4, ρ4, μ4, gg.trans g4, S4, e4, q4.1, q4.2⟩
      · exact fun σ4 H4 α4 ρ4 μ4 g4 S4 e4 q4 => ⟨α4, ρ4, μ4, gg.trans g4, S4, e4, q4.1, q4.2⟩

/-! ### comprehensions -/
/-- k: the new list's cell; W: what holds ahead of the i-th turn -/
def lcIn (s : Src) (g : DTG) (tt : DTT) (de : DTE) (ρ : Rho) (Q : List D → Mu → Prop) (μ1 : Mu) [Lk s] [Lk g] [Lk tt] [Lk de] [Lk ρ] [Lk Q] [Lk μ1] : Prop := ∀ k, μ1 k = none → ∃ W : Nat → Mu → Prop, W 0 (μ1.upd k []) ∧
  (∀ i x μ', s.its[i]? = some x → W i μ' → s.held μ' ∧ g x ρ μ' fun ρ2 μ2 => tt ρ2 μ2 fun b μ3 => if b = true then de ρ2 μ3 fun y μ4 => ∃ acc, μ4 k = some acc ∧ acc.length < sizeLine ∧ W (i + 1) (μ4.upd k (acc ++ [y])) else W (i + 1) μ3) ∧
  ∀ μ', W s.its.length μ' → s.held μ' ∧ ∃ xs μ2, μ' k = some xs ∧ μ2 k = none ∧ Mu.Sub (μ2.upd k xs) μ' ∧ Q xs μ2
def dLc (di : DTI) (g : DTG) (tt : DTT) (de : DTE) (vs : List Nat) [Lk di] [Lk g] [Lk tt] [Lk de] [Lk vs] : DTL := fun ρ μ Q => di ρ μ fun s μ1 => lcIn s g tt de (wipeD ρ vs) Q μ1
/-- the target keeps the other slots -/
def WipeG (g : TG) (vs : List Nat) : Prop := ∀ v σ H Q, g v σ H Q → g v σ H fun σ2 H2 => L2.wipe σ2 vs = L2.wipe σ vs ∧ Q σ2 H2
structure PTsD (X : Cx) (ifs : List Expr) (dt : DTT) : Prop where
  ex : ∃ tt, PTs X ifs tt ∧ SndT X.K tt dt
def dYes : DTT := fun _ μ Q => Q true μ
theorem snd_yes : SndT K tYes dYes := fun α σ H ρ μ Qd Q S E h post => post _ _ _ _ (Gr.refl α H) S h
theorem snd_lc {wi : TI} {di : DTI} {g : TG} {dg : DTG} {tt : TT} {dt : DTT} {te : TE} {de : DTE} {vs : List Nat} (hi : SndI K wi di) (hg : SndG K g dg) (hw : ∀ σ, ∀ v H Q, g v (L2.wipe σ vs) H Q → g v (L2.wipe σ vs) H fun σ2 H2 => L2.wipe σ2 vs = L2.wipe σ vs ∧ Q σ2 H2) (ht : SndT K tt dt) (he : SndE K te de) :
    SndL K (tLc wi g tt te vs) (dLc di dg dt de vs) := fun α σ H ρ μ Qd Q S e h post => hi α σ H ρ μ _ _ S e h fun J H1 α1 μ1 s gr S1 hd1 I q1 => by
  intro Da hD
  obtain ⟨W, w0, ws, wd⟩ := q1 α1.length S1.fresh
  have gA : Gr α1 H1 (α1 ++ [Da]) (upd H1 Da (.lst [])) := gr_push (Ext.new hD)
  have SA : Sat K (α1 ++ [Da]) (upd H1 Da (.lst [])) (μ1.upd α1.length []) := S1.alloc hD .nil
  have eA : EnvOk K (α1 ++ [Da]) (upd H1 Da (.lst [])) (L2.wipe σ vs) (wipeD ρ vs) := ((e.mono gr).mono gA).wipe vs
  refine ⟨fun i m H' => i ≤ s.its.length ∧ m = s.its.length - i ∧ ∃ α' μ', Gr (α1 ++ [Da]) (upd H1 Da (.lst [])) α' H' ∧ Sat K α' H' μ' ∧ W i μ', ⟨_, Nat.zero_le _, rfl, _, _, Gr.refl _ _, SA, w0⟩, fun i m H' hW => ?_⟩
  obtain ⟨hi, rfl, α', μ', gr', S', w⟩ := hW
  have atD : α'[α1.length]? = some Da := gr'.pre _ _ at_push
  by_cases hlt : i < s.its.length
  · obtain ⟨hd, q⟩ := ws i s.its[i] μ' (List.getElem?_eq_getElem hlt) w
    obtain ⟨go, _, yl⟩ := I.ok α' H' μ' (gA.trans gr') S' hd
    refine .inr ⟨go i hlt, fun H2 => ∃ α2 μ2, Gr (α1 ++ [Da]) (upd H1 Da (.lst [])) α2 H2 ∧ Sat K α2 H2 μ2 ∧ W (i + 1) μ2, fun H2 hN => ⟨s.its.length - (i + 1), by omega, hlt, rfl, hN⟩, fun x H2 hy => ?_⟩
    obtain ⟨gy, Sy, ry⟩ := yl i _ x H2 (List.getElem?_eq_getElem hlt) hy
    refine hw σ x H2 _ (hg α' (L2.wipe σ vs) H2 (wipeD ρ vs) μ' x _ _ _ Sy ((eA.mono gr').mono gy) ry q fun σ3 H3 α3 ρ3 μ3 g3 S3 e3 q3 => ?_)
    refine ht α3 σ3 H3 ρ3 μ3 _ _ S3 e3 q3 fun b H4 α4 μ4 g4 S4 q4 => ?_
    have gg : Gr (α1 ++ [Da]) (upd H1 Da (.lst [])) α4 H4 := ((gr'.trans gy).trans g3).trans g4
    cases b with
    | false => exact ⟨α4, μ4, gg, S4, q4⟩
    | true =>
      refine he α4 σ3 H4 ρ3 μ4 _ _ S4 (e3.mono g4) q4 fun y H5 α5 μ5 dy g5 S5 r5 q5 => ?_
      obtain ⟨acc, ea, hz, w5⟩ := q5
      obtain ⟨b, us, h1, h2, h3⟩ := S5.cell _ _ ea
      have at5 := (gg.trans g5).pre _ _ (at_push (α := α1) (a := Da))
      rw [at5] at h1
      cases h1
      exact ⟨us, h2, by rw [h3.length]; exact hz, α5, _, (gg.trans g5).trans (gr_set h2), S5.set at5 h2 (h3.append (.cons r5 .nil)), w5⟩
  · have ei : i = s.its.length := by omega
    subst ei
    obtain ⟨hd, xs, μ2, ex, n2, sb, q⟩ := wd μ' w
    obtain ⟨_, st, _⟩ := I.ok α' H' μ' (gA.trans gr') S' hd
    exact .inl ⟨st _ (Nat.le_refl _), post Da _ H' α' μ2 xs ((gr.trans gA).trans gr') n2 atD (S'.sub sb) q⟩
end Dl
/-! Dat4: defs by what they do with plain data; the law's end; repr. -/
namespace Dl
open PySem PySem.Spec PyProof.Rows L2

/-- a def's promise over data -/
abbrev DSp := List D → Mu → DK → Prop
section
variable (P : Program) (w : World) (K : PySem.W.Frag) (mg : Str → Option Value) (base : Heap)
/-- the def at f keeps sp wherever no display is under way -/
structure FnG (k : Nat) (f : Addr) (fd : FuncData) (ps : List Str) (sp : DSp) : Prop where
  len : ∀ ds μ Q, sp ds μ Q → ds.length = ps.length
  run : ∀ (A : Around) (outer : List Env) (s : Shared) (H : Hp) (args : Args) (us : List Value) (vs : List V) (α : List Addr) (μ : Mu) (ds : List D) (Qd : DK) (Q : VK),
    Room k A → A.guards = some [] → Env0 P w K mg base A outer s H → us.length = ps.length → BindsTo s fd args (ps.zip us) → Vals vs us → Sat K α H μ → RlAll K α H vs ds → sp ds μ Qd → PostE K α H Qd Q →
    codeAny (model P w) A (.call (.ref f) args) (CR CX0 outer P w H s Q E0) s
/-- the module's name x holds the def st of the text, which keeps sp -/
structure Has (k : Nat) (x : Str) (st : Stmt) (ps : List Str) (sp : DSp) : Prop where
  ex : ∃ f fd, mg x = some (.ref f) ∧ Fun K x x st f fd ∧ FnG P w K mg base k f fd ps sp
/-- the module's name x holds the def st of the text -/
structure Txt (x : Str) (st : Stmt) : Prop where
  ex : ∃ f fd, mg x = some (.ref f) ∧ Fun K x x st f fd
abbrev bodyX (N : List Str) (qual : Str) (sc : Scope) (f : Addr) (cdv : Value) (A : Around) (outer : List Env) (s : Shared) (H : Hp) : Cx := (cxOf CX0 P w K mg base N qual sc f cdv A outer s H E0).nox
end
def startD (N : List Str) (ds : List D) : Rho := ds.map some ++ List.replicate (N.length - ds.length) none
def retD (Q : DK) : DEnds := { nx := fun _ μ => ∃ μ', Mu.Sub μ' μ ∧ Q .non μ', rt := fun d μ => ∃ μ', Mu.Sub μ' μ ∧ Q d μ' }

section
variable {P : Program} {w : World} {K : PySem.W.Frag} {mg : Str → Option Value} {base : Heap} {α : List Addr} {H : Hp}
theorem RlAll.at : ∀ {vs : List V} {ds : List D} {n : Nat}, RlAll K α H vs ds → ∀ (i : Nat) d, (ds.map some ++ List.replicate n none)[i]? = some (some d) → ∃ v, (vs.map some ++ List.replicate n none)[i]? = some (some v) ∧ Rl K α H v d
  | _, _, n, .nil, i, d, h => by
    simp only [List.map_nil, List.nil_append, List.getElem?_replicate] at h
    split at h <;> cases h
  | _, _, n, .cons a b, 0, d, h => by
    simp only [List.map_cons, List.cons_append, List.getElem?_cons_zero, Option.some.injEq] at h
    subst h
    exact ⟨_, rfl, a⟩
  | _, _, n, .cons a b, i + 1, d, h => by
    simp only [List.map_cons, List.cons_append, List.getElem?_cons_succ] at h ⊢
    exact RlAll.at b i d h
theorem env_start {N : List Str} {vs : List V} {ds : List D} (r : RlAll K α H vs ds) : EnvOk K α H (L2.start N vs) (startD N ds) := by
  unfold L2.start startD
  rw [r.length]
  refine ⟨?_, r.at⟩
  simp only [List.length_append, List.length_map, List.length_replicate, r.length]
/-- THE RULE for a def of the text -/
theorem Txt.has {x : Str} {st : Stmt} {N ps : List Str} {k : Nat} {sp : DSp} (T : Txt K mg x st) (S : FnScope N ps (defScope st)) (len : ∀ ds μ Q, sp ds μ Q → ds.length = ps.length)
    (hbody : ∀ (f : Addr) (cdv : Value) (A : Around) (outer : List Env) (s : Shared) (H : Hp), Room k (bodyX P w K mg base N x (defScope st) f cdv A outer s H).A → (bodyX P w K mg base N x (defScope st) f cdv A outer s H).A.guards = some [] →
      ∃ db, PSSD (bodyX P w K mg base N x (defScope st) f cdv A outer s H) (defBody st) db ∧ ∀ ds μ Q, sp ds μ Q → db (retD Q) (startD N ds) μ) : Has P w K mg base (k + 1) x st ps sp := by
  obtain ⟨f, fd, hm, F⟩ := T.ex
  refine ⟨f, fd, hm, F, ⟨len, ?_⟩⟩
  intro A outer s H args us vs α μ ds Qd Q hr hgd e0 hl hb rv S0 rd hsp post
  obtain ⟨oc, od, kV, doc, pm, an, cdv, ct, osl, rfl, lk, hcd⟩ := F.ex
  have kin : K.In s.heap := e0.mod.kin.keeps (fun b o z => (e0.bs b o z).1)
  have nol : s.heap.NoLimit := e0.mod.nolimit.keeps (fun b o z => (e0.bs b o z).1)
  have kinds : ∀ y ∈ ps.zip us, (defScope st).names.lookup y.1 = some .local ∨ ((defScope st).names.lookup y.1 = some .cell ∧ ((cellsFrom (s.heap.objs.size + 1) (defScope st).names []).lookup y.1).isSome = true) := by
    rintro ⟨n, u⟩ hy
    cases S.par n (List.of_mem_zip hy).1 with
    | inl q => exact Or.inl q
    | inr q => exact Or.inr ⟨q, PySem.W.cellsFrom_some _ _ _ (Or.inl q)⟩
  refine codeAny_call_function hr.depth (kin _ _ lk) rfl S.co S.gen rfl (PySem.W.codeRec_of kin hcd) (hb _ _ _ _ ?_)
  refine wpAny_newFunctionEnv_cells S.kind kinds fun env he s1 new => ?_
  subst he
  refine ⟨nol.keeps new.toInCall.keep, codeAny_func ?_⟩
  obtain ⟨db, B, hq⟩ := hbody f cdv A outer s H (hr.deeper _) hgd
  obtain ⟨t, ht, snd⟩ := B.ex
  have J : Inv (bodyX P w K mg base N x (defScope st) f cdv A outer s H) [] (L2.start N vs) H s1 := (inv_start (E := E0) (CX := CX0) S hr.hd e0 (by rw [rv.length]; exact hl) rv new).wish _
  have fin : ∀ {σ2 : L2.St} {H2 : Hp} {v : V} {u : Value} {s2 : Shared}, Inv (bodyX P w K mg base N x (defScope st) f cdv A outer s H) [] σ2 H2 s2 → RelV v u → Q v H2 → CE outer P w H s Q u s2 :=
    fun {σ2 H2 v u s2} I rv q => ⟨v, H2, I.os, I.bare, I.base, I.hok, rv, q⟩
  have q0 : t { nx := fun _ H' => Q .non H', rt := Q } (L2.start N vs) H := by
    refine snd α (L2.start N vs) H (startD N ds) μ _ _ S0 (env_start rd) (hq ds μ Qd hsp) ⟨?_, ?_, ?_, ?_⟩
    · rintro σ' H' α' ρ' μ' g S' _ ⟨μ'', sb, q⟩
      exact post _ _ _ _ _ g (S'.sub sb) .non q
    · rintro v H' α' μ' d g S' r ⟨μ'', sb, q⟩
      exact post _ _ _ _ _ g (S'.sub sb) r q
    · intro σ' H' α' ρ' μ' _ _ _ q
      exact q.elim
    · intro σ' H' α' ρ' μ' _ _ _ q
      exact q.elim
  refine wpAny_mono (ht.run [] s1 _ H _ J q0) (fun fl s2 hs => ?_) fun e s2 hs => hs.elim
  cases fl with
  | next =>
    obtain ⟨σ2, H2, I2, q⟩ := hs
    exact fin (v := V.non) (u := Value.none) I2 rfl q
  | ret u =>
    obtain ⟨v, σ2, H2, I2, rv2, q⟩ := hs
    exact fin I2 rv2 q
  | brk => exact hs.elim fun _ h => h.elim fun _ h => h.2.elim
  | cont => exact hs.elim fun _ h => h.elim fun _ h => h.2.elim
theorem Has.mono {j k : Nat} {x : Str} {st : Stmt} {ps : List Str} {sp : DSp} (h : Has P w K mg base j x st ps sp) (hk : j ≤ k) : Has P w K mg base k x st ps sp := by
  obtain ⟨f, fd, hm, F, G⟩ := h.ex
  exact ⟨f, fd, hm, F, ⟨G.len, fun A outer s H args us vs α μ ds Qd Q hr => G.run A outer s H args us vs α μ ds Qd Q (hr.mono hk)⟩⟩
end

/-! ### calls -/
section
variable {X : Cx} {k : Nat} {x : Str} {st : Stmt} {ps : List Str} {sp : DSp} {p pos : Pos}
/-- how a def binds so many arguments, and keywords: g puts them in the parameters' order -/
def BindK (st : Stmt) (x : Str) (ps ks : List Str) (n : Nat) (g : {β : Type} → List β → List β → List β) : Prop :=
  ∀ (kV doc pm : Value) (an : Option Addr) (cdv ct : Value) (us ws : List Value), us.length = n → ws.length = ks.length → (g us ws).length = ps.length ∧ bindArgs (PySem.W.fnOf x x (defArgs st) (defBody st) (defScope st) .none kV doc pm an cdv ct) ⟨us, ks.zip ws⟩ = pure (ps.zip (g us ws))
/-- the places of a list, in another sequence -/
def permG (l : List Nat) {β : Type} (_ as : List β) : List β := l.filterMap fun i => as[i]?
theorem perm_rl {K : PySem.W.Frag} {α : List Addr} {H : Hp} {vs : List V} {ds : List D} (r : RlAll K α H vs ds) : ∀ (l : List Nat), RlAll K α H (permG l [] vs) (permG l [] ds)
  | [] => .nil
  | i :: l => by
    unfold permG
    rw [List.filterMap_cons, List.filterMap_cons]
    cases e : ds[i]? with
    | some d =>
      obtain ⟨v, h1, h2⟩ := r.get e
      rw [h1]
      exact .cons h2 (perm_rl r l)
    | none =>
      have e2 : vs[i]? = none := by
        cases q : vs[i]? with
        | none => rfl
        | some v =>
          obtain ⟨d, h1, _⟩ := r.getV q
          rw [e] at h1
          cases h1
      rw [e2]
      exact perm_rl r l
theorem perm_vals {vs : List V} {us : List Value} (r : Vals vs us) : ∀ (l : List Nat), Vals (permG l [] vs) (permG l [] us)
  | [] => .nil
  | i :: l => by
    unfold permG
    rw [List.filterMap_cons, List.filterMap_cons]
    cases e : vs[i]? with
    | some v =>
      obtain ⟨u, h1, h2⟩ := r.get e
      rw [h1]
      exact .cons h2 (perm_vals r l)
    | none =>
      rw [r.none_of e]
      exact perm_vals r l
theorem run_g {X : Cx} {f : Addr} {fd : FuncData} (F : FnG X.prog X.w X.K X.mg X.base k f fd ps sp) (hr : Room k X.A) (hgd : X.A.guards = some []) {pins : List (Addr × Obj)} {σ : L2.St} {H : Hp} {s : Shared} {Q : VK} {us : List Value} {kw : List (Str × Value)} {zs : List Value} {vs : List V} {α : List Addr} {μ : Mu} {ds : List D} {Qd : DK}
    (I : Inv X pins σ H s) (hl : zs.length = ps.length) (hb : BindsTo s fd ⟨us, kw⟩ (ps.zip zs)) (r : Vals vs zs) (S : Sat X.K α H μ) (rd : RlAll X.K α H vs ds) (h : sp ds μ Qd) (post : PostE X.K α H Qd Q) :
    wpAny (model X.prog X.w) X.A (call (.ref f) us kw) (EP X pins σ Q) X.xe s := by
  refine wpAny_call (codeAny_mono (F.run X.A X.stack s H _ zs vs α μ ds Qd Q hr hgd I.env0 hl hb r S rd h post) fun res s' hq => ?_)
  cases res with
  | error e => exact False.elim hq
  | ok fl =>
    cases fl with
    | ret u => exact I.after hq
    | _ => exact False.elim hq
def dFn (sp : DSp) (da : DTA) : DTE := fun ρ μ Q => da ρ μ fun ds μ1 => sp ds μ1 Q
/-- f(e, ..): the arguments' number is told by their shape -/
theorem de_fn {e : Expr} {es : List Expr} {da : DTA} (h : Has X.prog X.w X.K X.mg X.base k x st ps sp) (hr : Room k X.A) (hgd : X.A.guards = some []) (ha : PAD X (e :: es) da)
    (hb : BindK st x ps [] ps.length (fun as _ => as)) (hn : es.length + 1 = ps.length := by rfl) (hg : Gl X x := by rfl) (hdb : (x == ("__debug__" : Str)) = false := by decide)
    (he : starEach (e :: es) X.env = (false, eval e X.env) :: starEach es X.env := by rfl) (hpl : (backTo pos (starEach es X.env)).any (·.1) = false := by rfl) :
    PED X (.Call (.Name x p) (e :: es) [] pos) (dFn sp da) := by
  obtain ⟨f, fd, hm, F, G⟩ := h.ex
  obtain ⟨ta, a1, a2⟩ := ha.ex
  refine ⟨fun σ H Q => ta σ H fun vs H1 => ∃ α μ ds Qd, Sat X.K α H1 μ ∧ RlAll X.K α H1 vs ds ∧ sp ds μ Qd ∧ PostE X.K α H1 Qd Q, ⟨fun pins s σ H Q I h => ?_⟩, fun α σ H ρ μ Qd Q S E h post => ?_⟩
  · refine wpAny_Call_Name_kw (ld_glob I hg hm ?_ hdb)
    refine PySem.W.callWith_K (h₀ := X.base) I.ok.mod.kin F.kp (thn (a1.run pos pins s σ H _ I h) fun us s1 ⟨vs, H1, I1, r, α, μ, ds, Qd, S1, rd, hs, post⟩ => ⟨I1.kIn, ?_⟩) he hpl
    obtain ⟨oc, od, kV, doc, pm, an, cdv, ct, osl, rfl, lk, hcd⟩ := F.ex
    have hl : us.length = ps.length := by rw [← r.length, rd.length]; exact G.len _ _ _ hs
    exact run_g G hr hgd I1 hl (.of_eq (hb kV doc pm an cdv ct us [] hl rfl).2) r S1 rd hs post
  · exact a2 α σ H ρ μ _ _ S E h fun vs H1 α1 μ1 ds g1 S1 r1 q1 => ⟨α1, μ1, ds, Qd, S1, r1, q1, post.mono g1⟩
/-- keywords' values, from the left -/
def taLen (n : Nat) (K : PySem.W.Frag) (da : DTA) : TA := fun σ H Q => ∃ α ρ μ Qd, Sat K α H μ ∧ EnvOk K α H σ ρ ∧ da ρ μ Qd ∧
  ∀ vs H' α' μ' ds, Gr α H α' H' → Sat K α' H' μ' → RlAll K α' H' vs ds → vs.length = n → Qd ds μ' → Q vs H'
structure PKD (X : Cx) (n : Nat) (kws : List Keyword) (da : DTA) : Prop where
  ex : PK X kws (taLen n X.K da)
theorem dk_nil : PKD X 0 [] daNil := ⟨⟨fun pos pins s σ H Q I h => by
  obtain ⟨α, ρ, μ, Qd, S, E, h, post⟩ := h
  exact pk_nil.run pos pins s σ H Q I (post [] H α μ [] (Gr.refl α H) S .nil rfl h)⟩⟩
theorem dk_cons {n : Nat} {e : Expr} {kws : List Keyword} {nm : Option Str} {kpos : Pos} {de : DTE} {dr : DTA} (he : PED X e de) (hr : PKD X n kws dr) : PKD X (n + 1) (⟨nm, e, kpos⟩ :: kws) (daCons de dr) := ⟨⟨fun pos pins s σ H Q I h => by
  obtain ⟨te, a1, a2⟩ := he.ex
  obtain ⟨α, ρ, μ, Qd, S, E, h, post⟩ := h
  refine (pk_cons (nm := nm) (kpos := kpos) a1 hr.ex).run pos pins s σ H Q I (a2 α σ H ρ μ _ _ S E h fun v H1 α1 μ1 d g1 S1 r1 q1 => ?_)
  exact ⟨α1, ρ, μ1, _, S1, E.mono g1, q1, fun vs H2 α2 μ2 ds g2 S2 r2 l2 q2 => post _ _ _ _ _ (g1.trans g2) S2 (.cons (r1.mono g2) r2) (by rw [List.length_cons, l2]) q2⟩⟩⟩
def dFnK (sp : DSp) (l : List Nat) (da : DTA) : DTE := fun ρ μ Q => da ρ μ fun ds μ1 => sp (permG l [] ds) μ1 Q
/-- f(k = e, ..): keywords alone; l: which keyword each parameter takes -/
theorem de_fnK (l : List Nat) {n : Nat} {kws : List Keyword} {ks : List Str} {da : DTA} (h : Has X.prog X.w X.K X.mg X.base k x st ps sp) (hr : Room k X.A) (hgd : X.A.guards = some []) (ha : PKD X n kws da)
    (hb : BindK st x ps ks 0 (permG l)) (hn : ks.length = n := by rfl) (hg : Gl X x := by rfl) (hdb : (x == ("__debug__" : Str)) = false := by decide)
    (hall : (backToKw pos (keywordEach kws X.env)).all (·.1.isSome) = true := by rfl) (hks : (backToKw pos (keywordEach kws X.env)).filterMap (·.1) = ks := by rfl)
    (hpl : ((backTo pos (starEach [] X.env)).any (·.1) || (backToKw pos (keywordEach kws X.env)).any (·.1.isNone)) = false := by rfl) : PED X (.Call (.Name x p) [] kws pos) (dFnK sp l da) := by
  obtain ⟨f, fd, hm, F, G⟩ := h.ex
  refine ⟨fun σ H Q => taLen n X.K da σ H fun vs H1 => vs.length = n ∧ ∃ α μ ds Qd, Sat X.K α H1 μ ∧ RlAll X.K α H1 (permG l [] vs) ds ∧ sp ds μ Qd ∧ PostE X.K α H1 Qd Q, ⟨fun pins s σ H Q I h => ?_⟩, fun α σ H ρ μ Qd Q S E h post => ?_⟩
  · refine wpAny_Call_Name_kw (ld_glob I hg hm ?_ hdb)
    refine PySem.W.callWith_KW0 (h₀ := X.base) I.ok.mod.kin F.kp hall (thn (ha.ex.run pos pins s σ H _ I h) fun us s1 ⟨vs, H1, I1, r, hl, α, μ, ds, Qd, S1, rd, hs, post⟩ => ⟨I1.kIn, ?_⟩) hpl
    obtain ⟨oc, od, kV, doc, pm, an, cdv, ct, osl, rfl, lk, hcd⟩ := F.ex
    rw [hks]
    obtain ⟨h1, h2⟩ := hb kV doc pm an cdv ct [] us rfl (by rw [← r.length, hn]; exact hl)
    exact run_g G hr hgd I1 h1 (.of_eq h2) (perm_vals r l) S1 rd hs post
  · exact ⟨α, ρ, μ, _, S, E, h, fun vs H1 α1 μ1 ds g1 S1 r1 l1 q1 => ⟨l1, α1, μ1, _, Qd, S1, perm_rl r1 l, q1, post.mono g1⟩⟩
end

/-! ### repr -/
section
variable {X : Cx} {K : PySem.W.Frag} {α : List Addr} {H : Hp}
def cRepr : List D → Mu → DK → Prop := fun ds μ Q => match ds with
  | [x] => ∃ p, Rs μ x p ∧ isDisplay p = true ∧ p.showable = true ∧ p.hasDict = false ∧ p.depth ≤ 60 ∧ p.shown.length ≤ sizeLine ∧ Q (.str p.shown) μ
  | _ => False
theorem c_repr (hgd : X.A.guards = some []) (hu : X.A.units + 64 < cLine) : CallD X (.builtin "repr") cRepr := by
  refine ⟨fun xs H Q => ∃ v d, xs = [v] ∧ Dp X.K H v d ∧ isDisplay d = true ∧ d.showable = true ∧ d.hasDict = false ∧ d.depth ≤ 60 ∧ d.shown.length ≤ sizeLine ∧ Q (.str d.shown) H, ?_, ?_⟩
  · intro pins s σ H xs us Q I r h
    obtain ⟨v, d, rfl, hd, h1, h2, h3, h4, h5, q⟩ := h
    obtain ⟨u, rfl, rv⟩ := vals1 r
    obtain ⟨as, rd⟩ := hd.reads I d v u rv
    obtain ⟨a, rfl⟩ := isRef_of_reads rd h1
    refine repr_of_reads' rd h2 (PyData.noDict_hsm h3) hgd (by omega) (fun _ _ e => e) (fun h' t tk hk => ?_) h5
    exact ⟨.str d.shown, H, I.kept (t' := tk) hk, ⟨t, rfl⟩, q⟩
  · intro α H μ xs dxs Qd Q S r h post
    unfold cRepr at h
    split at h
    · rename_i x
      obtain ⟨p, h0, h1, h2, h3, h4, h5, q⟩ := h
      obtain ⟨v, rfl, rx⟩ := rl1 r
      exact ⟨v, p, rfl, rx.dp S h0, h1, h2, h3, h4, h5, post.here S (.str _) q⟩
    · exact h.elim

/-! ### methods of lists -/
def mApp (do_ de : DTE) : DTE := fun ρ μ Q => do_ ρ μ fun o μ1 => match o with
  | .cell k => (μ1 k).isSome = true ∧ de ρ μ1 fun y μ2 => ∃ xs, μ2 k = some xs ∧ xs.length < sizeLine ∧ Q .non (μ2.upd k (xs ++ [y]))
  | _ => False
theorem de_append {o e : Expr} {apos cpos : Pos} {d1 d2 : DTE} (ho : PED X o d1) (he : PED X e d2)
    (mk : ∀ {to te : TE}, PE X o to → PE X e te → PE X (.Call (.Attribute o "append" apos) [e] [] cpos) (tBM X.K "list" rAppend to (tCons te tNil)) := by
      intro _ _ a b; exact pe_bm PySem.F.plainAttrs_list PySem.F.slot_list_append PySem.F.type_list_append mt_append a (pa_cons b pa_nil)) : PED X (.Call (.Attribute o "append" apos) [e] [] cpos) (mApp d1 d2) := by
  obtain ⟨t1, a1, a2⟩ := ho.ex
  obtain ⟨t2, b1, b2⟩ := he.ex
  refine ⟨_, mk a1 b1, fun α σ H ρ μ Qd Q S E h post => a2 α σ H ρ μ _ _ S E h fun v H1 α1 μ1 d g1 S1 r1 q1 => ?_⟩
  cases r1 with
  | @cell a k q =>
    obtain ⟨q1, q2⟩ := q1
    cases ex : μ1 k with
    | none =>
      rw [ex] at q1
      cases q1
    | some xs =>
      obtain ⟨b, vs, h1, h2, h3⟩ := S1.cell _ _ ex
      rw [q] at h1
      cases h1
      refine ⟨.inl ⟨rfl, vs, .of h2⟩, b2 α1 σ H1 ρ μ1 _ _ S1 (E.mono g1) q2 fun y H2 α2 μ2 dy g2 S2 r2 q2 => ?_⟩
      obtain ⟨ys, ey, hz, q2⟩ := q2
      obtain ⟨c, ws, k1, k2, k3⟩ := S2.cell _ _ ey
      have at2 := g2.pre _ _ q
      rw [at2] at k1
      cases k1
      exact ⟨_, ws, y, rfl, rfl, k2, by rw [k3.length]; exact hz, post _ _ _ _ _ ((g1.trans g2).trans (gr_set k2)) (S2.set at2 k2 (k3.append (.cons r2 .nil))) .non q2⟩
  | _ => exact False.elim q1
/-- xs.extend([..]), a fresh list -/
def mExtL (do_ : DTE) (dl : DTL) : DTE := fun ρ μ Q => do_ ρ μ fun o μ1 => match o with
  | .cell k => (μ1 k).isSome = true ∧ dl ρ μ1 fun ys μ2 => ∃ xs, μ2 k = some xs ∧ xs.length + ys.length ≤ sizeLine ∧ Q .non (μ2.upd k (xs ++ ys))
  | _ => False
theorem de_extendL {o e : Expr} {apos cpos : Pos} {d1 : DTE} {d2 : DTL} (ho : PED X o d1) (he : PLD X e d2)
    (mk : ∀ {to te : TE}, PE X o to → PE X e te → PE X (.Call (.Attribute o "extend" apos) [e] [] cpos) (tBM X.K "list" rExtend to (tCons te tNil)) := by
      intro _ _ a b; exact pe_bm PySem.F.plainAttrs_list PySem.F.slot_list_extend PySem.F.type_list_extend mt_extend a (pa_cons b pa_nil)) : PED X (.Call (.Attribute o "extend" apos) [e] [] cpos) (mExtL d1 d2) := by
  obtain ⟨t1, a1, a2⟩ := ho.ex
  obtain ⟨t2, b1, b2⟩ := he.ex
  refine ⟨_, mk a1 b1, fun α σ H ρ μ Qd Q S E h post => a2 α σ H ρ μ _ _ S E h fun v H1 α1 μ1 d g1 S1 r1 q1 => ?_⟩
  cases r1 with
  | @cell a k q =>
    obtain ⟨q1, q2⟩ := q1
    cases ex : μ1 k with
    | none =>
      rw [ex] at q1
      cases q1
    | some xs =>
      obtain ⟨b, vs, h1, h2, h3⟩ := S1.cell _ _ ex
      rw [q] at h1
      cases h1
      refine ⟨.inl ⟨rfl, vs, .of h2⟩, b2 α1 σ H1 ρ μ1 _ _ S1 (E.mono g1) q2 fun p j H2 α2 μ2 ys g2 n2 l2 S2 q2 => ?_⟩
      obtain ⟨S3, us, hp, r3⟩ := fresh_of n2 l2 S2
      obtain ⟨zs, ey, hz, q2⟩ := q2
      obtain ⟨c, ws, k1, k2, k3⟩ := S3.cell _ _ ey
      have at2 := g2.pre _ _ q
      rw [at2] at k1
      cases k1
      exact ⟨_, p, ws, us, rfl, rfl, k2, hp, by rw [k3.length, r3.length]; exact hz, post _ _ _ _ _ ((g1.trans g2).trans (gr_set k2)) (S3.set at2 k2 (k3.append r3)) .non q2⟩
  | _ => exact False.elim q1

/-! ### comprehensions, given to a name or not -/
variable {own : List (Str × Nat)} {elt tg iter : Expr} {ifs : List Expr} {scope : Scope} {pos spos : Pos} {di : DTI} {dg : DTG} {dt : DTT} {de : DTE}
theorem dts_nil {X : Cx} : PTsD X [] dYes := ⟨_, pts_nil, snd_yes⟩
theorem dts_one {X : Cx} {c : Expr} {d : DTT} (h : PTD X c d) : PTsD X [c] d := by
  obtain ⟨t, a, b⟩ := h.ex
  exact ⟨t, pts_one a, b⟩
/-- the reading that a reading over data gives, told outright -/
def teOf (K : PySem.W.Frag) (de : DTE) : TE := fun σ H Q => ∃ α ρ μ Qd, Sat K α H μ ∧ EnvOk K α H σ ρ ∧ de ρ μ Qd ∧ PostE K α H Qd Q
def ttOf (K : PySem.W.Frag) (dt : DTT) : TT := fun σ H Q => ∃ α ρ μ Qd, Sat K α H μ ∧ EnvOk K α H σ ρ ∧ dt ρ μ Qd ∧ PostT K α H Qd Q
theorem snd_teOf : SndE K (teOf K de) de := fun α σ H ρ μ Qd Q S E h post => ⟨α, ρ, μ, Qd, S, E, h, post⟩
theorem snd_ttOf : SndT K (ttOf K dt) dt := fun α σ H ρ μ Qd Q S E h post => ⟨α, ρ, μ, Qd, S, E, h, post⟩
theorem PED.pe {X : Cx} {e : Expr} (h : PED X e de) : PE X e (teOf X.K de) := by
  obtain ⟨te, a, b⟩ := h.ex
  exact ⟨fun pins s σ H Q I ⟨α, ρ, μ, Qd, S, E, h, post⟩ => a.run pins s σ H Q I (b α σ H ρ μ Qd Q S E h post)⟩
theorem PTsD.pts {X : Cx} {es : List Expr} (h : PTsD X es dt) : PTs X es (ttOf X.K dt) := by
  obtain ⟨te, a, b⟩ := h.ex
  exact ⟨fun pins s σ H Q I ⟨α, ρ, μ, Qd, S, E, h, post⟩ => a.run pins s σ H Q I (b α σ H ρ μ Qd Q S E h post)⟩
theorem wipe_set_in {i : Nat} {y : Option V} : ∀ {vs : List Nat} {σ : L2.St}, i ∈ vs → L2.wipe (σ.set i y) vs = L2.wipe σ vs
  | v :: vs, σ, h => by
    show (L2.wipe (σ.set i y) vs).set v none = (L2.wipe σ vs).set v none
    by_cases hv : i ∈ vs
    · rw [wipe_set_in hv]
    · have e : i = v := by
        cases h with
        | head => rfl
        | tail _ h => exact absurd h hv
      subst e
      have go : ∀ (us : List Nat), i ∉ us → L2.wipe (σ.set i y) us = (L2.wipe σ us).set i y := by
        intro us
        induction us with
        | nil => intro _; rfl
        | cons u us ih =>
          intro hu
          have h1 : u ≠ i := fun z => hu (z ▸ List.mem_cons_self ..)
          show (L2.wipe (σ.set i y) us).set u none = ((L2.wipe σ us).set u none).set i y
          rw [ih (fun z => hu (List.mem_cons_of_mem _ z)), List.set_comm _ _ h1.symm]
      rw [go vs hv, List.set_set]
theorem wipe_idem : ∀ {vs us : List Nat} {σ : L2.St}, (∀ v ∈ us, v ∈ vs) → L2.wipe (L2.wipe σ us) vs = L2.wipe σ vs
  | vs, [], σ, _ => rfl
  | vs, u :: us, σ, h => by
    show L2.wipe ((L2.wipe σ us).set u none) vs = _
    rw [wipe_set_in (h u (List.mem_cons_self ..)), wipe_idem fun v hv => h v (List.mem_cons_of_mem _ hv)]
/-- a target of a comprehension: one name, two names, three -/
structure OwnG (X : Cx) (scope : Scope) (own : List (Str × Nat)) (tg : Expr) (dg : DTG) : Prop where
  ex : ∃ g : TG, SndG X.K g dg ∧ (∀ σ v H Q, g v (L2.wipe σ (own.map (·.2))) H Q → g v (L2.wipe σ (own.map (·.2))) H fun σ2 H2 => L2.wipe σ2 (own.map (·.2)) = L2.wipe σ (own.map (·.2)) ∧ Q σ2 H2) ∧
    ∀ (s : Shared) (H : Hp) (C : Addr) (cl : List (Str × Addr)) (fp : List Addr), PG (X.blk s H scope (compEnvC scope cl C X.env) fp) tg g
theorem own_name {X : Cx} (i : Nat) {y : Str} {p : Pos} (hg : ∀ (s : Shared) (H : Hp) (C : Addr) (cl : List (Str × Addr)) (fp : List Addr), PG (X.blk s H scope (compEnvC scope cl C X.env) fp) (.Name y p) (gName i)) (hi : i ∈ own.map (·.2) := by decide) : OwnG X scope own (.Name y p) (gdName i) :=
  ⟨gName i, fun α σ H ρ μ v d Qd Q S e r h post => post _ _ _ _ _ (Gr.refl α H) S (e.set r) h, fun σ v H Q h => ⟨by rw [wipe_set_in hi, wipe_idem fun _ z => z], h⟩, hg⟩
theorem snd_gname {K : PySem.W.Frag} (i : Nat) : SndG K (gName i) (gdName i) := fun α σ H ρ μ v d Qd Q S e r h post => post _ _ _ _ _ (Gr.refl α H) S (e.set r) h
theorem own_pair {X : Cx} (i j : Nat) {tg : Expr} (hg : ∀ (s : Shared) (H : Hp) (C : Addr) (cl : List (Str × Addr)) (fp : List Addr), PG (X.blk s H scope (compEnvC scope cl C X.env) fp) tg (gTup X.K 2 (gCons (gName i) (gCons (gName j) gNil))))
    (hi : i ∈ own.map (·.2) := by decide) (hj : j ∈ own.map (·.2) := by decide) : OwnG X scope own tg (gdTup 2 (gdCons (gdName i) (gdCons (gdName j) gdNil))) := by
  refine ⟨_, fun α σ H ρ μ v d Qd Q S e r h post => ?_, fun σ v H Q h => ?_, hg⟩
  · unfold gdTup at h
    split at h
    · rename_i ds
      obtain ⟨hl, h⟩ := h
      cases r with
      | tup q r =>
        refine ⟨_, _, rfl, q, by rw [r.length]; exact hl, ?_⟩
        cases r with
        | nil => cases hl
        | cons r1 r =>
          cases r with
          | nil => cases hl
          | cons r2 r =>
            cases r with
            | cons _ _ => cases hl
            | nil => exact ⟨_, _, rfl, _, _, rfl, rfl, post _ _ _ _ _ (Gr.refl α H) S ((e.set r1).set r2) h⟩
    · exact h.elim
  · obtain ⟨a, xs, rfl, q, hl, v1, r1, rfl, v2, r2, rfl, rfl, h⟩ := h
    refine ⟨a, _, rfl, q, hl, v1, _, rfl, v2, _, rfl, rfl, ?_, h⟩
    rw [wipe_set_in hj, wipe_set_in hi, wipe_idem fun _ z => z]
theorem own_triple {X : Cx} (i j l : Nat) {tg : Expr} (hg : ∀ (s : Shared) (H : Hp) (C : Addr) (cl : List (Str × Addr)) (fp : List Addr), PG (X.blk s H scope (compEnvC scope cl C X.env) fp) tg (gTup X.K 3 (gCons (gName i) (gCons (gName j) (gCons (gName l) gNil)))))
    (hi : i ∈ own.map (·.2) := by decide) (hj : j ∈ own.map (·.2) := by decide) (hk : l ∈ own.map (·.2) := by decide) : OwnG X scope own tg (gdTup 3 (gdCons (gdName i) (gdCons (gdName j) (gdCons (gdName l) gdNil)))) := by
  refine ⟨_, fun α σ H ρ μ v d Qd Q S e r h post => ?_, fun σ v H Q h => ?_, hg⟩
  · unfold gdTup at h
    split at h
    · rename_i ds
      obtain ⟨hl, h⟩ := h
      cases r with
      | tup q r =>
        refine ⟨_, _, rfl, q, by rw [r.length]; exact hl, ?_⟩
        cases r with
        | nil => cases hl
        | cons r1 r =>
          cases r with
          | nil => cases hl
          | cons r2 r =>
            cases r with
            | nil => cases hl
            | cons r3 r =>
              cases r with
              | cons _ _ => cases hl
              | nil => exact ⟨_, _, rfl, _, _, rfl, _, _, rfl, rfl, post _ _ _ _ _ (Gr.refl α H) S (((e.set r1).set r2).set r3) h⟩
    · exact h.elim
  · obtain ⟨a, xs, rfl, q, hl, v1, r1, rfl, v2, r2, rfl, v3, r3, rfl, rfl, h⟩ := h
    refine ⟨a, _, rfl, q, hl, v1, _, rfl, v2, _, rfl, v3, _, rfl, rfl, ?_, h⟩
    rw [wipe_set_in hk, wipe_set_in hj, wipe_set_in hi, wipe_idem fun _ z => z]
theorem dl_lc {X : Cx} (own : List (Str × Nat)) (hN : X.N.Nodup) (hi : PID X tg iter di) (ho : OwnG X scope own tg dg) (ht : ∀ (s : Shared) (H : Hp) (C : Addr) (cl : List (Str × Addr)) (fp : List Addr), PTsD (X.blk s H scope (compEnvC scope cl C X.env) fp) ifs dt)
    (he : ∀ (s : Shared) (H : Hp) (C : Addr) (cl : List (Str × Addr)) (fp : List Addr), PED (X.blk s H scope (compEnvC scope cl C X.env) fp) elt de) (ok : blkC X.N X.env.scope scope own = true := by first | kernel_rfl | rfl) (hc : X.calm = true := by rfl)
    (hs : ∀ x, foldedSetIterable iter X.env x = pure x := by intro _; rfl) : PLD X (.ListComp elt [⟨tg, iter, ifs, 0⟩] scope pos) (dLc di dg dt de (own.map (·.2))) := by
  obtain ⟨wi, i1, i2⟩ := hi.ex
  obtain ⟨g, g1, g2, g3⟩ := ho.ex
  exact ⟨_, pe_lc (tt := ttOf X.K dt) (te := teOf X.K de) hc hN i1 (blkOk_by ok) g3 (fun s H C cl fp => (ht s H C cl fp).pts) (fun s H C cl fp => (he s H C cl fp).pe) hs, snd_lc i2 g1 g2 snd_ttOf snd_teOf⟩
theorem ds_setLc {X : Cx} (i : Nat) (own : List (Str × Nat)) {y : Str} {py : Pos} (hN : X.N.Nodup) (hi : PID X tg iter di) (ho : OwnG X scope own tg dg) (ht : ∀ (s : Shared) (H : Hp) (C : Addr) (cl : List (Str × Addr)) (fp : List Addr), PTsD (X.blk s H scope (compEnvC scope cl C X.env) fp) ifs dt)
    (he : ∀ (s : Shared) (H : Hp) (C : Addr) (cl : List (Str × Addr)) (fp : List Addr), PED (X.blk s H scope (compEnvC scope cl C X.env) fp) elt de) (ok : blkC X.N X.env.scope scope own = true := by first | kernel_rfl | rfl) (hc : X.calm = true := by rfl)
    (hy : X.N[i]? = some y := by rfl) (hyl : X.env.scope.names.lookup y = some .local := by rfl) (hsw : swapsWith (.ListComp elt [⟨tg, iter, ifs, 0⟩] scope pos) (some (.Name y py)) spos.line X.env = pure true := by exact sw_true rfl rfl rfl (by decide +kernel))
    (hs : ∀ x, foldedSetIterable iter X.env x = pure x := by intro _; rfl) : PSD X (.Assign [.Name y py] (.ListComp elt [⟨tg, iter, ifs, 0⟩] scope pos) spos) (dAsg (dNew (dLc di dg dt de (own.map (·.2)))) (gdName i)) := by
  obtain ⟨wi, i1, i2⟩ := hi.ex
  obtain ⟨g, g1, g2, g3⟩ := ho.ex
  refine ⟨_, ps_setLc (tt := ttOf X.K dt) (te := teOf X.K de) hc hN hy hyl hsw i1 (blkOk_by ok) g3 (fun s H C cl fp => (ht s H C cl fp).pts) (fun s H C cl fp => (he s H C cl fp).pe) hs, snd_asg ?_ (snd_gname i)⟩
  exact fun α σ H ρ μ Qd Q S E q post => snd_lc i2 g1 g2 snd_ttOf snd_teOf α σ H ρ μ _ Q S E q fun p k H' α' μ' xs g n a S' q' => post _ _ _ _ (.cell k) g S' (.cell a) (q' k n)
end
end Dl
/-! Dat5: operators and walks whatever the kind. -/
namespace Dl
open PySem PySem.Spec PyProof.Rows L2
variable {K : PySem.W.Frag} {α α1 : List Addr} {H H1 : Hp} {X : Cx}

/-- + of ints, texts, tuples, lists (a new list: a new cell) -/
def oPlus : D → D → Mu → DK → Prop := fun x y μ Q => match x, y with
  | .int i, .int j => Q (.int (i + j)) μ
  | .str i, .str j => i.length + j.length ≤ sizeLine ∧ Q (.str (i ++ j)) μ
  | .tup xs, .tup ys => xs.length + ys.length ≤ sizeLine ∧ Q (.tup (xs ++ ys)) μ
  | .cell j, .cell k => (match μ j, μ k with | some xs, some ys => xs.length + ys.length ≤ sizeLine ∧ ∀ n, μ n = none → Q (.cell n) (μ.upd n (xs ++ ys)) | _, _ => False)
  | _, _ => False
/-- .. and of lists where the answer is to be a fresh list -/
theorem PostL.of {Qd : DK} {Q : VK} (p : PostE K α H Qd Q) : PostL K α H (fun xs μ => ∀ n, μ n = none → Qd (.cell n) (μ.upd n xs)) Q :=
  fun a k H' α' μ' xs g n l S q => p _ _ _ _ (.cell k) g S (.cell l) (q k n)
theorem o_plus : OpD X (binaryOp .Add) oPlus := by
  obtain ⟨r1, a1, a2⟩ := (o_add (X := X)).ex
  obtain ⟨r3, c1, c2⟩ := (o_catT (X := X)).ex
  obtain ⟨r4, d1, d2⟩ := (o_catL (X := X)).ex
  refine ⟨_, OpR.or (OpR.or a1 op_add_str) (OpR.or c1 d1), fun α H μ x y dx dy Qd Q S rx ry h post => ?_⟩
  unfold oPlus at h
  split at h
  · exact .inl (.inl (a2 α H μ x y _ _ Qd Q S rx ry h post))
  · cases rx; cases ry
    exact .inl (.inr ⟨_, _, rfl, rfl, h.1, post.here S (.str _) h.2⟩)
  · exact .inr (.inl (c2 α H μ x y _ _ Qd Q S rx ry h post))
  · rename_i j k
    refine .inr (.inr (d2 α H μ x y (.cell j) (.cell k) (fun xs μ => ∀ n, μ n = none → Qd (.cell n) (μ.upd n xs)) Q S rx ry ?_ (PostL.of post)))
    show (match μ j, μ k with | some xs, some ys => _ | _, _ => False)
    split at h
    · exact h
    · exact h.elim
  · exact h.elim
/-- * of ints, of a list and an int -/
def oTimes : D → D → Mu → DK → Prop := fun x y μ Q => match x, y with
  | .int i, .int j => MulOk i j ∧ Q (.int (i * j)) μ
  | .cell j, .int n => (match μ j with | some xs => (-(2 ^ 63) ≤ n ∧ n < 2 ^ 63 ∧ xs.length * n.toNat ≤ sizeLine) ∧ ∀ m, μ m = none → Q (.cell m) (μ.upd m (List.replicate n.toNat xs).flatten) | _ => False)
  | _, _ => False
theorem o_times : OpD X (binaryOp .Mult) oTimes := by
  obtain ⟨r1, a1, a2⟩ := (o_mul (X := X)).ex
  obtain ⟨r4, d1, d2⟩ := (o_rep (X := X)).ex
  refine ⟨_, OpR.or a1 d1, fun α H μ x y dx dy Qd Q S rx ry h post => ?_⟩
  unfold oTimes at h
  split at h
  · exact .inl (a2 α H μ x y _ _ Qd Q S rx ry h post)
  · rename_i j n
    refine .inr (d2 α H μ x y (.cell j) (.int n) (fun xs μ => ∀ n, μ n = none → Qd (.cell n) (μ.upd n xs)) Q S rx ry ?_ (PostL.of post))
    show (match μ j with | some xs => _ | _ => False)
    split at h
    · exact h
    · exact h.elim
  · exact h.elim
/-- xs[lo:hi], xs a tuple or a list (a new cell) -/
def dSl (de : DTE) (d1 d2 : DTO) : DTE := fun ρ μ Q => de ρ μ fun x μ1 => d1 ρ μ1 fun lo μ2 => d2 ρ μ2 fun hi μ3 => match x with
  | .tup xs => Q (.tup (cutD xs lo hi)) μ3
  | x => (match litems μ3 x with | some xs => ∀ n, μ3 n = none → Q (.cell n) (μ3.upd n (cutD xs lo hi)) | none => False)
theorem de_slice {e : Expr} {lo hi : Option Expr} {p2 pos : Pos} {de : DTE} {d1 d2 : DTO} (he : PED X e de) (h1 : POD X lo d1) (h2 : POD X hi d2) : PED X (.Subscript e (.Slice lo hi none p2) pos) (dSl de d1 d2) := by
  obtain ⟨te, a1, a2⟩ := he.ex
  obtain ⟨t1, b1, b2⟩ := h1.ex
  obtain ⟨t2, c1, c2⟩ := h2.ex
  refine ⟨_, pe_slice (SlR.or sl_tupA sl_list) a1 b1 c1, fun α σ H ρ μ Qd Q S E h post => a2 α σ H ρ μ _ _ S E h fun v H1 α1 μ1 d g1 s1 r1 q1 =>
    b2 α1 σ H1 ρ μ1 _ _ s1 (E.mono g1) q1 fun o1 H2 α2 μ2 g2 s2 q2 => c2 α2 σ H2 ρ μ2 _ _ s2 ((E.mono g1).mono g2) q2 fun o2 H3 α3 μ3 g3 s3 q3 => ?_⟩
  have post3 := post.mono ((g1.trans g2).trans g3)
  have r3 := (r1.mono g2).mono g3
  have lists : ∀ {xs : List D}, litems μ3 d = some xs → (∀ n, μ3 n = none → Qd (.cell n) (μ3.upd n (cutD xs o1 o2))) → rSlL X.K v o1 o2 H3 Q := by
    intro xs ex q
    obtain ⟨a, vs, rfl, hq, r⟩ := s3.list r3 ex
    exact ⟨a, vs, rfl, hq, fun p hp => (PostL.of post3).here s3 (r.cut o1 o2) q hp⟩
  cases r3 with
  | @tup a vs ds q r =>
    refine .inl ⟨a, vs, rfl, q, fun w => ?_, fun _ p hp => post3.tup s3 (r.cut o1 o2) q3 hp⟩
    have e : cutD ds o1 o2 = ds := cut_all ds _ _ (by rw [← r.length]; exact w.1) (by rw [← r.length]; exact w.2)
    dsimp only at q3
    rw [e] at q3
    exact post3.here s3 (.tup q r) q3
  | frz q r =>
    dsimp only [litems] at q3
    exact .inr (lists rfl q3)
  | @cell a k q =>
    dsimp only [litems] at q3
    split at q3
    · rename_i xs ex
      exact .inr (lists ex q3)
    · exact False.elim q3
  | _ => exact False.elim q3
/-- walked: a list or a tuple -/
def diSeq (de : DTE) : DTI := fun ρ μ Q => de ρ μ fun x μ1 => match x with
  | .tup ds => Q ⟨ds, []⟩ μ1
  | x => (match lsrc μ1 x with | some s => Q s μ1 | none => False)
def iSeq (K : PySem.W.Frag) (tl : TE) : TI := fun σ H R => tl σ H fun x H1 => ∃ a, x = .ref a ∧ (((∃ xs, SqL K H1 a xs) ∧ R (Itl K a) H1) ∨ ((∃ xs, SqT K H1 a xs) ∧ R (Itt K a) H1))
theorem pi_seq {tg l : Expr} {tl : TE} (hl : PE X l tl) : PI X tg l (iSeq X.K tl) := by
  refine ⟨fun pins s σ H R I h => thn (hl.run pins s σ H _ I h) fun v s1 w => ?_⟩
  obtain ⟨x, H1, I1, r1, a, e, q⟩ := w
  subst e
  obtain rfl : v = Value.ref a := r1
  have own : ∀ b ∈ [s1.heap.objs.size], FpOk X pins H1 b := by
    intro b hb
    obtain rfl : b = s1.heap.objs.size := List.mem_singleton.mp hb
    exact I1.fpOk (Nat.le_refl _) (I1.hok.fresh (Nat.le_refl _))
  rcases q with ⟨⟨xs, hq⟩, q⟩ | ⟨⟨xs, hq⟩, q⟩
  · obtain ⟨its, _, pl, _⟩ := I1.list hq
    exact wpAny_pyIter_list pl.isList ⟨_, [s1.heap.objs.size], _, _, H1, rfl, I1.kept (t' := s1.toks) (fun b o z => Heap.get?_push_of_some _ z), turn_list a _, ⟨_, Heap.get?_push_size _ rfl, rfl, rfl⟩, own, q⟩
  · obtain ⟨its, _, pl, _⟩ := I1.tuple hq
    exact wpAny_pyIter_tuple (show s1.heap.IsTuple a its.toArray from pl) ⟨_, [s1.heap.objs.size], _, _, H1, rfl, I1.kept (t' := s1.toks) (fun b o z => Heap.get?_push_of_some _ z), turn_tuple a _, ⟨_, Heap.get?_push_size _ rfl, rfl, rfl⟩, own, q⟩
theorem di_seq {tg l : Expr} {de : DTE} (h : PED X l de) : PID X tg l (diSeq de) := by
  obtain ⟨t1, a1, a2⟩ := h.ex
  refine ⟨_, pi_seq a1, fun α σ H ρ μ Qd R S e h post => a2 α σ H ρ μ _ _ S e h fun v H1 α1 μ1 d g1 S1 r1 q1 => ?_⟩
  cases r1 with
  | tup q r => exact ⟨_, rfl, .inr ⟨⟨_, q⟩, post _ _ _ _ _ g1 S1 held_nil (itt_tup q r) q1⟩⟩
  | frz q r => exact ⟨_, rfl, .inl ⟨⟨_, q.seq⟩, post _ _ _ _ _ g1 S1 held_nil (itl_frz q r) q1⟩⟩
  | @cell a k q =>
    dsimp only [lsrc] at q1
    cases ex : μ1 k with
    | none =>
      rw [ex] at q1
      exact False.elim q1
    | some xs =>
      rw [ex] at q1
      obtain ⟨b, vs, h1, h2, h3⟩ := S1.cell k xs ex
      rw [q] at h1
      cases h1
      exact ⟨_, rfl, .inl ⟨⟨_, .of h2⟩, post _ _ _ _ _ g1 S1 (held_one ex) (itl_cell q) q1⟩⟩
  | _ => exact False.elim q1
/-- len of a text, a list, a tuple -/
def cLen : List D → Mu → DK → Prop := fun ds μ Q => match ds with
  | [.str z] => z.length ≤ sizeLine ∧ Q (.int (z.length : Nat)) μ
  | [x] => (match items μ x with | some xs => Q (.int (xs.length : Nat)) μ | none => False)
  | _ => False
theorem c_len : CallD X (.builtin "len") cLen := by
  refine ⟨_, CallR.or call_len_str call_len_seq, fun α H μ vs ds Qd Q S r h post => ?_⟩
  unfold cLen at h
  split at h
  · rename_i z
    obtain ⟨v, rfl, r1⟩ := rl1 r
    cases r1
    exact .inl ⟨z, rfl, h.1, post.here S (.int _) h.2⟩
  · rename_i x _
    obtain ⟨v, rfl, r1⟩ := rl1 r
    split at h
    · rename_i xs ex
      obtain ⟨a, us, rfl, q, r2⟩ := S.seq r1 ex
      exact .inr ⟨a, us, rfl, q, by rw [r2.length]; exact post.here S (.int _) h⟩
    · exact h.elim
  · exact h.elim
/-- list(range(lo, hi)) -/
def dlRange (d1 d2 : DTE) : DTL := fun ρ μ Q => d1 ρ μ fun x μ1 => d2 ρ μ1 fun y μ2 => match x, y with
  | .int lo, .int hi => ((Rg lo ∧ Rg hi) ∧ (hi - lo).toNat ≤ 2 ^ 24) ∧ Q (rangeD lo hi) μ2
  | _, _ => False
theorem rl_range (lo hi : Int) : RlAll K α H (rgV lo hi) (rangeD lo hi) := by
  unfold rgV rangeD
  generalize List.range (hi - lo).toNat = l
  induction l with
  | nil => exact .nil
  | cons a l ih => exact .cons (.int _) ih
theorem dl_range {a b : Expr} {d1 d2 : DTE} {p pos p2 pos2 : Pos} (hm : X.mg "list" = none) (hm2 : X.mg "range" = none) (ha : PED X a d1) (hb : PED X b d2) (hc : X.calm = true := by rfl)
    (mk : ∀ {ta tb : TE}, X.mg "list" = none → X.mg "range" = none → PE X a ta → PE X b tb → PE X (.Call (.Name "list" p) [.Call (.Name "range" p2) [a, b] [] pos2] [] pos) (tLstRg (tRg2 ta tb)) := by intro _ _ z1 z2 u v; exact pe_listRg (by rfl) (by rfl) z1 (prg_2 (by rfl) z2 u v)) :
    PLD X (.Call (.Name "list" p) [.Call (.Name "range" p2) [a, b] [] pos2] [] pos) (dlRange d1 d2) := by
  obtain ⟨t1, a1, a2⟩ := ha.ex
  obtain ⟨t2, b1, b2⟩ := hb.ex
  refine ⟨_, mk hm hm2 a1 b1, fun α σ H ρ μ Qd Q S E h post => a2 α σ H ρ μ _ _ S E h fun v1 H1 α1 μ1 x g1 s1 r1 q1 => b2 α1 σ H1 ρ μ1 _ _ s1 (E.mono g1) q1 fun v2 H2 α2 μ2 y g2 s2 r2 q2 => ?_⟩
  split at q2
  · rename_i lo hi
    cases r1; cases r2
    obtain ⟨⟨⟨k1, k2⟩, k3⟩, q2⟩ := q2
    exact ⟨lo, hi, rfl, rfl, ⟨k1.1, k1.2, k2.1, k2.2, k3⟩, fun q hq => (post.mono (g1.trans g2)).here s2 (rl_range lo hi) q2 hq⟩
  · exact False.elim q2
/-- isinstance(x, (A, B)), built-in classes -/
def cIsi2 (a b : String) (de : DTE) : DTE := fun ρ μ Q => de ρ μ fun x μ1 => match tyD μ1 x with
  | some t => (match kitB t a, kitB t b with | some u, some v => 2 ≤ sizeLine ∧ Q (.bl (u || v)) μ1 | _, _ => False)
  | none => False
/-- a, b, .. = a tuple -/
theorem dg_tup {es : List Expr} {k n : Nat} {pos : Pos} {gs : DTGs} (h : PGsD X es gs) (mk : ∀ {t : TGs}, PGs X es t → PG X (.Tuple es k pos) (gTup X.K n t) := by intro _ a; exact pg_tup (by rfl) a) : PGD X (.Tuple es k pos) (gdTup n gs) := by
  obtain ⟨t, a, b⟩ := h.ex
  refine ⟨_, mk a, fun α σ H ρ μ v d Qd Q S e r h post => ?_⟩
  unfold gdTup at h
  split at h
  · rename_i ds
    cases r with
    | tup q r => exact ⟨_, _, rfl, q, by rw [r.length]; exact h.1, b α σ H ρ μ _ _ _ _ S e r h.2 post⟩
  · exact h.elim
theorem bt_abs : bootBuiltins "abs" = some (.builtin "abs") := by decide +kernel
theorem bt_max : bootBuiltins "max" = some (.builtin "max") := by decide +kernel
theorem bt_min : bootBuiltins "min" = some (.builtin "min") := by decide +kernel
theorem bt_sum : bootBuiltins "sum" = some (.builtin "sum") := by decide +kernel
theorem bt_all : bootBuiltins "all" = some (.builtin "all") := by decide +kernel
theorem bt_any : bootBuiltins "any" = some (.builtin "any") := by decide +kernel
theorem bt_len : bootBuiltins "len" = some (.builtin "len") := by decide +kernel
theorem bt_divmod : bootBuiltins "divmod" = some (.builtin "divmod") := by decide +kernel
theorem bt_isinstance : bootBuiltins "isinstance" = some (.builtin "isinstance") := by decide +kernel
theorem bt_repr : bootBuiltins "repr" = some (.builtin "repr") := by decide +kernel
theorem bt_sorted : bootBuiltins "sorted" = some (.builtin "sorted") := by decide +kernel
theorem bt_int : bootBuiltins "int" = some (.type "int") := by decide +kernel
theorem bt_bool : bootBuiltins "bool" = some (.type "bool") := by decide +kernel
theorem bt_str : bootBuiltins "str" = some (.type "str") := by decide +kernel
theorem bt_tuple : bootBuiltins "tuple" = some (.type "tuple") := by decide +kernel
theorem bt_list : bootBuiltins "list" = some (.type "list") := by decide +kernel
theorem bt_dict : bootBuiltins "dict" = some (.type "dict") := by decide +kernel
end Dl
/-! Dat6: enumerate over a tuple, too. -/
namespace Dl
open PySem PySem.Spec PyProof.Rows L2

/-- one argument: a thing whose walk begins with the object o -/
theorem enum1_meets {v : Value} {o : Obj} {G : Heap → Prop} (B : Begins v o G) :
    Meets (Builtin.«enumerate.__new__» ⟨[.type "enumerate", v], []⟩) (fun _ R s => G s.heap ∧
      R (.ok (.ret (.ref (s.heap.push o).objs.size))) { s with heap := (s.heap.push o).push { cls := .type "enumerate", data := .fields #[.none, .bool false, .ref s.heap.objs.size, rawInt 0, .none, .none] } }) :=
  .of_wp fun prog w A R s hh => by
    obtain ⟨hp, g, d, tk, os⟩ := s
    obtain ⟨g1, hh⟩ := hh
    have hsub := sub_enumerate
    have go : ∀ {A' : Around} {E : Value → Shared → Prop} {Q : Value → Shared → Prop}, Q (.ref hp.objs.size) ⟨hp.push o, g, d, tk, os⟩ → wpAny (model prog w) A' (pyIter v) Q E ⟨hp, g, d, tk, os⟩ :=
      fun q => B.iter prog w _ _ ⟨hp, g, d, tk, os⟩ _ g1 q
    wp_walk using go
    refine wpAny_stack_any fun st => wpAny_pure ?_
    split
    · rename_i c _ _ _ _ _
      cases (c == Value.type "enumerate") <;>
      · wp_walk using go
        exact ⟨_, rfl, hh⟩
    · wp_walk using go
      exact ⟨_, rfl, hh⟩
theorem enum1_call {P : Program} {w : World} {A : Around} {E : Value → Shared → Prop} {s : Shared} {v : Value} {o : Obj} {G : Heap → Prop} {Q : Value → Shared → Prop} (B : Begins v o G) (g : G s.heap)
    (hh : ∀ h', IsEnum h' (s.heap.objs.size + 1) s.heap.objs.size 0 .none → h'.get? s.heap.objs.size = some o → (∀ b ob, s.heap.get? b = some ob → h'.get? b = some ob) → Q (.ref (s.heap.objs.size + 1)) { s with heap := h' }) :
    wpAny (model P w) A (call (.type "enumerate") [v]) Q E s := by
  refine callType_new F.called_enumerate (by decide) (F.typeCall_enumerate_1 _) (F.newCall_enumerate_1 _) (fun ob => F.args_object_init_2 ob _) F.entry_enumerate_new (enum1_meets B) ⟨g, ?_⟩
  have z : (s.heap.push o).objs.size = s.heap.objs.size + 1 := Heap.size_push ..
  show _ ∧ _
  rw [z]
  have e0 := Heap.get?_push_size (s.heap.push o) (o := { cls := .type "enumerate", data := .fields #[.none, .bool false, .ref s.heap.objs.size, rawInt 0, .none, .none] }) rfl
  rw [z] at e0
  exact ⟨⟨_, e0, rfl⟩, hh _ e0 (Heap.get?_push_of_some _ (Heap.get?_push_size _ B.free)) fun b ob q => Heap.get?_push_of_some _ (Heap.get?_push_of_some _ q)⟩
/-- the items of the tuple at a, in new pairs with their places -/
def Iet (K : PySem.W.Frag) (a : Addr) : It :=
  ⟨fun i H => ∃ (xs : List V) (x : V), SqT K H a xs ∧ xs[i]? = some x, fun i H v H' => ∃ T x, v = .ref T ∧ H T = none ∧ H' = upd H T (.tup [.int (i : Nat), x]) ∧ ∀ xs, SqT K H a xs → xs[i]? = some x, fun i H => ∃ xs : List V, SqT K H a xs ∧ xs.length ≤ i⟩
/-- a tuple's walk that is through -/
theorem draws_done {P : Program} {w : World} {A : Around} (hh : A.handled = none) {it t : Addr} (hne : t ≠ it) {xs : Array Value} {m : Nat} (hm : xs[m]? = none) :
    Draws P w A it [it, t] m (fun i v => xs[i]? = some v) (fun i h => i = m ∧ h.IsTupleIter it t i ∧ h.IsTuple t xs) where
  live := fun _ _ st => let ⟨o, ho, _⟩ := st.2.1; ⟨o, ho⟩
  frame := fun _ _ _ st hk => ⟨st.1, st.2.1.at fun o e => hk it (by simp) o e, st.2.2.at fun o e => hk t (by simp) o e⟩
  item := fun i s Q E hi st hQ => absurd hi (by rw [st.1]; exact Nat.lt_irrefl _)
  done := fun s Q E st hE => wpAny_nextOf_tuple_end hh st.2.1 st.2.2 hm hE
theorem turn_enumT {P : Program} {w : World} {K : PySem.W.Frag} {elts : List Expr} {kk : Nat} {tpos : Pos} (a e it : Addr) (hae : e ≠ a) (hai : a ≠ it) :
    Turn P w K (.Tuple elts kk tpos) (Iet K a) [e, it] e (fun i h => (∃ old, IsEnum h e it ((i : Nat) : Int) old) ∧ h.IsTupleIter it a i ∧ e ≠ it) where
  mem := by simp
  obj := fun i h st b hb => by
    obtain ⟨⟨old, he⟩, ⟨o, ho, hc, hd⟩, _⟩ := st
    rcases (show b = e ∨ b = it by simpa using hb) with rfl | rfl
    · exact ⟨_, he, fun v q => nomatch q⟩
    · exact ⟨o, ho, fun v q => by rw [hd] at q; cases q⟩
  keep := fun i h h' st k => let ⟨⟨old, he⟩, hi, hne⟩ := st; ⟨⟨old, k e (by simp) _ he⟩, hi.at fun o q => k it (by simp) o q, hne⟩
  item := by
    rintro X rfl rfl rfl hc i pins s σ H E I hf ⟨⟨old, he⟩, hit, hne⟩ ⟨xs, x, hq, hx⟩
    obtain ⟨its, rv, p, hz⟩ := I.tuple hq
    obtain ⟨u, hu, ru⟩ := rv.get hx
    have hel : e < s.heap.objs.size := Heap.lt_size he
    have hil : it < s.heap.objs.size := by obtain ⟨_, q, _⟩ := hit; exact Heap.lt_size q
    have hi : i < its.toArray.size := by
      rw [List.size_toArray]
      exact (List.getElem?_eq_some_iff.mp hu).1
    refine wpAny_pyNext_enum_itemD (Draws.tuple (A := X.A.in1) (I.ok.hd hc) it a hai its.toArray) he ⟨hit, p⟩ hi hne (by simp [hne, hae]) fun y h' tk hy ho st' hT hsz hk => ?_
    have ey : y = u := by
      have hy : its.toArray[i]? = some y := hy
      rw [List.getElem?_toArray, hu] at hy
      exact (Option.some.inj hy).symm
    subst ey
    refine ⟨_, rfl, wpAny_letOwnedTupleGo_enum (s := { s with heap := h', toks := tk + 1 }) ho fun h'' he' sb => ?_⟩
    have hT2 : h''.get? s.heap.objs.size = some { cls := .type "tuple", data := .seq #[.int i tk, y] } := (sb.2 _ (Nat.ne_of_gt hel)).trans hT
    have new : ObjOk X.prog X.w (upd H s.heap.objs.size (.tup [.int (i : Nat), x])) h'' s.heap.objs.size (.tup [.int (i : Nat), x]) :=
      ⟨by show 2 ≤ sizeLine; decide, [.int i tk, y], .cons ⟨_, rfl⟩ (.cons ru .nil), ⟨_, hT2, rfl, _, rfl⟩⟩
    have I1 : Inv X pins σ (upd H s.heap.objs.size (.tup [.int (i : Nat), x])) { s with heap := h'', toks := tk + 1 } :=
      I.turnedNew (ch := [e, it]) (fun b ob hb q => (sb.2 b (fun z => hb (by simp [z]))).trans (hk b ob (fun z => hb (by simp [z])) (fun z => hb (by simp [z])) q)) hf (Nat.le_refl _) new
    refine ⟨.ref s.heap.objs.size, _, I1, rfl, ⟨_, x, rfl, I.hok.fresh (Nat.le_refl _), rfl, fun ys hy => by rw [I.tuple_inj hy hq]; exact hx⟩, ⟨⟨y, ?_⟩, st'.1.at fun o q => (sb.2 it (Ne.symm hne)).trans q, hne⟩, fun b hb => ?_⟩
    · rw [show ((i + 1 : Nat) : Int) = (i : Int) + 1 by omega]
      exact he'
    · have hb' : b < s.heap.objs.size := by
        rcases (show b = e ∨ b = it by simpa using hb) with rfl | rfl
        · exact hel
        · exact hil
      rw [upd_ne (Nat.ne_of_lt hb')]
      exact (hf b hb).1
  done := by
    rintro X rfl rfl rfl hc i pins s σ H E I hf ⟨⟨old, he⟩, hit, hne⟩ ⟨xs, hq, hx⟩
    obtain ⟨its, rv, p, hz⟩ := I.tuple hq
    obtain ⟨f0, f1, f2, f3, f4, f5⟩ := hf it (by simp)
    have hl := rv.length
    have hm : its.toArray[i]? = none := by
      rw [List.getElem?_toArray]
      exact List.getElem?_eq_none (by omega)
    exact wpAny_pyNext_enum_endD (draws_done (A := X.A.in1) (I.ok.hd hc) hai hm) he ⟨rfl, hit, p⟩ fun h' eb => ⟨rfl, I.turned (t' := s.toks) (fun b o hb q => eb b o hb q) f0 f1 f3 f4 f5⟩
  self := fun A i s Q E st h => let ⟨⟨_, he⟩, _⟩ := st; wpAny_pyIter_enum he h
def iEnumQ (K : PySem.W.Frag) (ta : TA) : TI := fun σ H R => ta σ H fun vs H1 => ∃ a, vs = [.ref a] ∧ (((∃ xs, SqL K H1 a xs) ∧ R (Ite K a) H1) ∨ ((∃ xs, SqT K H1 a xs) ∧ R (Iet K a) H1))
theorem pi_enumQ {X : Cx} {e : Expr} {ta : TA} {p pos tpos : Pos} {elts : List Expr} {kk : Nat} (hg : Gl X "enumerate") (hm : X.mg "enumerate" = none) (ha : PA X [e] ta) (hs : starEach [e] X.env = [(false, eval e X.env)] := by rfl) :
    PI X (.Tuple elts kk tpos) (.Call (.Name "enumerate" p) [e] [] pos) (iEnumQ X.K ta) := by
  refine ⟨fun pins s σ H R I h => Call_ (ld_blt I hg hm boot_enumerate (PyProof.Rows.callWith_type1 (thn (ha.run pos pins s σ H _ I h) fun us s1 w => ?_) hs rfl))⟩
  obtain ⟨vs, H1, I1, r1, a, rfl, q⟩ := w
  obtain ⟨u, rfl, r⟩ : ∃ u, us = [u] ∧ RelV (.ref a) u := by
    cases r1 with
    | cons r rr =>
      cases rr
      exact ⟨_, rfl, r⟩
  obtain rfl : u = Value.ref a := r
  have own : ∀ b ∈ [s1.heap.objs.size + 1, s1.heap.objs.size], FpOk X pins H1 b := by
    intro b hb
    have le : s1.heap.objs.size ≤ b := by
      rcases (show b = s1.heap.objs.size + 1 ∨ b = s1.heap.objs.size by simpa using hb) with rfl | rfl
      · exact Nat.le_succ _
      · exact Nat.le_refl _
    exact I1.fpOk le (I1.hok.fresh le)
  rcases q with ⟨⟨xs, hq⟩, q⟩ | ⟨⟨xs, hq⟩, q⟩
  · obtain ⟨its, rv, pl, hz⟩ := I1.list hq
    exact enum1_call (begins_list a its.toArray) pl.isList fun h' he ho hk => wpAny_pyIter_enum he
      ⟨_, [s1.heap.objs.size + 1, s1.heap.objs.size], _, _, H1, rfl, I1.kept (t' := s1.toks) hk, turn_enum a _ _, ⟨⟨.none, he⟩, ⟨_, ho, rfl, rfl⟩, Nat.succ_ne_self _⟩, own, q⟩
  · obtain ⟨its, rv, pl, hz⟩ := I1.tuple hq
    have al : a < s1.heap.objs.size := by
      obtain ⟨o, e, _⟩ := (show s1.heap.IsTuple a its.toArray from pl)
      exact Heap.lt_size e
    exact enum1_call (begins_tuple a its.toArray) pl fun h' he ho hk => wpAny_pyIter_enum he
      ⟨_, [s1.heap.objs.size + 1, s1.heap.objs.size], _, _, H1, rfl, I1.kept (t' := s1.toks) hk, turn_enumT a _ _ (Nat.ne_of_gt (Nat.lt_succ_of_lt al)) (Nat.ne_of_lt al), ⟨⟨.none, he⟩, ⟨_, ho, rfl, rfl⟩, Nat.succ_ne_self _⟩, own, q⟩
/-- counted: a list or a tuple -/
def diEnum2 (de : DTE) : DTI := fun ρ μ Q => de ρ μ fun x μ1 => match x with
  | .tup ds => Q ⟨enumD ds, []⟩ μ1
  | x => (match lsrc μ1 x with | some s => Q ⟨enumD s.its, s.keep⟩ μ1 | none => False)
theorem ite_ok {X : Cx} {α : List Addr} {H : Hp} {a : Addr} {s : Src} (L : LOk X.K a s α H) : ItOk X.K (Ite X.K a) ⟨enumD s.its, s.keep⟩ α H := ⟨fun α' H' μ' g S' hd' => by
  obtain ⟨ws, q', r'⟩ := L.ok α' H' μ' g S' hd'
  have len : (enumD s.its).length = ws.length := by rw [enumD_len, r'.length]
  refine ⟨fun i hi => ?_, fun i hi => ?_, fun i d v H2 hg hy => ?_⟩
  · have hi : i < (enumD s.its).length := hi
    rw [len] at hi
    exact ⟨ws, ws[i], q', by simp⟩
  · have hi : (enumD s.its).length ≤ i := hi
    rw [len] at hi
    exact ⟨ws, q', hi⟩
  · obtain ⟨x, hx, rfl⟩ := enumD_get hg
    obtain ⟨T, y, rfl, hT, rfl, hy⟩ := hy
    obtain ⟨w, hw, rw'⟩ := r'.get hx
    have e2 := hy ws q'
    rw [hw] at e2
    cases e2
    exact new_pair S' (.int _) rw' hT⟩
theorem iet_ok {X : Cx} {α : List Addr} {H : Hp} {a : Addr} {vs : List V} {ds : List D} (q : SqT X.K H a vs) (r : RlAll X.K α H vs ds) : ItOk X.K (Iet X.K a) ⟨enumD ds, []⟩ α H := ⟨fun α' H' μ' g S' hd' => by
  have q' := g.ext.seqT q
  have r' := r.mono g
  have len : (enumD ds).length = vs.length := by rw [enumD_len, r'.length]
  refine ⟨fun i hi => ?_, fun i hi => ?_, fun i d v H2 hg hy => ?_⟩
  · have hi : i < (enumD ds).length := hi
    rw [len] at hi
    exact ⟨vs, vs[i], q', by simp⟩
  · have hi : (enumD ds).length ≤ i := hi
    rw [len] at hi
    exact ⟨vs, q', hi⟩
  · obtain ⟨x, hx, rfl⟩ := enumD_get hg
    obtain ⟨T, y, rfl, hT, rfl, hy⟩ := hy
    obtain ⟨w, hw, rw'⟩ := r'.get hx
    have e2 := hy vs q'
    rw [hw] at e2
    cases e2
    exact new_pair S' (.int _) rw' hT⟩
theorem di_enum2 {X : Cx} {e : Expr} {de : DTE} {p pos tpos : Pos} {elts : List Expr} {kk : Nat} (hm : X.mg "enumerate" = none) (he : PED X e de) (hg : Gl X "enumerate" := by rfl) (hs : starEach [e] X.env = [(false, eval e X.env)] := by rfl) (hs1 : starEach [e] X.env = (false, eval e X.env) :: starEach [] X.env := by rfl) :
    PID X (.Tuple elts kk tpos) (.Call (.Name "enumerate" p) [e] [] pos) (diEnum2 de) := by
  obtain ⟨t1, a1, a2⟩ := he.ex
  refine ⟨_, pi_enumQ hg hm (pa_cons a1 pa_nil hs1) hs, fun α σ H ρ μ Qd R S en h post => a2 α σ H ρ μ _ _ S en h fun v H1 α1 μ1 d g1 S1 r1 q1 => ?_⟩
  have lists : ∀ {s : Src}, lsrc μ1 d = some s → Qd ⟨enumD s.its, s.keep⟩ μ1 → ∃ a, [v] = [V.ref a] ∧ (((∃ xs, SqL X.K H1 a xs) ∧ R (Ite X.K a) H1) ∨ ((∃ xs, SqT X.K H1 a xs) ∧ R (Iet X.K a) H1)) := by
    intro s es q
    obtain ⟨hd, a, vs, rfl, q0, L⟩ := lok_of S1 r1 es
    exact ⟨a, rfl, .inl ⟨⟨vs, q0⟩, post _ _ _ _ ⟨enumD s.its, s.keep⟩ g1 S1 hd (ite_ok L) q⟩⟩
  cases r1 with
  | tup q r => exact ⟨_, rfl, .inr ⟨⟨_, q⟩, post _ _ _ _ ⟨enumD _, []⟩ g1 S1 held_nil (iet_ok q r) q1⟩⟩
  | frz q r => exact lists rfl q1
  | @cell a k q =>
    dsimp only [lsrc] at q1 lists
    cases ex : μ1 k with
    | none =>
      rw [ex] at q1
      exact False.elim q1
    | some xs =>
      rw [ex] at q1 lists
      exact lists rfl q1
  | _ => exact False.elim q1
/-- three names at once -/
def dPar3 (i j l : Nat) (da : DTA) : DTS := fun D ρ μ => da ρ μ fun ds μ1 => match ds with | [u, v, w] => D.nx (((ρ.set i (some u)).set j (some v)).set l (some w)) μ1 | _ => False
theorem ds_par3 {X : Cx} (i j l : Nat) {x y z : Str} {a b c : Expr} {da : DTA} {px py pz pt pos : Pos} {kt k2 pt2} (hN : X.N.Nodup) (ha : PAD X [a, b, c] da) (hc : X.calm = true := by rfl) (hi : X.N[i]? = some x := by rfl) (hj : X.N[j]? = some y := by rfl) (hl : X.N[l]? = some z := by rfl)
    (hij : i ≠ j := by decide) (hil : i ≠ l := by decide) (hjl : j ≠ l := by decide)
    (hx : X.env.scope.names.lookup x = some .local := by rfl) (hy : X.env.scope.names.lookup y = some .local := by rfl) (hz : X.env.scope.names.lookup z = some .local := by rfl)
    (hw : swappedStores [.Tuple [.Name x px, .Name y py, .Name z pz] kt pt] (.Tuple [a, b, c] k2 pt2) X.env = pure (some [x, y, z]) := by rfl)
    (hs : swapsWithSole [.Tuple [.Name x px, .Name y py, .Name z pz] kt pt] (.Tuple [a, b, c] k2 pt2) pos.line X.env = pure false := by rfl) :
    PSD X (.Assign [.Tuple [.Name x px, .Name y py, .Name z pz] kt pt] (.Tuple [a, b, c] k2 pt2) pos) (dPar3 i j l da) := by
  obtain ⟨t1, a1, a2⟩ := ha.ex
  refine ⟨_, ps_par3 hc hN hi hj hl hij hil hjl hx hy hz a1 hw hs, fun α σ H ρ μ D E S e h post => a2 α σ H ρ μ _ _ S e h fun vs H' α' μ' ds g S' r h' => ?_⟩
  unfold dPar3 at h
  split at h'
  · cases r with
    | cons r1 r =>
      obtain ⟨v, w, rfl, r2, r3⟩ := rl2 r
      exact ⟨_, v, w, rfl, post.nx _ _ _ _ _ g S' ((((e.mono g).set r1).set r2).set r3) h'⟩
  · exact False.elim h'
end Dl
/-! Dat7: sorted over a list of tuples of ints. -/
namespace Dl
open PySem PySem.Spec PyProof.Rows L2 PySem.W

section
variable {prog : Program} {w : World} {A : Around} {E : Value → Shared → Prop} {s : Shared}
/-- tuple.__lt__, as the sort asks it of one kind of keys -/
theorem lt_one {v u : Value} {ns ms : List Int} {Q : Bool → Shared → Prop} (hu : A.units < cLine) (hv : TS.TupInts s.heap v ns) (hw : TS.TupInts s.heap u ms) (q : Q (HT.lexLt ns ms) s) : wpAny (model prog w) A (keyLt' oneType' v u) Q E s := by
  obtain ⟨a, xs, rfl, ⟨⟨c1, d1, dt1, sl1⟩, ga, hc, n1, hd⟩, ia⟩ := hv
  obtain ⟨b, ys, rfl, ⟨⟨c2, d2, dt2, sl2⟩, gb, hc2, n2, hd2⟩, ib⟩ := hw
  simp only at hc hd hc2 hd2
  subst hc hd hc2 hd2
  rw [keyLt'_oneType, oneLt'_eq]
  simp only [if_true]
  refine wpAny_bind (wpAny_cRoomFor hu ?_)
  refine wpAny_bind (wpAny_callSpecialIfBound?_slot (T := "tuple") ⟨_, ga, rfl⟩ PySem.F.slot_tuple_lt ?_)
  exact call_meets PySem.F.slot_tuple_lt ⟨_, ga, rfl⟩ PySem.F.entry_tuple_lt (PySem.F.args_tuple_lt_2 _ _) (HT.tuple_lt_ints a b xs ys n1 n2 d1 d2 sl1 sl2 ns ms ia ib) ⟨ga, gb, wpAny_truthy_bool q⟩
/-- .. of tuples, item by item -/
theorem lt_lex {b fin : Bool} {Q : Bool → Shared → Prop} : ∀ {xs ys : List Value} {ns ms : List Int} (i : Nat), IntsAre xs ns → IntsAre ys ms → fin = decide (ns.length < ms.length) → Q (HT.lexLt ns ms) s → PySem.W.KatLex prog w A b fin Q (xs.zip ys) i s
  | _, _, _, _, i, .nil, .nil, hf, q => by
    rw [HT.lexLt_nil_nil] at q
    subst hf
    exact PySem.W.kat_nil q
  | _, _, _, _, i, .nil, .cons y t r, hf, q => by
    rw [HT.lexLt_nil_cons] at q
    subst hf
    refine PySem.W.kat_nil ?_
    rw [decide_eq_true (by rw [List.length_nil, List.length_cons]; omega)]
    exact q
  | _, _, _, _, i, .cons x t r, .nil, hf, q => by
    rw [HT.lexLt_cons_nil] at q
    subst hf
    refine PySem.W.kat_nil ?_
    rw [decide_eq_false (by rw [List.length_nil, List.length_cons]; omega)]
    exact q
  | _, _, _, _, i, .cons x t r, .cons y u r', hf, q => by
    rw [HT.lexLt_cons] at q
    refine PySem.W.kat_cons (wpAny_eqBool_int ?_)
    by_cases e : x = y
    · subst e
      rw [if_pos rfl] at q
      rw [beq_self_eq_true]
      refine PySem.W.kat_yes (lt_lex (i + 1) r r' ?_ q)
      rw [hf, List.length_cons, List.length_cons]
      exact decide_eq_decide.mpr (by omega)
    · rw [if_neg e] at q
      rw [show (x == y) = false from beq_eq_false_iff_ne.mpr e]
      exact PySem.W.kat_no (TS.oneLt_ints _ q)
theorem lt_tups {b : Bool} {v u : Value} {ns ms : List Int} {Q : Bool → Shared → Prop} (hv : TS.TupInts s.heap v ns) (hw : TS.TupInts s.heap u ms) (q : Q (HT.lexLt ns ms) s) : wpAny (model prog w) A (keyLt' (tuples' b) v u) Q (fun _ _ => False) s := by
  obtain ⟨a, xs, rfl, ⟨o, ga, hc, n1, hd⟩, ia⟩ := hv
  obtain ⟨c, ys, rfl, ⟨o2, gb, hc2, n2, hd2⟩, ib⟩ := hw
  refine PySem.W.kat_lt ga hd gb hd2 ?_
  refine lt_lex 0 ia ib ?_ q
  have l1 := ia.length
  have l2 := ib.length
  rw [Array.length_toList] at l1 l2
  exact decide_eq_decide.mpr (by omega)
/-- all keys are tuples; the first is empty -/
theorem kind_emp {vs : List Value} {k : Value → List Int} {Q : SortKind → Shared → Prop} {v : Value} {rest : List Value} (e : vs = v :: rest) (h2 : 2 ≤ vs.length) (hv : ∀ u ∈ vs, TS.TupInts s.heap u (k u)) (h0 : k v = []) (h : Q oneType' s) :
    wpAny (model prog w) A (keyKind' vs.toArray) Q E s := by
  have ty : ∀ {M : Model}, ∀ u ∈ vs, Looks M s.heap (typeOf u) (.type "tuple") := by
    intro M u hm
    obtain ⟨a, xs, rfl, ⟨o, ga, hc, n1, hd⟩, ia⟩ := hv u hm
    rw [← hc]
    exact (Looks.ld ga).andThen .now
  have firsts : ∀ (us : List Value) {Q' : List (Option Value) → Shared → Prop}, (∀ u ∈ us, u ∈ vs) → (∀ rs, rs.length = us.length → (∀ u us', us = u :: us' → k u = [] → ∃ rs', rs = none :: rs') → Q' rs s) → wpAny (model prog w) A (us.mapM firstOfTuple') Q' E s := by
    intro us
    induction us with
    | nil =>
      intro Q' _ q
      rw [List.mapM_nil]
      exact wpAny_pure (q [] rfl fun u us' z => nomatch z)
    | cons u us ih =>
      intro Q' hm q
      rw [List.mapM_cons]
      refine wpAny_bind ?_
      rw [kas_first_eq]
      refine wpAny_bind ((ty u (hm u (List.mem_cons_self ..))).here ?_)
      rw [if_neg (by decide)]
      obtain ⟨a, xs, eu, ⟨o, ga, hc, n1, hd⟩, ia⟩ := hv u (hm u (List.mem_cons_self ..))
      rw [eu]
      refine wpAny_bind (listItems_at ga hd (wpAny_pure ?_))
      refine wpAny_bind (ih (fun z hz => hm z (List.mem_cons_of_mem _ hz)) fun rs hl _ => wpAny_pure ?_)
      refine q _ (by rw [List.length_cons, List.length_cons, hl]) fun u' us' z hk => ?_
      obtain ⟨rfl, rfl⟩ := List.cons.inj z
      rw [hk] at ia
      have : xs.size = 0 := by
        have := ia.length
        rw [Array.length_toList] at this
        exact this
      exact ⟨rs, by rw [Array.getElem?_eq_none (by omega)]⟩
  rw [kat_kind_eq, List.mapM_toArray, map_eq_pure_bind]
  refine wpAny_bind (wpAny_bind (firsts vs (fun _ z => z) fun rs hl hh => wpAny_pure ?_))
  obtain ⟨rs', rfl⟩ := hh v rest e h0
  rw [if_neg (by simp), if_neg (by simp)]
  rw [oneTypeOnly'_eq, List.mapM_toArray, map_eq_pure_bind]
  refine wpAny_bind (wpAny_bind (wpAny_bind (kas_mapM (r := Value.type "tuple") _ (fun v hv Q' hq => (ty v hv).here hq) (wpAny_pure ?_))))
  have hall : ((List.map (fun _ => Value.type "tuple") vs).toArray.all fun x => x == Value.type "tuple") = true := by
    simp only [List.all_toArray, List.all_map, List.all_eq_true]
    intro _ _
    show (Value.type "tuple" == Value.type "tuple") = true
    decide +kernel
  have h0' : (List.map (fun _ => Value.type "tuple") vs).toArray[0]? = some (Value.type "tuple") := by rw [e]; simp
  rw [h0']
  simp only [hall, if_true]
  exact wpAny_pure (wpAny_pure h)
/-- which lists of tuples: all with an item at least, or the first is empty -/
def SrtMode (nss : List (List Int)) : Prop := (∀ ns ∈ nss, ns ≠ []) ∨ ∃ r, nss = [] :: r
theorem tups_sortable {a : Addr} {vs : List Value} {k : Value → List Int} (h2 : 2 ≤ vs.length) (hu : A.units < cLine) (hv : ∀ v ∈ vs, TS.TupInts s.heap v (k v)) (hm : SrtMode (vs.map k)) (ha : ∀ o, s.heap.get? a = some o → o.cls ≠ .type "tuple") :
    SrtO.SortableO prog w A s a vs fun v u => HT.lexLt (k v) (k u) := by
  intro h' keep
  have hv' : ∀ v ∈ vs, TS.TupInts h' v (k v) := fun v hm => (hv v hm).keeps fun b o e c => keep b o (fun z => by subst z; exact ha o e c) e
  rcases hm with hm | ⟨r, hm⟩
  · obtain ⟨fs, t, hl, hi⟩ : ∃ fs, PySem.W.KatTups h' vs fs ∧ fs.length = vs.length ∧ ∀ f, f ∈ fs → ∃ n t, f = Value.int n t := by
      clear h2 ha keep hv
      induction vs with
      | nil => exact ⟨[], PySem.W.KatTups.nil, rfl, fun f hf => nomatch hf⟩
      | cons v vs ih =>
        obtain ⟨fs, t, hl, hi⟩ := ih (fun u hu => hv' u (List.mem_cons_of_mem _ hu)) fun ns hn => hm ns (List.mem_cons_of_mem _ hn)
        obtain ⟨b, xs, rfl, ⟨o, gb, hc, n, hd⟩, ib⟩ := hv' v (List.mem_cons_self ..)
        have ne := hm (k (.ref b)) (List.mem_cons_self ..)
        obtain ⟨m, ms, em⟩ : ∃ m ms, k (.ref b) = m :: ms := by
          cases e : k (.ref b) with
          | nil => exact absurd e ne
          | cons m ms => exact ⟨m, ms, rfl⟩
        rw [em] at ib
        cases hx : xs.toList with
        | nil =>
          rw [hx] at ib
          cases ib
        | cons y ys =>
          rw [hx] at ib
          cases ib with
          | cons _ t2 _ =>
            refine ⟨_ :: fs, PySem.W.KatTups.cons gb hc hd (f := Value.int m t2) ?_ t, by simp [hl], fun f hf => ?_⟩
            · have z := congrArg (fun l : List Value => l[0]?) hx
              simpa using z
            · rcases List.mem_cons.mp hf with rfl | hf
              · exact ⟨_, _, rfl⟩
              · exact hi f hf
    refine ⟨tuples' true, fun Q E hq => ?_, fun p q hp hq => lt_tups (s := { s with heap := h' }) (hv' _ hp) (hv' _ hq) ⟨rfl, rfl⟩⟩
    refine PySem.W.kat_kind (T := .type "int") t (by omega) (fun f hm => ?_) (by rfl) ?_
    · obtain ⟨x, t, rfl⟩ := hi f hm
      exact PySem.W.Looks.of_pure rfl
    · have e : (Value.type "int" != Value.type "tuple") = true := by decide +kernel
      rw [e]
      exact hq
  · obtain ⟨v, rest, e⟩ : ∃ v rest, vs = v :: rest := by
      cases vs with
      | nil => simp at h2
      | cons v rest => exact ⟨v, rest, rfl⟩
    have h0 : k v = [] := by
      rw [e, List.map_cons] at hm
      exact (List.cons.inj hm).1
    exact ⟨oneType', fun Q E hq => kind_emp (s := { s with heap := h' }) e h2 hv' h0 hq, fun p q hp hq => lt_one (s := { s with heap := h' }) hu (hv' _ hp) (hv' _ hq) ⟨rfl, rfl⟩⟩
theorem sorted_tups {l : Addr} {vs : List Value} {k : Value → List Int} {Q : Value → Shared → Prop} (hu : A.units + 8 < cLine) (hl : s.heap.IsList l vs.toArray) (hz : vs.length ≤ sizeLine) (hp : ∀ v ∈ vs, TS.TupInts s.heap v (k v)) (hm : SrtMode (vs.map k))
    (h : ∀ (h' : Heap) (d : Addr) (out : List Value), out.Perm vs → out.Pairwise (fun v u => HT.lexLt (k u) (k v) = false) → (∀ b o, s.heap.get? b = some o → h'.get? b = some o) → s.heap.objs.size ≤ d → (∃ n, h'.get? d = some (seqObj "list" out.toArray n)) → Q (.ref d) { s with heap := h' }) :
    wpAny (model prog w) A (call (.builtin "sorted") [.ref l]) Q E s := by
  refine SrtO.sorted_ord (NtL.swo_lexL k) hl hz (fun h2 h₁ a ha kk => ?_) fun out hs hb => ?_
  · refine tups_sortable (s := { s with heap := h₁ }) h2 ?_ (fun v hm => (hp v hm).keeps fun b o e _ => (kk b o e).2) hm fun o e => ?_
    · show A.units + 1 + 1 < cLine
      omega
    · have e' : some o = some (seqObj "list" vs.toArray 0) := e.symm.trans ha
      cases e'
      intro c
      exact absurd (Value.type.inj c) (by decide)
  · exact h _ _ out hb.perm hs (fun b o e => sortedAll_old e) (Nat.le_succ _) (sortedAll_at s.heap vs out.toArray)
end
section
variable {X : Cx}
/-- sorted over a list of tuples of ints (with what each holds) -/
def rSortT (K : PySem.W.Frag) : List V → Hp → VK → Prop := fun vs H Q => ∃ (a : Addr) (ps : List (V × List Int)), vs = [.ref a] ∧ SqL K H a (ps.map (·.1)) ∧ (∀ p ∈ ps, ∃ t, p.1 = .ref t ∧ SqT K H t (p.2.map V.int)) ∧ SrtMode (ps.map (·.2)) ∧
  ∀ (out : List (V × List Int)) (q : Addr), out.Perm ps → out.Pairwise (fun x y => HT.lexLt y.2 x.2 = false) → H q = none → Q (.ref q) (upd H q (.lst (out.map (·.1))))
theorem cr_sortT (hu : X.A.units + 64 < cLine) : CallR X (.builtin "sorted") (rSortT X.K) := by
  intro pins s σ H vs us Q I r h
  obtain ⟨a, ps, rfl, hs, hp, hm, q⟩ := h
  obtain ⟨its, rv, hl, hz⟩ := I.list hs
  obtain ⟨u, rfl, ru⟩ := vals1 r
  obtain rfl : u = Value.ref a := ru
  -- each item's numbers are those that the heap holds
  have pair : ∀ (ps : List (V × List Int)) (its : List Value), (∀ p ∈ ps, ∃ t, p.1 = .ref t ∧ SqT X.K H t (p.2.map V.int)) → Vals (ps.map (·.1)) its →
      ps = its.map (fun u => (backV u, TS.intsOf s.heap u)) ∧ ∀ u ∈ its, TS.TupInts s.heap u (TS.intsOf s.heap u) ∧ ∃ t, u = Value.ref t := by
    intro ps
    induction ps with
    | nil =>
      intro its _ rv
      cases rv
      exact ⟨rfl, fun u hu => nomatch hu⟩
    | cons p ps ih =>
      intro its hp rv
      rw [List.map_cons] at rv
      cases rv with
      | cons r1 r2 =>
        obtain ⟨e1, e2⟩ := ih _ (fun z hz => hp z (List.mem_cons_of_mem _ hz)) r2
        obtain ⟨t, et, st⟩ := hp p (List.mem_cons_self ..)
        rw [et] at r1
        rename_i u us
        obtain rfl : u = Value.ref t := r1
        obtain ⟨its2, rv2, tp, _⟩ := I.tuple st
        have ti : TS.TupInts s.heap (.ref t) p.2 := ⟨t, its2.toArray, rfl, tp, intsAre_of rv2⟩
        have ei := ti.ints
        refine ⟨?_, fun u hu => ?_⟩
        · rw [List.map_cons, ← e1, ei]
          exact congrArg (· :: ps) (Prod.ext et rfl)
        · rcases List.mem_cons.mp hu with rfl | hu
          · rw [ei]
            exact ⟨ti, t, rfl⟩
          · exact e2 u hu
  obtain ⟨e1, e2⟩ := pair ps its hp rv
  have lz : its.length ≤ sizeLine := by rw [← rv.length]; exact hz
  refine sorted_tups (k := TS.intsOf s.heap) (by omega) hl.isList lz (fun v hv => (e2 v hv).1) ?_ fun h' d out hpm hso kp hd hn => ?_
  · rw [e1, List.map_map] at hm
    exact hm
  · obtain ⟨n, hn⟩ := hn
    have h3 : ∀ u ∈ out, ∃ a, u = Value.ref a := fun u hu => (e2 u (hpm.mem_iff.mp hu)).2
    have em : (out.map fun u => (backV u, TS.intsOf s.heap u)).map (·.1) = out.map backV := by rw [List.map_map]; rfl
    refine ⟨.ref d, upd H d (.lst ((out.map fun u => (backV u, TS.intsOf s.heap u)).map (·.1))), I.laid (t' := s.toks) kp hd ⟨?_, out, n, ?_, hn⟩, rfl, q _ d ?_ ?_ (I.hok.fresh hd)⟩
    · rw [em, List.length_map, hpm.length_eq]
      exact lz
    · rw [em]
      exact vals_back h3
    · rw [e1]
      exact hpm.map _
    · exact List.pairwise_map.mpr hso
/-! ### over data -/
def encI (ns : List Int) : D := .tup (ns.map D.int)
def sSrt : List D → Mu → (List D → Mu → Prop) → Prop := fun xs μ Q => ∃ nss : List (List Int), xs = nss.map encI ∧ SrtMode nss ∧ ∀ out : List (List Int), out.Perm nss → out.Pairwise (fun x y => HT.lexLt y x = false) → Q (out.map encI) μ
theorem rl_pairs {K : PySem.W.Frag} {α : List Addr} {H : Hp} : ∀ {out : List (V × List Int)}, (∀ p ∈ out, Rl K α H p.1 (encI p.2)) → RlAll K α H (out.map (·.1)) ((out.map (·.2)).map encI)
  | [], _ => .nil
  | p :: out, h => .cons (h p (List.mem_cons_self ..)) (rl_pairs fun z hz => h z (List.mem_cons_of_mem _ hz))
theorem pairs_rl {K : PySem.W.Frag} {α : List Addr} {H : Hp} : ∀ {nss : List (List Int)} {vs : List V}, RlAll K α H vs (nss.map encI) → ∃ ps : List (V × List Int), ps.map (·.1) = vs ∧ ps.map (·.2) = nss ∧ ∀ p ∈ ps, Rl K α H p.1 (encI p.2)
  | [], _, r => by
    cases r
    exact ⟨[], rfl, rfl, fun p hp => nomatch hp⟩
  | ns :: nss, _, r => by
    cases r with
    | cons a b =>
      obtain ⟨ps, e1, e2, h⟩ := pairs_rl b
      refine ⟨(_, ns) :: ps, by rw [List.map_cons, e1], by rw [List.map_cons, e2], fun p hp => ?_⟩
      rcases List.mem_cons.mp hp with rfl | hp
      · exact a
      · exact h p hp
theorem s_srt (hu : X.A.units + 64 < cLine) : SeqLD X (.builtin "sorted") false sSrt := ⟨_, cr_sortT hu, fun α H μ p vs xs Qd Q S q r h post => by
  obtain ⟨nss, rfl, hm, h⟩ := h
  obtain ⟨ps, e1, e2, hr⟩ := pairs_rl r
  refine ⟨p, ps, rfl, ?_, fun z hz => ?_, by rw [e2]; exact hm, fun out l hp ho hl => ?_⟩
  · rw [e1]
    exact q.resolve_right fun z => nomatch z.1
  · have rz := hr z hz
    obtain ⟨zv, zn⟩ := z
    unfold encI at rz
    cases rz with
    | tup q r => exact ⟨_, rfl, by rw [← RlAll.ints r]; exact q⟩
  · refine post.here S (rl_pairs fun z hz => hr z (hp.mem_iff.mp hz)) (h _ ?_ ?_) hl
    · rw [← e2]
      exact hp.map _
    · exact List.pairwise_map.mpr ho⟩
end
/-! ### sum over a list or a tuple -/
section
variable {X : Cx}
def rSumT (K : PySem.W.Frag) : List V → Hp → VK → Prop := fun vs H Q => ∃ (a : Addr) (ns : List Int), vs = [V.ref a] ∧ SqT K H a (ns.map V.int) ∧ Q (.int ns.sum) H
theorem cr_sumT (hc : X.calm = true) : CallR X (.builtin "sum") (rSumT X.K) := by
  intro pins s σ H vs us Q I r h
  obtain ⟨a, ns, rfl, hs, q⟩ := h
  obtain ⟨its, rv, hl, _⟩ := I.tuple hs
  rw [Vals.ref1 r]
  have hi : IntsAre its ns := rv.ints
  obtain ⟨xs, e⟩ := hi.allInts.items
  have hn : numsOf (intItems xs).toList = ns := by rw [← e]; exact hi.numsOf
  rw [nums_intItems] at hn
  rw [e] at hl
  refine PySem.W.ktm_sumG (I.ok.hd hc) hl fun h' tk t' hk => ?_
  rw [preSum_eq, List.take_of_length_le (by simp), hn]
  exact ⟨.int _, H, I.kept hk, ⟨_, rfl⟩, q⟩
theorem s_sum2 (hc : X.calm = true) : SeqD X (.builtin "sum") true sSum := ⟨_, CallR.or (cr_sum hc) (cr_sumT hc), fun α H μ p vs xs Qd Q S q r h post => by
  obtain ⟨ns, rfl, h⟩ := h
  have e := r.ints
  subst e
  rcases q with q | ⟨_, q⟩
  · exact .inl ⟨p, ns, rfl, q, post.here S (.int _) h⟩
  · exact .inr ⟨p, ns, rfl, q, post.here S (.int _) h⟩⟩
end
end Dl
/-! Se: set(tuple of ints) == set(list of ints), the same members, each once. -/
namespace Dl
open PySem PySem.Spec PyProof.Rows L2
theorem entry_set_eq : entryFor table "set.__eq__" = some Builtin.«frozenset.__eq__» := entryFor_alias (id' := "frozenset.__eq__") (by kernel_rfl) rfl (by decide +kernel) (by kernel_rfl)
theorem sub_set_frz : isSubtype (.type "set") (.type "frozenset") = pure false := by rw [isSubtype_type]; kernel_rfl
theorem forIn_same {β γ : Type} {M : Model} {A : Around} {E : Value → Shared → Prop} {s : Shared} (f : β → γ → Sem (ForInStep γ)) (c : γ) {Q : γ → Shared → Prop} : ∀ l : List β,
    (∀ e ∈ l, ∀ Q' : ForInStep γ → Shared → Prop, Q' (.yield c) s → wpAny M A (f e c) Q' E s) → Q c s → wpAny M A (ForIn.forIn l c f) Q E s
  | [], _, h => by
    rw [List.forIn_nil]
    exact wpAny_pure h
  | e :: l, hf, h => by
    rw [List.forIn_cons]
    exact wpAny_bind (hf e (List.mem_cons_self ..) _ (forIn_same f c l (fun x hx => hf x (List.mem_cons_of_mem _ hx)) h))
section
variable {P : Program} {w : World} {A : Around} {E : Value → Shared → Prop} {s : Shared} {a b : Addr} {S S2 : Int → Bool} {n m : Nat}
theorem size_of {Q : Nat → Shared → Prop} (R : s.heap.SetOf (intKind P w) a S n) (h : Q n s) : wpAny (model P w) A (Builtin.Frozenset.sizeOf a) Q E s := by
  obtain ⟨o, es, ep, t, ho, hx, hd, g, hm, hb, hf, hn⟩ := R
  unfold Builtin.Frozenset.sizeOf
  refine wpAny_bind (wpAny_setEntries_of ho hd hf (wpAny_pure ?_))
  rw [hn]
  exact h
theorem sub_at {id : String} {Q : Bool → Shared → Prop} (R : s.heap.SetOf (intKind P w) a S n) (R2 : s.heap.SetOf (intKind P w) b S2 m) (hn : n = m) (hS : ∀ k, S k = true → S2 k = true) (h : Q true s) : wpAny (model P w) A (Builtin.Frozenset.subsetOf id a b) Q E s := by
  unfold Builtin.Frozenset.subsetOf
  refine wpAny_bind (size_of R (wpAny_bind (size_of R2 ?_)))
  rw [if_neg (by omega)]
  have so := R2
  obtain ⟨o, es, ep, t, ho, hx, hd, g, hm, hb, hf, hn⟩ := R
  obtain ⟨o2, es2, ep2, t2, ho2, hx2, hd2, g2, hm2, hb2, hf2, hn2⟩ := R2
  refine wpAny_bind (wpAny_setEpoch_of ho hd hf ?_)
  unfold Builtin.Frozenset.walkUnseen
  refine wpAny_bind (wpAny_bind (wpAny_setEntries_of ho hd hf (wpAny_bind (wpAny_setEntries_of ho2 hd2 hf2 (wpAny_bind (forIn_same _ _ _ (fun e he Q' q => ?_) ?_))))))
  · have ge : e.2.scannable = true := by
      rcases List.mem_append.mp he with z | z
      · exact (g e z).2
      · exact (g2 e z).2
    obtain ⟨h0, x⟩ := e
    dsimp only at ge ⊢
    have qx : Builtin.Frozenset.quietEq x = pure true := by
      unfold Builtin.Frozenset.quietEq
      cases x <;> first | rfl | (simp [Value.scannable] at ge)
    rw [qx]
    exact wpAny_bind (wpAny_pure (wpAny_pure q))
  · refine wpAny_pure ?_
    refine wpAny_bind (forIn_same _ _ _ (fun e he Q' q => ?_) (wpAny_pure h))
    obtain ⟨⟨k, e1, e2⟩, e3⟩ := g e he
    have hk : S2 k = true := hS k ((hm k).mpr ⟨e, he, e1⟩)
    obtain ⟨h0, x⟩ := e
    dsimp only at e1 e2 e3 ⊢
    subst e2
    refine wpAny_bind (wpAny_holding (wpAny_setFind_of (knd := intKind P w) (k := k) e1 e3 so fun r hr => ?_))
    rw [hk] at hr
    have hn0 : r.isNone = false := by
      cases r with
      | none => cases hr
      | some _ => rfl
    rw [hn0]
    unfold Builtin.Frozenset.unchanged
    refine wpAny_bind (wpAny_bind (wpAny_setEpoch_of ho hd hf ?_))
    rw [if_neg (by simp)]
    exact wpAny_pure (wpAny_pure q)
theorem eq_body {Q : Value → Shared → Prop} (R : s.heap.SetOf (intKind P w) a S n) (R2 : s.heap.SetOf (intKind P w) b S2 m) (hn : n = m) (hS : ∀ k, S k = true → S2 k = true) (h : Q (.bool true) s) : wpAny (model P w) A (Builtin.«frozenset.__eq__» ⟨[.ref a, .ref b], []⟩) (fun fin s' => ∃ v, fin = .done (.ret v) ∧ Q v s') E s := by
  unfold Builtin.«frozenset.__eq__»
  have tb := R2.typeIs
  have ta := R.typeIs
  refine wpAny_bind (m := Builtin.Frozenset.slot1 _ _) (wpAny_pure ?_)
  refine wpAny_bind (m := Builtin.Frozenset.isAnySet _) ?_
  unfold Builtin.Frozenset.isAnySet orM
  refine wpAny_bind (wpAny_isInstance tb sub_set_self ?_)
  refine wpAny_pure ?_
  rw [if_neg (by decide)]
  unfold Builtin.Frozenset.addrOf
  refine wpAny_bind (m := Builtin.Frozenset.sizeOf a) (size_of R ?_)
  refine wpAny_bind (m := Builtin.Frozenset.sizeOf b) (size_of R2 ?_)
  refine wpAny_bind ?_
  rw [if_neg (by simpa using hn)]
  unfold andM
  refine wpAny_bind (wpAny_bind (wpAny_isInstance ta sub_set_frz ?_))
  refine wpAny_pure ?_
  exact sub_at R R2 hn hS (wpAny_pure ⟨_, rfl, h⟩)
theorem eq_sets {Q : Value → Shared → Prop} (R : s.heap.SetOf (intKind P w) a S n) (R2 : s.heap.SetOf (intKind P w) b S2 m) (hn : n = m) (hS : ∀ k, S k = true → S2 k = true) (hu : A.units < cLine) (h : Q (.bool true) s) : wpAny (model P w) A (compareOp .Eq (.ref a) (.ref b)) Q E s :=
  wpAny_richCompare_same_room (op := .Eq) R.typeIs R2.typeIs F.slot_set_eq (wpAny_call_entry F.slot_set_eq R.typeIs entry_set_eq (eq_body R R2 hn hS ⟨(fun e => nomatch e), h⟩) (F.args_set_eq_2 _ _)) hu
end
/-! ### over the layer -/
/-- the set at a holds just ns -/
def HoldsF (P : Program) (w : World) (h : Heap) (a : Addr) (ns : List Int) : Prop := ∃ S, h.SetOf (intKind P w) a S ns.length ∧ ∀ k, S k = true ↔ k ∈ ns
def SetF (P : Program) (w : World) (a : Addr) (ns : List Int) : HO := .ext fun h => HoldsF P w h a ns
theorem HoldsF.at {P : Program} {w : World} {h h' : Heap} {a : Addr} {ns : List Int} (R : HoldsF P w h a ns) (k : ∀ o, h.get? a = some o → h'.get? a = some o) : HoldsF P w h' a ns := by
  obtain ⟨S, ⟨o, es, ep, t, ho, r⟩, m⟩ := R
  exact ⟨S, ⟨o, es, ep, t, k o ho, r⟩, m⟩
section
variable {X : Cx}
theorem setF_new {w : World} {P : Program} {H : Hp} {h : Heap} {a : Addr} {ns : List Int} (R : HoldsF P w h a ns) : ObjOk P w H h a (SetF P w a ns) := by
  have ⟨S, ⟨o, _, _, _, ho, _⟩, _⟩ := R
  exact ⟨R, ⟨o, ho⟩, fun h1 h2 p k => HoldsF.at p k⟩
theorem setF_get {pins : List (Addr × Obj)} {σ : L2.St} {H : Hp} {s : Shared} {a : Addr} {ns : List Int} (I : Inv X pins σ H s) (ha : H a = some (SetF X.prog X.w a ns)) : HoldsF X.prog X.w s.heap a ns := (I.hok a _ ha).1
def rSetF (K : PySem.W.Frag) (P : Program) (w : World) : List V → Hp → VK → Prop := fun xs H Q => ∃ (l : Addr) (ns : List Int), xs = [.ref l] ∧ (SqL K H l (ns.map V.int) ∨ SqT K H l (ns.map V.int)) ∧ ns.Nodup ∧ ns.length ≤ 1000 ∧ ∀ p, H p = none → Q (.ref p) (upd H p (SetF P w p ns))
theorem cr_setF (hc : X.calm = true) : CallR X (.type "set") (rSetF X.K X.prog X.w) := by
  intro pins s σ H xs us Q I r h
  obtain ⟨l, ns, rfl, hq, hnd, hl, q⟩ := h
  rw [Vals.ref1 r]
  rcases hq with hq | hq
  · obtain ⟨its, rv, pl, hz⟩ := I.list hq
    have hlen : its.toArray.size = ns.length := by rw [List.size_toArray, ← rv.length, List.length_map]
    refine call_set_list (I.ok.hd hc) pl.isList (by simpa using RZ.intsAre_vals rv) (by rw [hlen]; unfold scanBound; omega) fun h' tk hS hk => ?_
    rw [hlen, RZ.firstMet_nodup hnd ns.length (Nat.le_refl _), List.take_length] at hS
    have new : HoldsF X.prog X.w h' s.heap.objs.size ns := ⟨_, hS, fun k => by
      rw [List.any_eq_true]
      exact ⟨fun ⟨y, hy, e⟩ => eq_of_beq e ▸ hy, fun z => ⟨k, z, beq_self_eq_true k⟩⟩⟩
    exact ⟨.ref _, upd H s.heap.objs.size (SetF X.prog X.w s.heap.objs.size ns), I.laid (t' := tk) (fun b u e => hk b u (Heap.lt_size e) e) (Nat.le_refl _) (setF_new new), rfl, q _ (I.hok.fresh (Nat.le_refl _))⟩
  · obtain ⟨its, rv, pt, hz⟩ := I.tuple hq
    have hi : IntsAre its.toArray.toList ns := ints_of_vals rv
    refine call_set_tupI ns (I.ok.hd hc) (show s.heap.IsTuple l its.toArray from pt) hi (by unfold scanBound; omega) fun h' tk c R1 hcn k => ?_
    have so := R1.setOf (P := X.prog)
    obtain ⟨o, es, ep, t, ho, hex, hdt, g, nd, hm2, hb, hf, hn, hr, hl2⟩ := R1
    have pm : (es.toList.map keyOf).Perm ns := (List.perm_ext_iff_of_nodup nd hnd).mpr fun j => by rw [← hm2 j, decide_eq_true_eq]
    have ec : c = ns.length := by
      have := pm.length_eq
      rw [List.length_map, Array.length_toList] at this
      omega
    subst ec
    have new : HoldsF X.prog X.w h' s.heap.objs.size ns := ⟨_, so, fun k => decide_eq_true_iff⟩
    exact ⟨.ref _, upd H s.heap.objs.size (SetF X.prog X.w s.heap.objs.size ns), I.laid (t' := tk) k (Nat.le_refl _) (setF_new new), rfl, q _ (I.hok.fresh (Nat.le_refl _))⟩
def rSetEq (P : Program) (w : World) : R2 := fun x y H Q => ∃ (a b : Addr) (ns ms : List Int), x = .ref a ∧ y = .ref b ∧ H a = some (SetF P w a ns) ∧ H b = some (SetF P w b ms) ∧ ns.length = ms.length ∧ (∀ k ∈ ns, k ∈ ms) ∧ Q (.bl true) H
theorem or_setEq (hu : X.A.units + 64 < cLine) : OpR X (compareOp .Eq) (rSetEq X.prog X.w) := by
  intro pins s σ H x y v u Q I rx ry h
  obtain ⟨a, b, ns, ms, rfl, rfl, ha, hb, hl, hs, q⟩ := h
  cases rx
  cases ry
  obtain ⟨S, so, m⟩ := setF_get I ha
  obtain ⟨S2, so2, m2⟩ := setF_get I hb
  exact eq_sets so so2 hl (fun k hk => (m2 k).mpr (hs k ((m k).mp hk))) (by omega) ⟨.bl true, H, I, rfl, q⟩
def dSetEq (d1 : DTE) (i : Nat) : DTE := fun ρ μ Q => d1 ρ μ fun x μ1 => match ρ[i]? with
  | some (some d) => ∃ ns ms : List Int, items μ1 x = some (ns.map D.int) ∧ items μ1 d = some (ms.map D.int) ∧ (ns.Nodup ∧ ms.Nodup ∧ ns.length ≤ 1000 ∧ ns.length = ms.length ∧ ∀ k ∈ ns, k ∈ ms) ∧ Q (.bl true) μ1
  | _ => False
theorem de_setEq {a : Expr} {y : Str} {d1 : DTE} {p p2 p3 q q2 pos : Pos} (i : Nat) (hc : X.calm = true) (hu : X.A.units + 64 < cLine) (hm : X.mg "set" = none) (ha : PED X a d1) (hN : X.N[i]? = some y := by rfl) (hv : Vis X.env.scope y := by first | exact Or.inl rfl | exact Or.inr (Or.inl rfl) | exact Or.inr (Or.inr rfl))
    (hd : (y == ("__debug__" : Str)) = false := by decide) (hcd : (y == ("__classdict__" : Str)) = false := by decide) (hg : Gl X "set" := by rfl) (he : starEach [a] X.env = (false, eval a X.env) :: starEach [] X.env := by rfl) (hpl : (backTo q (starEach [] X.env)).any (·.1) = false := by rfl) :
    PED X (.Compare (.Call (.Name "set" p) [a] [] q) [.Eq] [.Call (.Name "set" p2) [.Name y p3] [] q2] pos) (dSetEq d1 i) := by
  obtain ⟨ta, a1, a2⟩ := ha.ex
  refine ⟨_, pe_cmpR (or_setEq hu) (pe_callTy (cr_setF hc) hg hm PyProof.Rows.boot_set (pa_cons (hs := he) a1 pa_nil) (by decide) (by decide) he hpl) (pe_callTy (cr_setF hc) hg hm PyProof.Rows.boot_set (pa_cons (pe_var hN hv hd hcd) pa_nil)) (by first | exact nomark _ | rfl),
    fun α σ H ρ μ Qd Q S E h post => a2 α σ H ρ μ _ _ S E h fun v1 H1 α1 μ1 x1 g1 s1 r1 q1 => ?_⟩
  split at q1
  · rename_i d ed
    obtain ⟨ns, ms, i1, i2, ⟨n1, n2, l1, l2, sub⟩, q1⟩ := q1
    obtain ⟨b1, vs, rfl, sq1, ra⟩ := s1.seq r1 i1
    have ev := ra.ints
    subst ev
    refine ⟨b1, ns, rfl, sq1, n1, l1, fun p hp => ?_⟩
    obtain ⟨v, h1, h2⟩ := (E.mono g1).2 i d ed
    have gp : Gr α1 H1 α1 (upd H1 p (SetF X.prog X.w p ns)) := gr_new hp
    have sp := s1.new (o := SetF X.prog X.w p ns) hp
    refine ⟨v, h1, ?_⟩
    obtain ⟨b2, vs2, rfl, sq2, rb⟩ := sp.seq (h2.mono gp) i2
    have ev2 := rb.ints
    subst ev2
    refine ⟨b2, ms, rfl, sq2, n2, by omega, fun p2 hp2 => ?_⟩
    have ne : p ≠ p2 := fun z => by
      rw [← z, L2.upd_same] at hp2
      cases hp2
    refine ⟨p, p2, ns, ms, rfl, rfl, by rw [L2.upd_ne ne]; exact L2.upd_same, L2.upd_same, l2, sub, ?_⟩
    exact post _ _ α1 μ1 (.bl true) (g1.trans (gp.trans (gr_new hp2))) (sp.new hp2) (.bl true) q1
  · exact q1.elim
end
/-! ### zip of two tuples, or two lists -/
def diZip2 (d1 d2 : DTE) : DTI := fun ρ μ Q => d1 ρ μ fun x μ1 => d2 ρ μ1 fun y μ2 => match x with
  | .tup xs => (match y with | .tup ys => Q ⟨zipD xs ys, []⟩ μ2 | _ => False)
  | x => (match lsrc μ2 x, lsrc μ2 y with | some s, some t => Q ⟨zipD s.its t.its, s.keep ++ t.keep⟩ μ2 | _, _ => False)
theorem izt_ok {X : Cx} {α : List Addr} {H : Hp} {a b : Addr} {vs us : List V} {ds es : List D} (q : SqT X.K H a vs) (r : RlAll X.K α H vs ds) (q2 : SqT X.K H b us) (r2 : RlAll X.K α H us es) : ItOk X.K (RZ.ItzT X.K a b) ⟨zipD ds es, []⟩ α H := ⟨fun α' H' μ' g S' hd' => by
  have k1 := g.ext.seqT q
  have k2 := r.mono g
  have m1 := g.ext.seqT q2
  have m2 := r2.mono g
  have len : (zipD ds es).length = min vs.length us.length := by
    unfold zipD
    rw [List.length_zipWith, k2.length, m2.length]
  refine ⟨fun i hi => ?_, fun i hi => ?_, fun i d v H3 hg hy => ?_⟩
  · have hi : i < (zipD ds es).length := hi
    rw [len] at hi
    exact ⟨vs, us, vs[i]'(by omega), us[i]'(by omega), k1, m1, by simp, by simp⟩
  · have hi : (zipD ds es).length ≤ i := hi
    rw [len] at hi
    exact ⟨vs, us, k1, m1, by omega⟩
  · obtain ⟨x, y, hx, hz, rfl⟩ := zipD_get hg
    obtain ⟨T, x1, x2, rfl, hT, rfl, hy1, hy2⟩ := hy
    obtain ⟨w1, hw1, rw1⟩ := k2.get hx
    obtain ⟨w2, hw2, rw2⟩ := m2.get hz
    have e1 := hy1 vs k1
    have e2 := hy2 us m1
    rw [hw1] at e1
    rw [hw2] at e2
    cases e1; cases e2
    exact new_pair S' rw1 rw2 hT⟩
theorem izl_ok {X : Cx} {α : List Addr} {H : Hp} {a b : Addr} {s t : Src} (L : LOk X.K a s α H) (L' : LOk X.K b t α H) : ItOk X.K (Itz X.K a b) ⟨zipD s.its t.its, s.keep ++ t.keep⟩ α H := ⟨fun α' H' μ' g S' hd' => by
  obtain ⟨ws, k1, k2⟩ := L.ok α' H' μ' g S' (fun p hp => hd' p (List.mem_append.mpr (.inl hp)))
  obtain ⟨zs, m1, m2⟩ := L'.ok α' H' μ' g S' (fun p hp => hd' p (List.mem_append.mpr (.inr hp)))
  have len : (zipD s.its t.its).length = min ws.length zs.length := by
    unfold zipD
    rw [List.length_zipWith, k2.length, m2.length]
  refine ⟨fun i hi => ?_, fun i hi => ?_, fun i d v H3 hg hy => ?_⟩
  · have hi : i < (zipD s.its t.its).length := hi
    rw [len] at hi
    exact ⟨ws, zs, ws[i]'(by omega), zs[i]'(by omega), k1, m1, by simp, by simp⟩
  · have hi : (zipD s.its t.its).length ≤ i := hi
    rw [len] at hi
    exact ⟨ws, zs, k1, m1, by omega⟩
  · obtain ⟨x, y, hx, hz, rfl⟩ := zipD_get hg
    obtain ⟨T, x1, x2, rfl, hT, rfl, hy1, hy2⟩ := hy
    obtain ⟨w1, hw1, rw1⟩ := k2.get hx
    obtain ⟨w2, hw2, rw2⟩ := m2.get hz
    have e1 := hy1 ws k1
    have e2 := hy2 zs m1
    rw [hw1] at e1
    rw [hw2] at e2
    cases e1; cases e2
    exact new_pair S' rw1 rw2 hT⟩
theorem di_zip2 {X : Cx} {e e2 : Expr} {d1 d2 : DTE} {p pos tpos : Pos} {elts : List Expr} {kk : Nat} (hm : X.mg "zip" = none) (he : PED X e d1) (he2 : PED X e2 d2) (hg : Gl X "zip" := by rfl)
    (hs : starEach [e, e2] X.env = (false, eval e X.env) :: starEach [e2] X.env := by rfl) (hs2 : starEach [e2] X.env = (false, eval e2 X.env) :: starEach [] X.env := by rfl) (hpl : (backTo pos (starEach [e2] X.env)).any (·.1) = false := by rfl) :
    PID X (.Tuple elts kk tpos) (.Call (.Name "zip" p) [e, e2] [] pos) (diZip2 d1 d2) := by
  obtain ⟨t1, a1, a2⟩ := he.ex
  obtain ⟨t2, b1, b2⟩ := he2.ex
  refine ⟨_, RZ.pi_zipA hg hm (pa_cons a1 (pa_cons b1 pa_nil hs2) hs) hs hpl, fun α σ H ρ μ Qd R S en h post => a2 α σ H ρ μ _ _ S en h fun v H1 α1 μ1 d g1 S1 r1 q1 => b2 α1 σ H1 ρ μ1 _ _ S1 (en.mono g1) q1 fun w H2 α2 μ2 dd g2 S2 r2 q2 => ?_⟩
  have lists : ∀ {s t : Src}, lsrc μ2 d = some s → lsrc μ2 dd = some t → Qd ⟨zipD s.its t.its, s.keep ++ t.keep⟩ μ2 → ∃ a b xs ys, [v, w] = [V.ref a, V.ref b] ∧ ((SqL X.K H2 a xs ∧ SqL X.K H2 b ys ∧ R (Itz X.K a b) H2) ∨ (SqT X.K H2 a xs ∧ SqT X.K H2 b ys ∧ R (RZ.ItzT X.K a b) H2)) := by
    intro s t es et q
    obtain ⟨hd, a, vs, rfl, q0, L⟩ := lok_of S2 (r1.mono g2) es
    obtain ⟨hd2, b, us, rfl, q', L'⟩ := lok_of S2 r2 et
    refine ⟨a, b, vs, us, rfl, .inl ⟨q0, q', post _ _ _ _ _ (g1.trans g2) S2 (fun p hp => ?_) (izl_ok L L') q⟩⟩
    rcases List.mem_append.mp hp with hp | hp
    · exact hd p hp
    · exact hd2 p hp
  have rr := r1.mono g2
  have rest : (match lsrc μ2 d, lsrc μ2 dd with | some s, some t => Qd ⟨zipD s.its t.its, s.keep ++ t.keep⟩ μ2 | _, _ => False) → ∃ a b xs ys, [v, w] = [V.ref a, V.ref b] ∧ ((SqL X.K H2 a xs ∧ SqL X.K H2 b ys ∧ R (Itz X.K a b) H2) ∨ (SqT X.K H2 a xs ∧ SqT X.K H2 b ys ∧ R (RZ.ItzT X.K a b) H2)) := by
    intro q
    split at q
    · rename_i s t es et
      exact lists es et q
    · exact q.elim
  cases rr with
  | tup q r =>
    cases r2 with
    | tup q' r' => exact ⟨_, _, _, _, rfl, .inr ⟨q, q', post _ _ _ _ ⟨zipD _ _, []⟩ (g1.trans g2) S2 held_nil (izt_ok q r q' r') q2⟩⟩
    | _ => exact False.elim q2
  | _ => exact rest q2
end Dl
/-! Op2: x in a list of nested data; is True. -/
namespace Dl
open PySem PySem.Spec PyProof.Rows L2
theorem u200 {k : Nat} {A : Around} (r : Room k A) : A.units + 200 < cLine := by have := r.un; omega
def deepIn (neg : Bool) (x y : D) (μ : Mu) (Q : DK) : Prop := ∃ p ps, Rs μ x p ∧ Rs μ y (.list ps) ∧ SeqAt.shaped p = true ∧ SeqAt.shaped (.list ps) = true ∧ Q (.bl (if neg then !(ps.any fun z => PyData.eqv z p) else ps.any fun z => PyData.eqv z p)) μ
def oIn2 (neg : Bool) : D → D → Mu → DK → Prop := fun x y μ Q => match x with
  | .int i => ∃ ns : List Int, items μ y = some (ns.map D.int) ∧ Q (.bl (if neg then !decide (i ∈ ns) else decide (i ∈ ns))) μ
  | x => deepIn neg x y μ Q
section
variable {X : Cx}
theorem snd_in2 (neg : Bool) {K : PySem.W.Frag} {r : R2} (hr : ∀ x y H Q, (∃ d ds, Dp K H x d ∧ Dp K H y (.list ds) ∧ SeqAt.shaped d = true ∧ SeqAt.shaped (.list ds) = true ∧ Q (.bl (if neg then !(ds.any fun z => PyData.eqv z d) else ds.any fun z => PyData.eqv z d)) H) → r x y H Q) : SndR K (fun x y H Q => rIn K neg x y H Q ∨ r x y H Q) (oIn2 neg) := fun α H μ x y dx dy Qd Q S rx ry h post => by
  unfold oIn2 at h
  split at h
  · exact .inl (snd_in neg α H μ x y _ dy Qd Q S rx ry h post)
  · obtain ⟨p, ps, h1, h2, h3, h4, h5⟩ := h
    exact .inr (hr _ _ _ _ ⟨p, ps, rx.dp S h1, ry.dp S h2, h3, h4, post.here S (.bl _) h5⟩)
theorem o_in2 (hu : X.A.units + 200 < cLine) : OpD X (compareOp .In) (oIn2 false) := ⟨_, OpR.or op_in_seq (op_inD (by omega)), snd_in2 false fun x y H Q h => h⟩
theorem o_notIn2 (hu : X.A.units + 200 < cLine) : OpD X (compareOp .NotIn) (oIn2 true) := ⟨_, OpR.or op_notIn_seq (op_notInD (by omega)), snd_in2 true fun x y H Q h => h⟩
def oIs2 : D → D → Mu → DK → Prop := fun x y μ Q => match y with
  | .bl b => (match x with | .bl a => Q (.bl (decide (a = b))) μ | _ => False)
  | y => oIsN x y μ Q
def oNot2 : D → D → Mu → DK → Prop := fun x y μ Q => match y with
  | .bl b => (match x with | .bl a => Q (.bl (!decide (a = b))) μ | _ => False)
  | y => oNotN x y μ Q
theorem o_is2 : OpD X (compareOp .Is) oIs2 := by
  obtain ⟨r, h1, h2⟩ := (o_isN (X := X)).ex
  refine ⟨_, OpR.or h1 op_isBl, fun α H μ x y dx dy Qd Q S rx ry h post => ?_⟩
  unfold oIs2 at h
  split at h
  · rename_i b
    split at h
    · cases rx; cases ry
      exact .inr ⟨_, _, rfl, rfl, post.here S (.bl _) h⟩
    · exact h.elim
  · exact .inl (h2 α H μ x y dx _ Qd Q S rx ry h post)
theorem o_not2 : OpD X (compareOp .IsNot) oNot2 := by
  obtain ⟨r, h1, h2⟩ := (o_notN (X := X)).ex
  refine ⟨_, OpR.or h1 op_notBl, fun α H μ x y dx dy Qd Q S rx ry h post => ?_⟩
  unfold oNot2 at h
  split at h
  · rename_i b
    split at h
    · cases rx; cases ry
      exact .inr ⟨_, _, rfl, rfl, post.here S (.bl _) h⟩
    · exact h.elim
  · exact .inl (h2 α H μ x y dx _ Qd Q S rx ry h post)
end
end Dl
namespace Dl
open PySem PySem.Spec PyProof.Rows L2
section
variable {X : Cx}
def cInt2 : List D → Mu → DK → Prop := fun ds μ Q => match ds with | [.int i] => Q (.int i) μ | [.bl b] => Q (.int (if b = true then 1 else 0)) μ | _ => False
theorem c_int2 : CallD X (.type "int") cInt2 := ⟨_, call_int1, fun α H μ vs ds Qd Q S r h post => by
  unfold cInt2 at h
  split at h
  · rename_i i
    obtain ⟨v, rfl, r1⟩ := rl1 r
    cases r1
    exact .inl ⟨i, rfl, post.here S (.int _) h⟩
  · rename_i b
    obtain ⟨v, rfl, r1⟩ := rl1 r
    cases r1
    exact .inr ⟨b, rfl, post.here S (.int _) h⟩
  · exact h.elim⟩
end
end Dl
/-! Zp: zip of two or three lists or tuples, in any mix. -/
namespace Dl
open PySem PySem.Spec PyProof.Rows L2
/-- k: a list, else a tuple -/
def SqK (k : Bool) (K : PySem.W.Frag) (H : Hp) (a : Addr) (xs : List V) : Prop := match k with | true => SqL K H a xs | false => SqT K H a xs
def ItK (k : Bool) (h : Heap) (it a : Addr) (i : Nat) : Prop := match k with | true => h.IsListIter it a i | false => h.IsTupleIter it a i
def obK (k : Bool) (a : Addr) : Obj := match k with
  | true => { cls := .type "list_iterator", data := .fields #[.ref a, .int 0 0] }
  | false => { cls := .type "tuple_iterator", data := .fields #[.ref a, .int 0 0] }
theorem itK_obj {k : Bool} {h : Heap} {it a : Addr} {i : Nat} (x : ItK k h it a i) : ∃ o, h.get? it = some o ∧ ∀ v, o.data ≠ .cell v := by
  cases k <;> (obtain ⟨o, e, _, d⟩ := x; exact ⟨o, e, fun v q => by rw [d] at q; cases q⟩)
theorem itK_at {k : Bool} {h h' : Heap} {it a : Addr} {i : Nat} (x : ItK k h it a i) (q : ∀ o, h.get? it = some o → h'.get? it = some o) : ItK k h' it a i := by
  cases k
  · exact Heap.IsTupleIter.at x q
  · exact Heap.IsListIter.at x q
theorem itK_new {k : Bool} {h : Heap} {it a : Addr} (e : h.get? it = some (obK k a)) : ItK k h it a 0 := by
  cases k <;> exact ⟨_, e, rfl, rfl⟩
theorem draws_doneL {P : Program} {w : World} {A : Around} (hh : A.handled = none) {it t : Addr} (hne : t ≠ it) {xs : Array Value} {m : Nat} (hm : xs[m]? = none) :
    Draws P w A it [it, t] m (fun i v => xs[i]? = some v) (fun i h => i = m ∧ h.IsListIter it t i ∧ h.IsList t xs) where
  live := fun _ _ st => let ⟨o, ho, _⟩ := st.2.1; ⟨o, ho⟩
  frame := fun _ _ _ st hk => ⟨st.1, st.2.1.at fun o e => hk it (by simp) o e, st.2.2.at fun o e => hk t (by simp) o e⟩
  item := fun i s Q E hi st hQ => absurd hi (by rw [st.1]; exact Nat.lt_irrefl _)
  done := fun s Q E st hE => wpAny_nextOf_list_end hh st.2.1 st.2.2 hm hE
section
variable {X : Cx} {pins : List (Addr × Obj)} {σ : L2.St} {H : Hp} {s : Shared} {a it : Addr} {k : Bool} {xs : List V}
theorem sqK_lt (I : Inv X pins σ H s) (h : SqK k X.K H a xs) : a < s.heap.objs.size := by
  cases k
  · obtain ⟨its, r, p, z⟩ := I.tuple h
    obtain ⟨o, e, _⟩ := (show s.heap.IsTuple a its.toArray from p)
    exact Heap.lt_size e
  · obtain ⟨its, r, p, z⟩ := I.list h
    exact p.lt
theorem sqK_inj {ys : List V} (I : Inv X pins σ H s) (h : SqK k X.K H a xs) (h' : SqK k X.K H a ys) : xs = ys := by
  cases k
  · exact I.tuple_inj h h'
  · exact I.list_inj h h'
/-- what a turn draws from it -/
theorem dr_item (hc : X.calm = true) (I : Inv X pins σ H s) (h : SqK k X.K H a xs) (hne : a ≠ it) : ∃ (its : List Value) (St : Nat → Heap → Prop), Vals xs its ∧ Draws X.prog X.w X.A.in1 it [it, a] its.length (fun i v => its[i]? = some v) St ∧
    (∀ i, ItK k s.heap it a i → St i s.heap) ∧ ∀ i h', St i h' → ItK k h' it a i := by
  cases k
  · obtain ⟨its, r, p, z⟩ := I.tuple h
    have D := Draws.tuple (prog := X.prog) (w := X.w) (A := X.A.in1) (I.ok.hd hc) it a hne its.toArray
    simp only [List.size_toArray, List.getElem?_toArray] at D
    exact ⟨its, _, r, D, fun i q => ⟨q, p⟩, fun i h' st => st.1⟩
  · obtain ⟨its, r, p, z⟩ := I.list h
    have D := Draws.list (prog := X.prog) (w := X.w) (A := X.A.in1) (I.ok.hd hc) it a hne its.toArray
    simp only [List.size_toArray, List.getElem?_toArray] at D
    exact ⟨its, _, r, D, fun i q => ⟨q, p.isList⟩, fun i h' st => st.1⟩
theorem dr_done {i : Nat} (hc : X.calm = true) (I : Inv X pins σ H s) (h : SqK k X.K H a xs) (hne : a ≠ it) (hle : xs.length ≤ i) (hit : ItK k s.heap it a i) : ∃ (Pv : Nat → Value → Prop) (St : Nat → Heap → Prop), Draws X.prog X.w X.A.in1 it [it, a] i Pv St ∧ St i s.heap := by
  cases k
  · obtain ⟨its, r, p, z⟩ := I.tuple h
    have l := r.length
    have hm : its.toArray[i]? = none := by rw [List.getElem?_toArray]; exact List.getElem?_eq_none (by omega)
    have D := draws_done (P := X.prog) (w := X.w) (A := X.A.in1) (I.ok.hd hc) hne hm
    exact ⟨_, _, D, rfl, hit, p⟩
  · obtain ⟨its, r, p, z⟩ := I.list h
    have l := r.length
    have hm : its.toArray[i]? = none := by rw [List.getElem?_toArray]; exact List.getElem?_eq_none (by omega)
    have D := draws_doneL (P := X.prog) (w := X.w) (A := X.A.in1) (I.ok.hd hc) hne hm
    exact ⟨_, _, D, rfl, hit, p.isList⟩
theorem begK (I : Inv X pins σ H s) (h : SqK k X.K H a xs) : ∃ G : Heap → Prop, Begins (.ref a) (obK k a) G ∧ G s.heap := by
  cases k
  · obtain ⟨its, r, p, z⟩ := I.tuple h
    exact ⟨_, begins_tuple a its.toArray, p⟩
  · obtain ⟨its, r, p, z⟩ := I.list h
    exact ⟨_, begins_list a its.toArray, p.isList⟩
end
/-! ### two -/
def Iz2 (K : PySem.W.Frag) (k1 k2 : Bool) (a b : Addr) : It :=
  ⟨fun i H => ∃ (xs ys : List V) (x y : V), SqK k1 K H a xs ∧ SqK k2 K H b ys ∧ xs[i]? = some x ∧ ys[i]? = some y,
    fun i H v H' => ∃ T x y, v = .ref T ∧ H T = none ∧ H' = upd H T (.tup [x, y]) ∧ (∀ xs, SqK k1 K H a xs → xs[i]? = some x) ∧ ∀ ys, SqK k2 K H b ys → ys[i]? = some y,
    fun i H => ∃ xs ys : List V, SqK k1 K H a xs ∧ SqK k2 K H b ys ∧ (xs.length ≤ i ∨ ys.length ≤ i)⟩
theorem nein {x p q : Nat} (h1 : x ≠ p) (h2 : x ≠ q) : x ∉ [p, q] := by
  simp only [List.mem_cons, List.not_mem_nil, or_false, not_or]
  exact ⟨h1, h2⟩
theorem neA {x y : Nat} (h : x < y ∨ y < x) : x ≠ y := by omega
theorem sep2 (I a b : Nat) (h1 : a < I) (h2 : b < I) : ZipSep2 (I + 4) (I + 2) (I + 3) I (I + 1) [I, a] [I + 1, b] := by
  constructor <;> first
    | exact List.mem_cons_self ..
    | (refine nein ?_ ?_ <;> (refine neA ?_; omega))
    | (refine neA ?_; omega)
theorem sep3 (I a b c : Nat) (h1 : a < I) (h2 : b < I) (h3 : c < I) : ZipSep3 (I + 5) (I + 3) (I + 4) I (I + 1) (I + 2) [I, a] [I + 1, b] [I + 2, c] := by
  constructor <;> first
    | exact List.mem_cons_self ..
    | (refine nein ?_ ?_ <;> (refine neA ?_; omega))
    | (refine neA ?_; omega)
theorem turn_z2 {P : Program} {w : World} {K : PySem.W.Frag} {elts : List Expr} {kk : Nat} {tpos : Pos} {k1 k2 : Bool} {a b z TI TO i1 i2 : Addr} (D : ZipSep2 z TI TO i1 i2 [i1, a] [i2, b]) (ne1 : a ≠ i1) (ne2 : b ≠ i2) :
    Turn P w K (.Tuple elts kk tpos) (Iz2 K k1 k2 a b) [z, TI, TO, i1, i2] z (fun i h => IsZip h z TI TO .none ∧ IsTupOf2 h TI (.ref i1) (.ref i2) ∧ (∃ x y, IsTupOf2 h TO x y) ∧ ItK k1 h i1 a i ∧ ItK k2 h i2 b i) where
  mem := by simp
  obj := fun i h st c hc => by
    obtain ⟨hz, hTI, ⟨x, y, hTO⟩, h1, h2⟩ := st
    have e' : c = z ∨ c = TI ∨ c = TO ∨ c = i1 ∨ c = i2 := by simpa using hc
    rcases e' with q | q | q | q | q
    · rw [q]; exact ⟨_, hz, fun v q => nomatch q⟩
    · rw [q]; exact ⟨_, hTI, fun v q => nomatch q⟩
    · rw [q]; exact ⟨_, hTO, fun v q => nomatch q⟩
    · rw [q]; exact itK_obj h1
    · rw [q]; exact itK_obj h2
  keep := fun i h h' st k => by
    obtain ⟨hz, hTI, ⟨x, y, hTO⟩, h1, h2⟩ := st
    exact ⟨k z (by simp) _ hz, k TI (by simp) _ hTI, ⟨x, y, k TO (by simp) _ hTO⟩, itK_at h1 fun o q => k i1 (by simp) o q, itK_at h2 fun o q => k i2 (by simp) o q⟩
  item := by
    intro X hP hw hK hc i pins s σ H E I hf st hg
    subst hP hw hK
    obtain ⟨hz, hTI, ⟨x0, y0, hTO⟩, h1, h2⟩ := st
    obtain ⟨xs, ys, x, y, hqx, hqy, hx, hy⟩ := hg
    obtain ⟨its, St1, rv, D1, s1, t1⟩ := dr_item (it := i1) hc I hqx ne1
    obtain ⟨its2, St2, rv2, D2, s2, t2⟩ := dr_item (it := i2) hc I hqy ne2
    have hzl : z < s.heap.objs.size := Heap.lt_size hz
    have lx := rv.length
    have ly := rv2.length
    refine wpAny_pyNext_zipD2_item D D1 D2 hz hTI hTO (s1 i h1) (s2 i h2) (by have := (List.getElem?_eq_some_iff.mp hx).1; omega) (by have := (List.getElem?_eq_some_iff.mp hy).1; omega) fun u u2 h' tk hu hu2 z' TO' h1' h2' hT hsz hk => ?_
    obtain ⟨v, hv, ru⟩ := rv.get hx
    obtain ⟨v2, hv2, ru2⟩ := rv2.get hy
    rw [hv] at hu
    rw [hv2] at hu2
    cases hu
    cases hu2
    refine ⟨_, rfl, wpAny_letOwnedTupleGo_zip (s := { s with heap := h', toks := tk }) z' fun h'' z'' sb => ?_⟩
    have hT2 : h''.get? s.heap.objs.size = some { cls := .type "tuple", data := .seq #[u, u2] } := (sb.2 _ (Nat.ne_of_gt hzl)).trans hT
    have new : ObjOk X.prog X.w (upd H s.heap.objs.size (.tup [x, y])) h'' s.heap.objs.size (.tup [x, y]) :=
      ⟨by show 2 ≤ sizeLine; decide, [u, u2], .cons ru (.cons ru2 .nil), ⟨_, hT2, rfl, _, rfl⟩⟩
    have I1 : Inv X pins σ (upd H s.heap.objs.size (.tup [x, y])) { s with heap := h'', toks := tk } :=
      I.turnedNew (t' := tk) (ch := [z, TI, TO, i1, i2]) (fun c o hb q => (sb.2 c (fun q' => hb (by simp [q']))).trans (hk c o (fun q' => hb (by simp [q'])) (fun q' => hb (by simp [q'])) (fun q' => hb (by simp [q'])) (fun q' => hb (by simp [q'])) q)) hf (Nat.le_refl _) new
    refine ⟨.ref s.heap.objs.size, _, I1, rfl, ⟨_, x, y, rfl, I.hok.fresh (Nat.le_refl _), rfl, fun l hl => by rw [sqK_inj I hl hqx]; exact hx, fun l hl => by rw [sqK_inj I hl hqy]; exact hy⟩, ⟨z'', ?_, ⟨u, u2, ?_⟩, ?_, ?_⟩, fun c hcm => ?_⟩
    · exact (sb.2 _ D.TIz).trans (hk _ _ D.TIz D.TITO D.TIi1 D.TIi2 hTI)
    · exact (sb.2 _ D.TOz).trans TO'
    · exact itK_at (t1 _ _ h1') fun o q => (sb.2 _ (Ne.symm D.zi1)).trans q
    · exact itK_at (t2 _ _ h2') fun o q => (sb.2 _ (Ne.symm D.zi2)).trans q
    · have hlt : c < s.heap.objs.size := by
        have e' : c = z ∨ c = TI ∨ c = TO ∨ c = i1 ∨ c = i2 := by simpa using hcm
        rcases e' with q | q | q | q | q
        · rw [q]; exact hzl
        · rw [q]; exact Heap.lt_size hTI
        · rw [q]; exact Heap.lt_size hTO
        · rw [q]; obtain ⟨_, e1, _⟩ := itK_obj h1; exact Heap.lt_size e1
        · rw [q]; obtain ⟨_, e2, _⟩ := itK_obj h2; exact Heap.lt_size e2
      rw [L2.upd_ne (Nat.ne_of_lt hlt)]
      exact (hf c hcm).1
  done := by
    intro X hP hw hK hc i pins s σ H E I hf st hg
    subst hP hw hK
    obtain ⟨hz, hTI, ⟨x0, y0, hTO⟩, h1, h2⟩ := st
    obtain ⟨xs, ys, hqx, hqy, hend⟩ := hg
    have fin : ∀ h' tk, (∀ c o, c ≠ z → c ≠ TO → c ≠ i1 → c ≠ i2 → s.heap.get? c = some o → h'.get? c = some o) → (none : Option Value) = none ∧ Inv X pins σ H { s with heap := h', toks := tk } := fun h' tk hk =>
      ⟨rfl, I.turnedL (t' := tk) (ch := [z, TI, TO, i1, i2]) (fun c o hb q => hk c o (fun q' => hb (by simp [q'])) (fun q' => hb (by simp [q'])) (fun q' => hb (by simp [q'])) (fun q' => hb (by simp [q'])) q) hf⟩
    by_cases l1 : xs.length ≤ i
    · obtain ⟨P1, St1, D1, s1⟩ := dr_done hc I hqx ne1 l1 h1
      by_cases l2 : ys.length ≤ i
      · obtain ⟨P2, St2, D2, s2⟩ := dr_done hc I hqy ne2 l2 h2
        exact wpAny_pyNext_zipD2_end D D1 D2 hz hTI hTO s1 s2 (Nat.le_refl _) (Nat.le_refl _) (.inl rfl) fin
      · obtain ⟨its2, St2, rv2, D2, s2, t2⟩ := dr_item (it := i2) hc I hqy ne2
        have ly := rv2.length
        exact wpAny_pyNext_zipD2_end D D1 D2 hz hTI hTO s1 (s2 i h2) (Nat.le_refl _) (by omega) (.inl rfl) fin
    · have l2 : ys.length ≤ i := by omega
      obtain ⟨P2, St2, D2, s2⟩ := dr_done hc I hqy ne2 l2 h2
      obtain ⟨its, St1, rv, D1, s1, t1⟩ := dr_item (it := i1) hc I hqx ne1
      have lx := rv.length
      exact wpAny_pyNext_zipD2_end D D1 D2 hz hTI hTO (s1 i h1) s2 (by omega) (Nat.le_refl _) (.inr rfl) fin
  self := fun A i s Q E st h => wpAny_pyIter_zip st.1 h
def iZ2 (K : PySem.W.Frag) (ta : TA) : TI := fun σ H R => ta σ H fun vs H1 => ∃ (k1 k2 : Bool) (a b : Addr) (xs ys : List V), vs = [.ref a, .ref b] ∧ SqK k1 K H1 a xs ∧ SqK k2 K H1 b ys ∧ R (Iz2 K k1 k2 a b) H1
theorem pi_z2 {X : Cx} {e e2 : Expr} {ta : TA} {p pos tpos : Pos} {elts : List Expr} {kk : Nat} (hg : Gl X "zip") (hm : X.mg "zip" = none) (ha : PA X [e, e2] ta)
    (hs : starEach [e, e2] X.env = (false, eval e X.env) :: starEach [e2] X.env := by rfl) (hpl : (backTo pos (starEach [e2] X.env)).any (·.1) = false := by rfl) :
    PI X (.Tuple elts kk tpos) (.Call (.Name "zip" p) [e, e2] [] pos) (iZ2 X.K ta) := by
  refine ⟨fun pins s σ H R I h => ?_⟩
  refine Call_ (ld_blt I hg hm PyProof.Rows.boot_zip (PyProof.Rows.callWith_type1 (thn (ha.run pos pins s σ H _ I h) fun us s1 ⟨vs, H1, I1, r1, q1⟩ => ?_) hs hpl))
  obtain ⟨k1, k2, a, b, xs, ys, ex, hqx, hqy, q⟩ := q1
  subst ex
  cases r1 with
  | cons r rr =>
    cases rr with
    | cons r' rr =>
      cases rr
      cases r
      cases r'
      have la := sqK_lt I1 hqx
      have lb := sqK_lt I1 hqy
      obtain ⟨G1, B1, g1⟩ := begK I1 hqx
      obtain ⟨G2, B2, g2⟩ := begK I1 hqy
      have fresh5 : ∀ c, c ∈ [s1.heap.objs.size + 4, s1.heap.objs.size + 2, s1.heap.objs.size + 3, s1.heap.objs.size, s1.heap.objs.size + 1] → FpOk X pins H1 c := fun c hcm => by
        have hle : s1.heap.objs.size ≤ c := by
          simp only [List.mem_cons, List.not_mem_nil, or_false] at hcm
          rcases hcm with z | z | z | z | z <;> (rw [z]; first | exact Nat.le_add_right _ _ | exact Nat.le_refl _)
        exact I1.fpOk hle (I1.hok.fresh hle)
      refine zip_begins2 B1 B2 g1 g2 fun h' hz hTI hTO e1 e2 hsz hk => wpAny_pyIter_zip hz ?_
      have I2 : Inv X pins σ H1 { s1 with heap := h' } := I1.kept (t' := s1.toks) hk
      exact ⟨s1.heap.objs.size + 4, [s1.heap.objs.size + 4, s1.heap.objs.size + 2, s1.heap.objs.size + 3, s1.heap.objs.size, s1.heap.objs.size + 1], _, _, H1, rfl, I2, turn_z2 (sep2 s1.heap.objs.size a b la lb) (Nat.ne_of_lt la) (Nat.ne_of_lt (Nat.lt_succ_of_lt lb)),
        ⟨hz, hTI, ⟨_, _, hTO⟩, itK_new e1, itK_new e2⟩, fresh5, q⟩
/-! ### three -/
def Iz3 (K : PySem.W.Frag) (k1 k2 k3 : Bool) (a b c : Addr) : It :=
  ⟨fun i H => ∃ (xs ys zs : List V) (x y z : V), SqK k1 K H a xs ∧ SqK k2 K H b ys ∧ SqK k3 K H c zs ∧ xs[i]? = some x ∧ ys[i]? = some y ∧ zs[i]? = some z,
    fun i H v H' => ∃ T x y z, v = .ref T ∧ H T = none ∧ H' = upd H T (.tup [x, y, z]) ∧ (∀ xs, SqK k1 K H a xs → xs[i]? = some x) ∧ (∀ ys, SqK k2 K H b ys → ys[i]? = some y) ∧ ∀ zs, SqK k3 K H c zs → zs[i]? = some z,
    fun i H => ∃ xs ys zs : List V, SqK k1 K H a xs ∧ SqK k2 K H b ys ∧ SqK k3 K H c zs ∧ (xs.length ≤ i ∨ ys.length ≤ i ∨ zs.length ≤ i)⟩
section
variable {X : Cx} {pins : List (Addr × Obj)} {σ : L2.St} {H : Hp} {s : Shared} {a it : Addr} {k : Bool} {xs : List V}
/-- at its end, or not yet -/
theorem dr_end (i : Nat) (hc : X.calm = true) (I : Inv X pins σ H s) (h : SqK k X.K H a xs) (hne : a ≠ it) (hit : ItK k s.heap it a i) : ∃ (n : Nat) (Pv : Nat → Value → Prop) (St : Nat → Heap → Prop), Draws X.prog X.w X.A.in1 it [it, a] n Pv St ∧ St i s.heap ∧ i ≤ n ∧ (xs.length ≤ i → i = n) := by
  by_cases l : xs.length ≤ i
  · obtain ⟨P1, St1, D1, s1⟩ := dr_done hc I h hne l hit
    exact ⟨_, _, _, D1, s1, Nat.le_refl _, fun _ => rfl⟩
  · obtain ⟨its, St1, rv, D1, s1, t1⟩ := dr_item (it := it) hc I h hne
    have := rv.length
    exact ⟨_, _, _, D1, s1 i hit, by omega, fun z => absurd z l⟩
end
theorem turn_z3 {P : Program} {w : World} {K : PySem.W.Frag} {elts : List Expr} {kk : Nat} {tpos : Pos} {k1 k2 k3 : Bool} {a b c z TI TO i1 i2 i3 : Addr} (D : ZipSep3 z TI TO i1 i2 i3 [i1, a] [i2, b] [i3, c]) (ne1 : a ≠ i1) (ne2 : b ≠ i2) (ne3 : c ≠ i3) :
    Turn P w K (.Tuple elts kk tpos) (Iz3 K k1 k2 k3 a b c) [z, TI, TO, i1, i2, i3] z (fun i h => IsZip h z TI TO .none ∧ IsTupOf3 h TI (.ref i1) (.ref i2) (.ref i3) ∧ (∃ x y v, IsTupOf3 h TO x y v) ∧ ItK k1 h i1 a i ∧ ItK k2 h i2 b i ∧ ItK k3 h i3 c i) where
  mem := by simp
  obj := fun i h st d hd => by
    obtain ⟨hz, hTI, ⟨x, y, v, hTO⟩, h1, h2, h3⟩ := st
    have e' : d = z ∨ d = TI ∨ d = TO ∨ d = i1 ∨ d = i2 ∨ d = i3 := by simpa using hd
    rcases e' with q | q | q | q | q | q
    · rw [q]; exact ⟨_, hz, fun v q => nomatch q⟩
    · rw [q]; exact ⟨_, hTI, fun v q => nomatch q⟩
    · rw [q]; exact ⟨_, hTO, fun v q => nomatch q⟩
    · rw [q]; exact itK_obj h1
    · rw [q]; exact itK_obj h2
    · rw [q]; exact itK_obj h3
  keep := fun i h h' st k => by
    obtain ⟨hz, hTI, ⟨x, y, v, hTO⟩, h1, h2, h3⟩ := st
    exact ⟨k z (by simp) _ hz, k TI (by simp) _ hTI, ⟨x, y, v, k TO (by simp) _ hTO⟩, itK_at h1 fun o q => k i1 (by simp) o q, itK_at h2 fun o q => k i2 (by simp) o q, itK_at h3 fun o q => k i3 (by simp) o q⟩
  item := by
    intro X hP hw hK hc i pins s σ H E I hf st hg
    subst hP hw hK
    obtain ⟨hz, hTI, ⟨x0, y0, v0, hTO⟩, h1, h2, h3⟩ := st
    obtain ⟨xs, ys, zs, x, y, v, hqx, hqy, hqz, hx, hy, hv⟩ := hg
    obtain ⟨its, St1, rv, D1, s1, t1⟩ := dr_item (it := i1) hc I hqx ne1
    obtain ⟨its2, St2, rv2, D2, s2, t2⟩ := dr_item (it := i2) hc I hqy ne2
    obtain ⟨its3, St3, rv3, D3, s3, t3⟩ := dr_item (it := i3) hc I hqz ne3
    have hzl : z < s.heap.objs.size := Heap.lt_size hz
    have lx := rv.length
    have ly := rv2.length
    have lz := rv3.length
    refine wpAny_pyNext_zipD3_item D D1 D2 D3 hz hTI hTO (s1 i h1) (s2 i h2) (s3 i h3) (by have := (List.getElem?_eq_some_iff.mp hx).1; omega) (by have := (List.getElem?_eq_some_iff.mp hy).1; omega) (by have := (List.getElem?_eq_some_iff.mp hv).1; omega) fun u u2 u3 h' tk hu hu2 hu3 z' TO' h1' h2' h3' hT hsz hk => ?_
    obtain ⟨w1, hw1, ru⟩ := rv.get hx
    obtain ⟨w2, hw2, ru2⟩ := rv2.get hy
    obtain ⟨w3, hw3, ru3⟩ := rv3.get hv
    rw [hw1] at hu
    rw [hw2] at hu2
    rw [hw3] at hu3
    cases hu
    cases hu2
    cases hu3
    refine ⟨_, rfl, wpAny_letOwnedTupleGo_zip (s := { s with heap := h', toks := tk }) z' fun h'' z'' sb => ?_⟩
    have hT2 : h''.get? s.heap.objs.size = some { cls := .type "tuple", data := .seq #[u, u2, u3] } := (sb.2 _ (Nat.ne_of_gt hzl)).trans hT
    have new : ObjOk X.prog X.w (upd H s.heap.objs.size (.tup [x, y, v])) h'' s.heap.objs.size (.tup [x, y, v]) :=
      ⟨by show 3 ≤ sizeLine; decide, [u, u2, u3], .cons ru (.cons ru2 (.cons ru3 .nil)), ⟨_, hT2, rfl, _, rfl⟩⟩
    have I1 : Inv X pins σ (upd H s.heap.objs.size (.tup [x, y, v])) { s with heap := h'', toks := tk } :=
      I.turnedNew (t' := tk) (ch := [z, TI, TO, i1, i2, i3]) (fun c o hb q => (sb.2 c (fun q' => hb (by simp [q']))).trans (hk c o (fun q' => hb (by simp [q'])) (fun q' => hb (by simp [q'])) (fun q' => hb (by simp [q'])) (fun q' => hb (by simp [q'])) (fun q' => hb (by simp [q'])) q)) hf (Nat.le_refl _) new
    refine ⟨.ref s.heap.objs.size, _, I1, rfl, ⟨_, x, y, v, rfl, I.hok.fresh (Nat.le_refl _), rfl, fun l hl => by rw [sqK_inj I hl hqx]; exact hx, fun l hl => by rw [sqK_inj I hl hqy]; exact hy, fun l hl => by rw [sqK_inj I hl hqz]; exact hv⟩, ⟨z'', ?_, ⟨u, u2, u3, ?_⟩, ?_, ?_, ?_⟩, fun c hcm => ?_⟩
    · exact (sb.2 _ D.TIz).trans (hk _ _ D.TIz D.TITO D.TIi1 D.TIi2 D.TIi3 hTI)
    · exact (sb.2 _ D.TOz).trans TO'
    · exact itK_at (t1 _ _ h1') fun o q => (sb.2 _ (Ne.symm D.zi1)).trans q
    · exact itK_at (t2 _ _ h2') fun o q => (sb.2 _ (Ne.symm D.zi2)).trans q
    · exact itK_at (t3 _ _ h3') fun o q => (sb.2 _ (Ne.symm D.zi3)).trans q
    · have hlt : c < s.heap.objs.size := by
        have e' : c = z ∨ c = TI ∨ c = TO ∨ c = i1 ∨ c = i2 ∨ c = i3 := by simpa using hcm
        rcases e' with q | q | q | q | q | q
        · rw [q]; exact hzl
        · rw [q]; exact Heap.lt_size hTI
        · rw [q]; exact Heap.lt_size hTO
        · rw [q]; obtain ⟨_, e1, _⟩ := itK_obj h1; exact Heap.lt_size e1
        · rw [q]; obtain ⟨_, e2, _⟩ := itK_obj h2; exact Heap.lt_size e2
        · rw [q]; obtain ⟨_, e3, _⟩ := itK_obj h3; exact Heap.lt_size e3
      rw [L2.upd_ne (Nat.ne_of_lt hlt)]
      exact (hf c hcm).1
  done := by
    intro X hP hw hK hc i pins s σ H E I hf st hg
    subst hP hw hK
    obtain ⟨hz, hTI, ⟨x0, y0, v0, hTO⟩, h1, h2, h3⟩ := st
    obtain ⟨xs, ys, zs, hqx, hqy, hqz, hend⟩ := hg
    obtain ⟨n1, P1, St1, D1, s1, l1, m1⟩ := dr_end i hc I hqx ne1 h1
    obtain ⟨n2, P2, St2, D2, s2, l2, m2⟩ := dr_end i hc I hqy ne2 h2
    obtain ⟨n3, P3, St3, D3, s3, l3, m3⟩ := dr_end i hc I hqz ne3 h3
    refine wpAny_pyNext_zipD3_end D D1 D2 D3 hz hTI hTO s1 s2 s3 l1 l2 l3 ?_ fun h' tk hk => ⟨rfl, I.turnedL (t' := tk) (ch := [z, TI, TO, i1, i2, i3]) (fun c o hb q => hk c o (fun q' => hb (by simp [q'])) (fun q' => hb (by simp [q'])) (fun q' => hb (by simp [q'])) (fun q' => hb (by simp [q'])) (fun q' => hb (by simp [q'])) q) hf⟩
    rcases hend with q | q | q
    · exact .inl (m1 q)
    · exact .inr (.inl (m2 q))
    · exact .inr (.inr (m3 q))
  self := fun A i s Q E st h => wpAny_pyIter_zip st.1 h
def iZ3 (K : PySem.W.Frag) (ta : TA) : TI := fun σ H R => ta σ H fun vs H1 => ∃ (k1 k2 k3 : Bool) (a b c : Addr) (xs ys zs : List V), vs = [.ref a, .ref b, .ref c] ∧ SqK k1 K H1 a xs ∧ SqK k2 K H1 b ys ∧ SqK k3 K H1 c zs ∧ R (Iz3 K k1 k2 k3 a b c) H1
theorem pi_z3 {X : Cx} {e e2 e3 : Expr} {ta : TA} {p pos tpos : Pos} {elts : List Expr} {kk : Nat} (hg : Gl X "zip") (hm : X.mg "zip" = none) (ha : PA X [e, e2, e3] ta)
    (hs : starEach [e, e2, e3] X.env = (false, eval e X.env) :: starEach [e2, e3] X.env := by rfl) (hpl : (backTo pos (starEach [e2, e3] X.env)).any (·.1) = false := by rfl) :
    PI X (.Tuple elts kk tpos) (.Call (.Name "zip" p) [e, e2, e3] [] pos) (iZ3 X.K ta) := by
  refine ⟨fun pins s σ H R I h => ?_⟩
  refine Call_ (ld_blt I hg hm PyProof.Rows.boot_zip (PyProof.Rows.callWith_type1 (thn (ha.run pos pins s σ H _ I h) fun us s1 ⟨vs, H1, I1, r1, q1⟩ => ?_) hs hpl))
  obtain ⟨k1, k2, k3, a, b, c, xs, ys, zs, ex, hqx, hqy, hqz, q⟩ := q1
  subst ex
  cases r1 with
  | cons r rr =>
    cases rr with
    | cons r' rr =>
      cases rr with
      | cons r'' rr =>
        cases rr
        cases r
        cases r'
        cases r''
        have la := sqK_lt I1 hqx
        have lb := sqK_lt I1 hqy
        have lc := sqK_lt I1 hqz
        obtain ⟨G1, B1, g1⟩ := begK I1 hqx
        obtain ⟨G2, B2, g2⟩ := begK I1 hqy
        obtain ⟨G3, B3, g3⟩ := begK I1 hqz
        have fresh6 : ∀ d, d ∈ [s1.heap.objs.size + 5, s1.heap.objs.size + 3, s1.heap.objs.size + 4, s1.heap.objs.size, s1.heap.objs.size + 1, s1.heap.objs.size + 2] → FpOk X pins H1 d := fun d hcm => by
          have hle : s1.heap.objs.size ≤ d := by
            simp only [List.mem_cons, List.not_mem_nil, or_false] at hcm
            rcases hcm with z | z | z | z | z | z <;> (rw [z]; first | exact Nat.le_add_right _ _ | exact Nat.le_refl _)
          exact I1.fpOk hle (I1.hok.fresh hle)
        refine zip_begins3 B1 B2 B3 g1 g2 g3 fun h' hz hTI hTO e1 e2 e3 hsz hk => wpAny_pyIter_zip hz ?_
        have I2 : Inv X pins σ H1 { s1 with heap := h' } := I1.kept (t' := s1.toks) hk
        exact ⟨s1.heap.objs.size + 5, [s1.heap.objs.size + 5, s1.heap.objs.size + 3, s1.heap.objs.size + 4, s1.heap.objs.size, s1.heap.objs.size + 1, s1.heap.objs.size + 2], _, _, H1, rfl, I2, turn_z3 (sep3 s1.heap.objs.size a b c la lb lc) (Nat.ne_of_lt la) (Nat.ne_of_lt (Nat.lt_succ_of_lt lb)) (Nat.ne_of_lt (Nat.lt_succ_of_lt (Nat.lt_succ_of_lt lc))),
          ⟨hz, hTI, ⟨_, _, _, hTO⟩, itK_new e1, itK_new e2, itK_new e3⟩, fresh6, q⟩
/-! ### over data -/
def src2 (μ : Mu) : D → Option Src
  | .tup ds => some ⟨ds, []⟩
  | x => lsrc μ x
structure KOk (K : PySem.W.Frag) (k : Bool) (a : Addr) (s : Src) (α : List Addr) (H : Hp) : Prop where
  ok : ∀ α' H' μ', Gr α H α' H' → Sat K α' H' μ' → s.held μ' → ∃ vs, SqK k K H' a vs ∧ RlAll K α' H' vs s.its
section
variable {K : PySem.W.Frag} {α : List Addr} {H : Hp}
theorem kok_of {μ : Mu} {v : V} {d : D} {s : Src} (S : Sat K α H μ) (r : Rl K α H v d) (h : src2 μ d = some s) : s.held μ ∧ ∃ k a vs, v = .ref a ∧ SqK k K H a vs ∧ KOk K k a s α H := by
  have lists : lsrc μ d = some s → s.held μ ∧ ∃ k a vs, v = .ref a ∧ SqK k K H a vs ∧ KOk K k a s α H := fun h => by
    obtain ⟨hd, a, vs, rfl, q, L⟩ := lok_of S r h
    exact ⟨hd, true, a, vs, rfl, q, ⟨L.ok⟩⟩
  cases r with
  | tup q r =>
    cases h
    exact ⟨held_nil, false, _, _, rfl, q, ⟨fun α' H' μ' g S' hd => ⟨_, g.ext.seqT q, r.mono g⟩⟩⟩
  | _ => exact lists h
def diZ2 (d1 d2 : DTE) : DTI := fun ρ μ Q => d1 ρ μ fun x μ1 => d2 ρ μ1 fun y μ2 => match src2 μ2 x, src2 μ2 y with | some s, some t => Q ⟨zipD s.its t.its, s.keep ++ t.keep⟩ μ2 | _, _ => False
def zip3D : List D → List D → List D → List D
  | x :: xs, y :: ys, z :: zs => .tup [x, y, z] :: zip3D xs ys zs
  | _, _, _ => []
def diZ3 (d1 d2 d3 : DTE) : DTI := fun ρ μ Q => d1 ρ μ fun x μ1 => d2 ρ μ1 fun y μ2 => d3 ρ μ2 fun z μ3 => match src2 μ3 x, src2 μ3 y, src2 μ3 z with | some s, some t, some u => Q ⟨zip3D s.its t.its u.its, s.keep ++ (t.keep ++ u.keep)⟩ μ3 | _, _, _ => False
theorem zip3D_get : ∀ {xs ys zs : List D} {i : Nat} {d : D}, (zip3D xs ys zs)[i]? = some d → ∃ x y z, xs[i]? = some x ∧ ys[i]? = some y ∧ zs[i]? = some z ∧ d = .tup [x, y, z]
  | [], _, _, i, d, h => by simp [zip3D] at h
  | _ :: _, [], _, i, d, h => by simp [zip3D] at h
  | _ :: _, _ :: _, [], i, d, h => by simp [zip3D] at h
  | x :: xs, y :: ys, z :: zs, 0, d, h => by
    simp [zip3D] at h
    exact ⟨x, y, z, rfl, rfl, rfl, h.symm⟩
  | x :: xs, y :: ys, z :: zs, i + 1, d, h => by
    have h : (zip3D xs ys zs)[i]? = some d := by simpa [zip3D] using h
    obtain ⟨a, b, c, e1, e2, e3, e4⟩ := zip3D_get h
    exact ⟨a, b, c, by simpa using e1, by simpa using e2, by simpa using e3, e4⟩
theorem zip3D_len : ∀ (xs ys zs : List D), (zip3D xs ys zs).length = min xs.length (min ys.length zs.length)
  | [], _, _ => by simp [zip3D]
  | _ :: _, [], _ => by simp [zip3D]
  | _ :: _, _ :: _, [] => by simp [zip3D]
  | x :: xs, y :: ys, z :: zs => by
    simp only [zip3D, List.length_cons, zip3D_len xs ys zs]
    omega
theorem new_triple {μ : Mu} {v w u : V} {d e f : D} {T : Addr} (S : Sat K α H μ) (r : Rl K α H v d) (r' : Rl K α H w e) (r'' : Rl K α H u f) (h : H T = none) :
    Gr α H α (upd H T (.tup [v, w, u])) ∧ Sat K α (upd H T (.tup [v, w, u])) μ ∧ Rl K α (upd H T (.tup [v, w, u])) (.ref T) (.tup [d, e, f]) :=
  ⟨gr_new h, S.new h, .tup (.inl (.inl L2.upd_same)) (.cons (r.mono (gr_new h)) (.cons (r'.mono (gr_new h)) (.cons (r''.mono (gr_new h)) .nil)))⟩
theorem iz2_ok {k1 k2 : Bool} {a b : Addr} {s t : Src} (L : KOk K k1 a s α H) (L' : KOk K k2 b t α H) : ItOk K (Iz2 K k1 k2 a b) ⟨zipD s.its t.its, s.keep ++ t.keep⟩ α H := ⟨fun α' H' μ' g S' hd' => by
  obtain ⟨ws, c1, c2⟩ := L.ok α' H' μ' g S' (fun p hp => hd' p (List.mem_append.mpr (.inl hp)))
  obtain ⟨zs, m1, m2⟩ := L'.ok α' H' μ' g S' (fun p hp => hd' p (List.mem_append.mpr (.inr hp)))
  have len : (zipD s.its t.its).length = min ws.length zs.length := by
    unfold zipD
    rw [List.length_zipWith, c2.length, m2.length]
  refine ⟨fun i hi => ?_, fun i hi => ?_, fun i d v H3 hg hy => ?_⟩
  · have hi : i < (zipD s.its t.its).length := hi
    rw [len] at hi
    exact ⟨ws, zs, ws[i]'(by omega), zs[i]'(by omega), c1, m1, by simp, by simp⟩
  · have hi : (zipD s.its t.its).length ≤ i := hi
    rw [len] at hi
    exact ⟨ws, zs, c1, m1, by omega⟩
  · obtain ⟨x, y, hx, hz, rfl⟩ := zipD_get hg
    obtain ⟨T, x1, x2, rfl, hT, rfl, hy1, hy2⟩ := hy
    obtain ⟨w1, hw1, rw1⟩ := c2.get hx
    obtain ⟨w2, hw2, rw2⟩ := m2.get hz
    have e1 := hy1 ws c1
    have e2 := hy2 zs m1
    rw [hw1] at e1
    rw [hw2] at e2
    cases e1; cases e2
    exact new_pair S' rw1 rw2 hT⟩
theorem iz3_ok {k1 k2 k3 : Bool} {a b c : Addr} {s t u : Src} (L : KOk K k1 a s α H) (L' : KOk K k2 b t α H) (L'' : KOk K k3 c u α H) : ItOk K (Iz3 K k1 k2 k3 a b c) ⟨zip3D s.its t.its u.its, s.keep ++ (t.keep ++ u.keep)⟩ α H := ⟨fun α' H' μ' g S' hd' => by
  obtain ⟨ws, c1, c2⟩ := L.ok α' H' μ' g S' (fun p hp => hd' p (List.mem_append.mpr (.inl hp)))
  obtain ⟨zs, m1, m2⟩ := L'.ok α' H' μ' g S' (fun p hp => hd' p (List.mem_append.mpr (.inr (List.mem_append.mpr (.inl hp)))))
  obtain ⟨us, n1, n2⟩ := L''.ok α' H' μ' g S' (fun p hp => hd' p (List.mem_append.mpr (.inr (List.mem_append.mpr (.inr hp)))))
  have len : (zip3D s.its t.its u.its).length = min ws.length (min zs.length us.length) := by
    rw [zip3D_len, c2.length, m2.length, n2.length]
  refine ⟨fun i hi => ?_, fun i hi => ?_, fun i d v H3 hg hy => ?_⟩
  · have hi : i < (zip3D s.its t.its u.its).length := hi
    rw [len] at hi
    exact ⟨ws, zs, us, ws[i]'(by omega), zs[i]'(by omega), us[i]'(by omega), c1, m1, n1, by simp, by simp, by simp⟩
  · have hi : (zip3D s.its t.its u.its).length ≤ i := hi
    rw [len] at hi
    exact ⟨ws, zs, us, c1, m1, n1, by omega⟩
  · obtain ⟨x, y, z, hx, hz, hu, rfl⟩ := zip3D_get hg
    obtain ⟨T, x1, x2, x3, rfl, hT, rfl, hy1, hy2, hy3⟩ := hy
    obtain ⟨w1, hw1, rw1⟩ := c2.get hx
    obtain ⟨w2, hw2, rw2⟩ := m2.get hz
    obtain ⟨w3, hw3, rw3⟩ := n2.get hu
    have e1 := hy1 ws c1
    have e2 := hy2 zs m1
    have e3 := hy3 us n1
    rw [hw1] at e1
    rw [hw2] at e2
    rw [hw3] at e3
    cases e1; cases e2; cases e3
    exact new_triple S' rw1 rw2 rw3 hT⟩
end
theorem di_z2 {X : Cx} {e e2 : Expr} {d1 d2 : DTE} {p pos tpos : Pos} {elts : List Expr} {kk : Nat} (hm : X.mg "zip" = none) (he : PED X e d1) (he2 : PED X e2 d2) (hg : Gl X "zip" := by rfl)
    (hs : starEach [e, e2] X.env = (false, eval e X.env) :: starEach [e2] X.env := by rfl) (hs2 : starEach [e2] X.env = (false, eval e2 X.env) :: starEach [] X.env := by rfl) (hpl : (backTo pos (starEach [e2] X.env)).any (·.1) = false := by rfl) :
    PID X (.Tuple elts kk tpos) (.Call (.Name "zip" p) [e, e2] [] pos) (diZ2 d1 d2) := by
  obtain ⟨t1, a1, a2⟩ := he.ex
  obtain ⟨t2, b1, b2⟩ := he2.ex
  refine ⟨_, pi_z2 hg hm (pa_cons a1 (pa_cons b1 pa_nil hs2) hs) hs hpl, fun α σ H ρ μ Qd R S en h post => a2 α σ H ρ μ _ _ S en h fun v H1 α1 μ1 d g1 S1 r1 q1 => b2 α1 σ H1 ρ μ1 _ _ S1 (en.mono g1) q1 fun w H2 α2 μ2 dd g2 S2 r2 q2 => ?_⟩
  split at q2
  · rename_i s t es et
    obtain ⟨hd, k1, a, vs, rfl, q, L⟩ := kok_of S2 (r1.mono g2) es
    obtain ⟨hd2, k2, b, us, rfl, q', L'⟩ := kok_of S2 r2 et
    refine ⟨k1, k2, a, b, vs, us, rfl, q, q', post _ _ _ _ _ (g1.trans g2) S2 (fun p hp => ?_) (iz2_ok L L') q2⟩
    rcases List.mem_append.mp hp with hp | hp
    · exact hd p hp
    · exact hd2 p hp
  · exact False.elim q2
theorem di_z3 {X : Cx} {e e2 e3 : Expr} {d1 d2 d3 : DTE} {p pos tpos : Pos} {elts : List Expr} {kk : Nat} (hm : X.mg "zip" = none) (he : PED X e d1) (he2 : PED X e2 d2) (he3 : PED X e3 d3) (hg : Gl X "zip" := by rfl)
    (hs : starEach [e, e2, e3] X.env = (false, eval e X.env) :: starEach [e2, e3] X.env := by rfl) (hs2 : starEach [e2, e3] X.env = (false, eval e2 X.env) :: starEach [e3] X.env := by rfl) (hs3 : starEach [e3] X.env = (false, eval e3 X.env) :: starEach [] X.env := by rfl) (hpl : (backTo pos (starEach [e2, e3] X.env)).any (·.1) = false := by rfl) :
    PID X (.Tuple elts kk tpos) (.Call (.Name "zip" p) [e, e2, e3] [] pos) (diZ3 d1 d2 d3) := by
  obtain ⟨t1, a1, a2⟩ := he.ex
  obtain ⟨t2, b1, b2⟩ := he2.ex
  obtain ⟨t3, c1, c2⟩ := he3.ex
  refine ⟨_, pi_z3 hg hm (pa_cons a1 (pa_cons b1 (pa_cons c1 pa_nil hs3) hs2) hs) hs hpl, fun α σ H ρ μ Qd R S en h post => a2 α σ H ρ μ _ _ S en h fun v H1 α1 μ1 d g1 S1 r1 q1 => b2 α1 σ H1 ρ μ1 _ _ S1 (en.mono g1) q1 fun w H2 α2 μ2 dd g2 S2 r2 q2 =>
    c2 α2 σ H2 ρ μ2 _ _ S2 (en.mono (g1.trans g2)) q2 fun u H3 α3 μ3 ddd g3 S3 r3 q3 => ?_⟩
  split at q3
  · rename_i s t x es et ex
    obtain ⟨hd, k1, a, vs, rfl, q, L⟩ := kok_of S3 (r1.mono (g2.trans g3)) es
    obtain ⟨hd2, k2, b, us, rfl, q', L'⟩ := kok_of S3 (r2.mono g3) et
    obtain ⟨hd3, k3, c, ws, rfl, q'', L''⟩ := kok_of S3 r3 ex
    refine ⟨k1, k2, k3, a, b, c, vs, us, ws, rfl, q, q', q'', post _ _ _ _ _ (g1.trans (g2.trans g3)) S3 (fun p hp => ?_) (iz3_ok L L' L'') q3⟩
    rcases List.mem_append.mp hp with hp | hp
    · exact hd p hp
    · rcases List.mem_append.mp hp with hp | hp
      · exact hd2 p hp
      · exact hd3 p hp
  · exact False.elim q3
end Dl
/-! Mt: max and min of a list or a tuple of ints. -/
namespace Dl
open PySem PySem.Spec PyProof.Rows L2
theorem max_rawT {prog : Program} {w : World} {A : Around} {E : Value → Shared → Prop} {s : Shared} {t : Addr} {its : List Value} {ns : List Int} {Q : Value → Shared → Prop} (hh : A.handled = none) (ht : s.heap.IsTuple t its.toArray) (hi : IntsAre its ns) (h0 : 0 < ns.length)
    (h : ∀ (h' : Heap) (tk : Nat) (M : Int) (t' : Tok), (∀ (b : Addr) (o : Obj), s.heap.get? b = some o → h'.get? b = some o) → M ∈ ns → (∀ a, a ∈ ns → a ≤ M) → Q (.int M t') { s with heap := h', toks := tk }) :
    wpAny (model prog w) A (call (Value.builtin "max") [.ref t]) Q E s := by
  have lt : t < s.heap.objs.size := by
    obtain ⟨o, e, _⟩ := ht
    exact Heap.lt_size e
  have ln := hi.length
  refine call_max_walk (wpAny_pyIter_tuple ht ?_)
  have W := Walks.tuple (prog := prog) (w := w) (A := A.in1) hh s.heap.objs.size t (Nat.ne_of_lt lt) its.toArray
  refine ⟨_, _, _, _, _, _, _, rfl, W, ⟨⟨_, Heap.get?_push_size _ rfl, rfl, rfl⟩, ht.push _⟩, fun b hb => ?_, by rw [List.size_toArray]; omega,
    CmpOf.ints_gt (fun i => ns.getD i 0) (fun i v hv => hi.int_at i v (by rw [← List.getElem?_toArray]; exact hv)), fun v h' tk hv hk => ?_⟩
  · have hz : (s.heap.push { cls := Value.type "tuple_iterator", data := Data.fields #[Value.ref t, Value.int 0 0] }).objs.size = s.heap.objs.size + 1 := by
      show (s.heap.objs.push _).size = _
      simp
    simp only [List.mem_cons, List.not_mem_nil, or_false] at hb
    rw [hz]
    rcases hb with rfl | rfl
    · exact Nat.lt_succ_self _
    · exact Nat.lt_succ_of_lt lt
  · rw [List.size_toArray] at hv
    have ab := argBest_gt (fun i => ns.getD i 0) (its.length - 1)
    obtain ⟨t', rfl⟩ := hi.int_at _ v (by rw [← List.getElem?_toArray]; exact hv)
    have il : argBest (fun i j => decide (ns.getD i 0 > ns.getD j 0)) (its.length - 1) < ns.length := by omega
    refine h h' tk _ t' (fun b o e => hk b o (fun z => ?_) (Heap.get?_push_of_some _ e)) ?_ fun a ha => ?_
    · simp only [List.mem_cons, List.not_mem_nil, or_false] at z
      rw [z] at e
      exact absurd (Heap.lt_size e) (Nat.lt_irrefl _)
    · rw [List.getD_eq_getElem?_getD, List.getElem?_eq_getElem il]
      exact List.getElem_mem il
    · obtain ⟨j, hj⟩ := List.mem_iff_getElem?.mp ha
      have jl := (List.getElem?_eq_some_iff.mp hj).1
      have := ab.2 j (by omega)
      rw [show ns.getD j 0 = a by rw [List.getD_eq_getElem?_getD, hj]; rfl] at this
      exact this
section
variable {X : Cx}
def rMaxT (K : PySem.W.Frag) : List V → Hp → VK → Prop := fun vs H Q => ∃ (a : Addr) (ns : List Int), vs = [V.ref a] ∧ SqT K H a (ns.map V.int) ∧ 0 < ns.length ∧ ∀ m, m ∈ ns → (∀ y, y ∈ ns → y ≤ m) → Q (.int m) H
theorem cr_maxT (hc : X.calm = true) : CallR X (.builtin "max") (rMaxT X.K) := by
  intro pins s σ H vs us Q I r h
  obtain ⟨a, ns, rfl, hs, h0, q⟩ := h
  obtain ⟨its, rv, hl, _⟩ := I.tuple hs
  rw [Vals.ref1 r]
  refine max_rawT (I.ok.hd hc) hl rv.ints h0 fun h' tk M t' hk hm hle => ?_
  exact ⟨.int _, H, I.kept hk, ⟨_, rfl⟩, q M hm hle⟩
theorem s_max2 (hc : X.calm = true) : SeqD X (.builtin "max") true sMax := ⟨_, CallR.or (cr_max hc) (cr_maxT hc), fun α H μ p vs xs Qd Q S q r h post => by
  obtain ⟨ns, rfl, h0, h⟩ := h
  have e := r.ints
  subst e
  rcases q with q | ⟨_, q⟩
  · exact .inl ⟨p, ns, rfl, q, h0, fun m h1 h2 => post.here S (.int _) (h m h1 h2)⟩
  · exact .inr ⟨p, ns, rfl, q, h0, fun m h1 h2 => post.here S (.int _) (h m h1 h2)⟩⟩
end
end Dl
/-! Ev: readings over data, worked out. -/
namespace Dl
open PySem PySem.Spec PyProof.Rows L2
theorem atI_0 {β : Type} (x : β) (xs : List β) : atI (x :: xs) 0 = some x := by
  have := atI_nat (xs := x :: xs) (j := 0) (v := x) rfl
  exact this
theorem atI_1 {β : Type} (x y : β) (xs : List β) : atI (x :: y :: xs) 1 = some y := atI_nat (xs := x :: y :: xs) (j := 1) (v := y) rfl
theorem atI_2 {β : Type} (x y z : β) (xs : List β) : atI (x :: y :: z :: xs) 2 = some z := atI_nat (xs := x :: y :: z :: xs) (j := 2) (v := z) rfl
theorem atI_3 {β : Type} (x y z u : β) (xs : List β) : atI (x :: y :: z :: u :: xs) 3 = some u := atI_nat (xs := x :: y :: z :: u :: xs) (j := 3) (v := u) rfl
theorem atI_4 {β : Type} (x y z u v : β) (xs : List β) : atI (x :: y :: z :: u :: v :: xs) 4 = some v := atI_nat (xs := x :: y :: z :: u :: v :: xs) (j := 4) (v := v) rfl
theorem atI_n1 {β : Type} (xs : List β) (v : β) (h : xs.getLast? = some v) : atI xs (-1) = some v := by
  rw [List.getLast?_eq_getElem?] at h
  have hl : 0 < xs.length := by
    cases xs with
    | nil => simp at h
    | cons _ _ => simp
  unfold L2.atI L2.ixN
  rw [if_neg (by decide), if_pos (by omega)]
  show xs[(-1 + (xs.length : Int)).toNat]? = _
  rw [show (-1 + (xs.length : Int)).toNat = xs.length - 1 by omega]
  exact h
theorem ixN_20 : ixN 2 0 = some 0 := by decide
theorem ixN_21 : ixN 2 1 = some 1 := by decide
theorem ixN_nat {n j : Nat} (h : j < n) : ixN n (j : Int) = some j := by
  unfold L2.ixN
  rw [if_pos (by omega), if_pos (by omega), Int.toNat_natCast]
theorem kit_ii : kitB "int" "int" = some true := by decide +kernel
theorem kit_ib : kitB "int" "bool" = some false := by decide +kernel
theorem kit_is : kitB "int" "str" = some false := by decide +kernel
theorem kit_it : kitB "int" "tuple" = some false := by decide +kernel
theorem kit_il : kitB "int" "list" = some false := by decide +kernel
theorem kit_bi : kitB "bool" "int" = some true := by decide +kernel
theorem kit_bb : kitB "bool" "bool" = some true := by decide +kernel
theorem kit_bs : kitB "bool" "str" = some false := by decide +kernel
theorem kit_bt : kitB "bool" "tuple" = some false := by decide +kernel
theorem kit_bl : kitB "bool" "list" = some false := by decide +kernel
theorem kit_si : kitB "str" "int" = some false := by decide +kernel
theorem kit_sb : kitB "str" "bool" = some false := by decide +kernel
theorem kit_ss : kitB "str" "str" = some true := by decide +kernel
theorem kit_st : kitB "str" "tuple" = some false := by decide +kernel
theorem kit_sl : kitB "str" "list" = some false := by decide +kernel
theorem kit_ti : kitB "tuple" "int" = some false := by decide +kernel
theorem kit_tb : kitB "tuple" "bool" = some false := by decide +kernel
theorem kit_ts : kitB "tuple" "str" = some false := by decide +kernel
theorem kit_tt : kitB "tuple" "tuple" = some true := by decide +kernel
theorem kit_tl : kitB "tuple" "list" = some false := by decide +kernel
theorem kit_li : kitB "list" "int" = some false := by decide +kernel
theorem kit_lb : kitB "list" "bool" = some false := by decide +kernel
theorem kit_ls : kitB "list" "str" = some false := by decide +kernel
theorem kit_lt : kitB "list" "tuple" = some false := by decide +kernel
theorem kit_ll : kitB "list" "list" = some true := by decide +kernel
theorem kit_ni : kitB "NoneType" "int" = some false := by decide +kernel
theorem kit_nb : kitB "NoneType" "bool" = some false := by decide +kernel
theorem kit_ns : kitB "NoneType" "str" = some false := by decide +kernel
theorem kit_nt : kitB "NoneType" "tuple" = some false := by decide +kernel
theorem kit_nl : kitB "NoneType" "list" = some false := by decide +kernel
theorem sz1000 {n : Nat} (h : n ≤ 100000) : n ≤ sizeLine := Nat.le_trans h (by decide)
theorem sz_lt {n : Nat} (h : n < 100000) : n < sizeLine := Nat.lt_of_lt_of_le h (by decide)
theorem Mu.upd_at {μ : Mu} {j k : Nat} {xs : List D} : (μ.upd k xs) j = if j = k then some xs else μ j := rfl
theorem div_ok {j i : Int} (h0 : 0 < j) (h1 : j < 2 ^ 200) : DivOk i j := ⟨h0, lt_big (by omega)⟩
theorem mul_ok {i j : Int} (h0 : -(2 ^ 200) < i) (h1 : i < 2 ^ 200) (h2 : -(2 ^ 200) < j) (h3 : j < 2 ^ 200) : Dl.MulOk i j := .inr (.inr ⟨lt_big (by omega), lt_big (by omega)⟩)

/-! ### comprehensions whose turns change nothing -/
theorem held_upd {s : Src} {μ : Mu} {k : Nat} {xs : List D} (h : s.held μ) (n : μ k = none) : s.held (μ.upd k xs) := fun p hp => by
  have e := h p hp
  rw [Mu.upd_ne (Mu.ne_of e n)]
  exact e
theorem lc_fm {s : Src} {g : DTG} {tt : DTT} {de : DTE} {ρ : Rho} {Q : List D → Mu → Prop} {μ : Mu} (p : D → Bool) (f : D → D) (hh : s.held μ) (hs : s.its.length ≤ 100000)
    (hb : ∀ x, x ∈ s.its → ∀ μ' (Qy : DK) (Qn : Mu → Prop), s.held μ' → (if p x = true then Qy (f x) μ' else Qn μ') → g x ρ μ' fun ρ2 μ2 => tt ρ2 μ2 fun b μ3 => if b = true then de ρ2 μ3 Qy else Qn μ3)
    (hq : Q ((s.its.filter p).map f) μ) : lcIn s g tt de ρ Q μ := by
  intro k hk
  refine ⟨fun i μ' => μ' = μ.upd k (((s.its.take i).filter p).map f), rfl, fun i x μ' hi w => ?_, fun μ' w => ?_⟩
  · subst w
    have hx : x ∈ s.its := List.mem_of_getElem? hi
    have hl : i < s.its.length := (List.getElem?_eq_some_iff.mp hi).1
    have et : s.its.take (i + 1) = s.its.take i ++ [x] := by rw [List.take_add_one, hi]; rfl
    refine ⟨held_upd hh hk, hb x hx _ _ _ (held_upd hh hk) ?_⟩
    cases hp : p x with
    | true =>
      rw [if_pos rfl]
      refine ⟨_, Mu.upd_same, sz_lt ?_, ?_⟩
      · rw [List.length_map]
        have h1 := List.length_filter_le p (s.its.take i)
        rw [List.length_take] at h1
        omega
      · show _ = μ.upd k (((s.its.take (i + 1)).filter p).map f)
        rw [Mu.upd_upd, et, List.filter_append, List.map_append, List.filter_cons_of_pos hp]
        rfl
    | false =>
      rw [if_neg (by decide)]
      show _ = μ.upd k (((s.its.take (i + 1)).filter p).map f)
      rw [et, List.filter_append, List.filter_cons_of_neg (by rw [hp]; decide)]
      simp
  · subst w
    refine ⟨held_upd hh hk, _, μ, Mu.upd_same, hk, ?_, ?_⟩
    · exact Mu.Sub.refl _
    · rw [List.take_length]
      exact hq
theorem lc_map {s : Src} {g : DTG} {de : DTE} {ρ : Rho} {Q : List D → Mu → Prop} {μ : Mu} (f : D → D) (hh : s.held μ) (hs : s.its.length ≤ 100000)
    (hb : ∀ x, x ∈ s.its → ∀ μ' (Qy : DK), s.held μ' → Qy (f x) μ' → g x ρ μ' fun ρ2 μ2 => de ρ2 μ2 Qy)
    (hq : Q (s.its.map f) μ) : lcIn s g dYes de ρ Q μ := by
  refine lc_fm (fun _ => true) f hh hs (fun x hx μ' Qy Qn hd q => ?_) ?_
  · exact hb x hx μ' Qy hd q
  · rw [List.filter_eq_self.mpr fun _ _ => rfl]
    exact hq
/-- .. that leave new cells behind -/
theorem lc_grow {s : Src} {g : DTG} {de : DTE} {ρ : Rho} {Q : List D → Mu → Prop} {μ : Mu} (f : D → D) (hh : s.held μ) (hs : s.its.length ≤ 100000)
    (hb : ∀ x, x ∈ s.its → ∀ μ' (Qy : DK), s.held μ' → (∀ μ4, Mu.Sub μ' μ4 → Qy (f x) μ4) → g x ρ μ' fun ρ2 μ2 => de ρ2 μ2 Qy)
    (hq : Q (s.its.map f) μ) : lcIn s g dYes de ρ Q μ := by
  intro k hk
  have held : ∀ {xs : List D} {μ' : Mu}, Mu.Sub (μ.upd k xs) μ' → s.held μ' := fun {xs μ'} sb p hp => sb _ _ (held_upd hh hk p hp)
  refine ⟨fun i μ' => Mu.Sub (μ.upd k ((s.its.take i).map f)) μ', Mu.Sub.refl _, fun i x μ' hi w => ⟨held w, ?_⟩, fun μ' w => ⟨held w, s.its.map f, μ, ?_, hk, ?_, hq⟩⟩
  · have hx : x ∈ s.its := List.mem_of_getElem? hi
    have hl : i < s.its.length := (List.getElem?_eq_some_iff.mp hi).1
    refine hb x hx _ _ (held w) fun μ4 sb => ⟨_, sb _ _ (w _ _ Mu.upd_same), sz_lt ?_, ?_⟩
    · rw [List.length_map, List.length_take]
      omega
    · have h1 := (w.trans sb).upd k ((s.its.take i).map f ++ [f x])
      rw [Mu.upd_upd] at h1
      show Mu.Sub (μ.upd k ((s.its.take (i + 1)).map f)) _
      rw [List.take_add_one, hi, List.map_append]
      exact h1
  · have := w k _ Mu.upd_same
    rw [List.take_length] at this
    exact this
  · have w : Mu.Sub (μ.upd k ((s.its.take s.its.length).map f)) μ' := w
    rw [List.take_length] at w
    exact w
theorem Mu.keep {μ : Mu} {j k : Nat} {xs ys : List D} (h : μ j = some ys) (n : μ k = none) : (μ.upd k xs) j = some ys := (Mu.upd_ne (Mu.ne_of h n)).trans h
theorem sAll_map {xs : List D} {b : D → Bool} {μ : Mu} {Q : DK} (h : Q (.bl (xs.all b)) μ) : sAll (xs.map fun x => .bl (b x)) μ Q := by
  refine ⟨xs.map b, by rw [List.map_map]; rfl, ?_⟩
  rw [List.all_map]
  exact h
theorem sAny_map {xs : List D} {b : D → Bool} {μ : Mu} {Q : DK} (h : Q (.bl (xs.any b)) μ) : sAny (xs.map fun x => .bl (b x)) μ Q := by
  refine ⟨xs.map b, by rw [List.map_map]; rfl, ?_⟩
  rw [List.any_map]
  exact h
theorem atI_map {β γ : Type} (f : β → γ) (xs : List β) (i : Int) : atI (xs.map f) i = (atI xs i).map f := by
  unfold L2.atI
  rw [List.length_map]
  cases ixN xs.length i with
  | none => rfl
  | some j => exact List.getElem?_map

theorem natlit (n : Nat) : ((no_index (OfNat.ofNat n : Nat)) : Int) = (OfNat.ofNat n : Int) := rfl
theorem permG2_10 {β : Type} (a b : β) (l : List β) : permG [1, 0] l [a, b] = [b, a] := rfl
theorem permG3_210 {β : Type} (a b c : β) (l : List β) : permG [2, 1, 0] l [a, b, c] = [c, b, a] := rfl
theorem zl_0 : (0 ≤ sizeLine) = True := eq_true (sz1000 (by decide))
theorem zl_1 : (1 ≤ sizeLine) = True := eq_true (sz1000 (by decide))
theorem zl_2 : (2 ≤ sizeLine) = True := eq_true (sz1000 (by decide))
theorem zl_3 : (3 ≤ sizeLine) = True := eq_true (sz1000 (by decide))
theorem zl_4 : (4 ≤ sizeLine) = True := eq_true (sz1000 (by decide))
theorem zl_5 : (5 ≤ sizeLine) = True := eq_true (sz1000 (by decide))
theorem zl_6 : (6 ≤ sizeLine) = True := eq_true (sz1000 (by decide))
theorem zl_7 : (7 ≤ sizeLine) = True := eq_true (sz1000 (by decide))
theorem zl_8 : (8 ≤ sizeLine) = True := eq_true (sz1000 (by decide))
theorem zl_9 : (9 ≤ sizeLine) = True := eq_true (sz1000 (by decide))
theorem zl_10 : (10 ≤ sizeLine) = True := eq_true (sz1000 (by decide))
theorem zl_11 : (11 ≤ sizeLine) = True := eq_true (sz1000 (by decide))
theorem zl_12 : (12 ≤ sizeLine) = True := eq_true (sz1000 (by decide))
theorem zl_13 : (13 ≤ sizeLine) = True := eq_true (sz1000 (by decide))
theorem zl_14 : (14 ≤ sizeLine) = True := eq_true (sz1000 (by decide))
theorem zl_15 : (15 ≤ sizeLine) = True := eq_true (sz1000 (by decide))
theorem zl_16 : (16 ≤ sizeLine) = True := eq_true (sz1000 (by decide))
theorem zl_17 : (17 ≤ sizeLine) = True := eq_true (sz1000 (by decide))
theorem zl_18 : (18 ≤ sizeLine) = True := eq_true (sz1000 (by decide))
theorem zl_19 : (19 ≤ sizeLine) = True := eq_true (sz1000 (by decide))
theorem zl_20 : (20 ≤ sizeLine) = True := eq_true (sz1000 (by decide))
/-- what is still to be run: U -/
def Nx (u V : Rho → Mu → Prop) : Prop := ∀ ρ μ μ', Mu.Sub μ' μ → u ρ μ' → V ρ μ
theorem Nx.go {u V : Rho → Mu → Prop} {ρ : Rho} {μ : Mu} (h : Nx u V) (q : u ρ μ) : V ρ μ := h ρ μ μ (Mu.Sub.refl μ) q
theorem Nx.fgt {u V : Rho → Mu → Prop} {ρ : Rho} {μ μ' : Mu} (h : Nx u V) (s : Mu.Sub μ' μ) (q : u ρ μ') : V ρ μ := h ρ μ μ' s q
theorem sq {t u : DTS} {D : DEnds} {ρ : Rho} {μ : Mu} (h : ∀ U, Nx (u D) U → t ⟨U, D.rt, D.bk, D.ct⟩ ρ μ) : dSeq t u D ρ μ := h _ fun _ _ μ' s q => ⟨μ', s, q⟩
end Dl
/-! Ev2: comprehensions over a typed list. -/
namespace Dl
open PySem PySem.Spec PyProof.Rows L2
theorem lc_ty {β : Type} {l : List β} {e : β → D} {kp : List (Nat × List D)} {g : DTG} {tt : DTT} {de : DTE} {ρ : Rho} {Q : List D → Mu → Prop} {μ : Mu} (p : β → Bool) (f : β → D) (hh : (⟨l.map e, kp⟩ : Src).held μ) (hs : l.length ≤ 100000)
    (hb : ∀ b, b ∈ l → ∀ μ' (Qy : DK) (Qn : Mu → Prop), Mu.Sub μ μ' → (if p b = true then Qy (f b) μ' else Qn μ') → g (e b) ρ μ' fun ρ2 μ2 => tt ρ2 μ2 fun c μ3 => if c = true then de ρ2 μ3 Qy else Qn μ3)
    (hq : Q ((l.filter p).map f) μ) : lcIn ⟨l.map e, kp⟩ g tt de ρ Q μ := by
  intro k hk
  refine ⟨fun i μ' => μ' = μ.upd k (((l.take i).filter p).map f), rfl, fun i x μ' hi w => ?_, fun μ' w => ?_⟩
  · subst w
    have hi : (l.map e)[i]? = some x := hi
    rw [List.getElem?_map] at hi
    obtain ⟨b, hib, rfl⟩ := Option.map_eq_some_iff.mp hi
    have hx : b ∈ l := List.mem_of_getElem? hib
    have hl : i < l.length := (List.getElem?_eq_some_iff.mp hib).1
    have et : l.take (i + 1) = l.take i ++ [b] := by rw [List.take_add_one, hib]; rfl
    refine ⟨held_upd hh hk, hb b hx _ _ _ (Mu.sub_upd hk) ?_⟩
    cases hp : p b with
    | true =>
      rw [if_pos rfl]
      refine ⟨_, Mu.upd_same, sz_lt ?_, ?_⟩
      · rw [List.length_map]
        have h1 := List.length_filter_le p (l.take i)
        rw [List.length_take] at h1
        omega
      · show _ = μ.upd k (((l.take (i + 1)).filter p).map f)
        rw [Mu.upd_upd, et, List.filter_append, List.map_append, List.filter_cons_of_pos hp]
        rfl
    | false =>
      rw [if_neg (by decide)]
      show _ = μ.upd k (((l.take (i + 1)).filter p).map f)
      rw [et, List.filter_append, List.filter_cons_of_neg (by rw [hp]; decide)]
      simp
  · have w : μ' = μ.upd k (((l.take (l.map e).length).filter p).map f) := w
    subst w
    refine ⟨held_upd hh hk, _, μ, Mu.upd_same, hk, Mu.Sub.refl _, ?_⟩
    rw [List.length_map, List.take_length]
    exact hq
theorem lc_tm {β : Type} {l : List β} {e : β → D} {kp : List (Nat × List D)} {g : DTG} {de : DTE} {ρ : Rho} {Q : List D → Mu → Prop} {μ : Mu} (f : β → D) (hh : (⟨l.map e, kp⟩ : Src).held μ) (hs : l.length ≤ 100000)
    (hb : ∀ b, b ∈ l → ∀ μ' (Qy : DK), Mu.Sub μ μ' → Qy (f b) μ' → g (e b) ρ μ' fun ρ2 μ2 => de ρ2 μ2 Qy)
    (hq : Q (l.map f) μ) : lcIn ⟨l.map e, kp⟩ g dYes de ρ Q μ := by
  refine lc_ty (fun _ => true) f hh hs (fun b hb' μ' Qy Qn hd q => hb b hb' μ' Qy hd q) ?_
  rw [List.filter_eq_self.mpr fun _ _ => rfl]
  exact hq
theorem sAll_ty {β : Type} {l : List β} {b : β → Bool} {μ : Mu} {Q : DK} (h : Q (.bl (l.all b)) μ) : sAll (l.map fun x => .bl (b x)) μ Q := by
  refine ⟨l.map b, by rw [List.map_map]; rfl, ?_⟩
  rw [List.all_map]
  exact h
theorem sAny_ty {β : Type} {l : List β} {b : β → Bool} {μ : Mu} {Q : DK} (h : Q (.bl (l.any b)) μ) : sAny (l.map fun x => .bl (b x)) μ Q := by
  refine ⟨l.map b, by rw [List.map_map]; rfl, ?_⟩
  rw [List.any_map]
  exact h
theorem all_yes {β : Type} (l : List β) : l.all (fun _ => true) = true := by
  induction l with
  | nil => rfl
  | cons a l ih => exact ih
/-! ### what == looks at -/
structure EqOk (μ : Mu) (d : D) (p : PyData) (dep : Nat) : Prop where
  rs : Rs μ d p
  cl : p.canLay0 = true
  dp : p.depth ≤ dep
structure EqAll (μ : Mu) (ds : List D) (ps : List PyData) (dep : Nat) : Prop where
  rs : RsAll μ ds ps
  cl : PyData.canLayAll0 ps = true
  dp : PyData.depthAll ps ≤ dep
section
variable {μ : Mu}
theorem EqOk.int (i : Int) : EqOk μ (.int i) (.int i) 0 := ⟨.int i, rfl, by simp [PyData.depth]⟩
theorem EqOk.bl (b : Bool) : EqOk μ (.bl b) (.bool b) 0 := ⟨.bl b, rfl, by simp [PyData.depth]⟩
theorem EqOk.non : EqOk μ .non .none 0 := ⟨.non, rfl, by simp [PyData.depth]⟩
theorem EqAll.nil : EqAll μ [] [] 0 := ⟨.nil, rfl, by simp [PyData.depthAll]⟩
theorem EqAll.cons {d : D} {ds : List D} {p : PyData} {ps : List PyData} {a : Nat} (h : EqOk μ d p a) (t : EqAll μ ds ps a) : EqAll μ (d :: ds) (p :: ps) a := by
  refine ⟨.cons h.rs t.rs, ?_, ?_⟩
  · simp only [PyData.canLayAll0, h.cl, t.cl, Bool.and_self]
  · have h1 := h.dp
    have h2 := t.dp
    simp only [PyData.depthAll]
    omega
theorem EqAll.emp {a : Nat} : EqAll μ [] [] a := ⟨.nil, rfl, by simp [PyData.depthAll]⟩
theorem EqOk.mono {d : D} {p : PyData} {a b : Nat} (h : EqOk μ d p a) (hb : a ≤ b) : EqOk μ d p b := ⟨h.rs, h.cl, Nat.le_trans h.dp hb⟩
theorem EqOk.tup {ds : List D} {ps : List PyData} {a : Nat} (h : EqAll μ ds ps a) : EqOk μ (.tup ds) (.tuple ps) (a + 1) := by
  refine ⟨.tup h.rs, ?_, ?_⟩
  · simp only [PyData.canLay0, h.cl]
  · have := h.dp
    simp only [PyData.depth]
    omega
theorem EqOk.lst {k : Nat} {ds : List D} {ps : List PyData} {a : Nat} (e : μ k = some ds) (h : EqAll μ ds ps a) : EqOk μ (.cell k) (.list ps) (a + 1) := by
  refine ⟨.cell e h.rs, ?_, ?_⟩
  · simp only [PyData.canLay0, h.cl]
  · have := h.dp
    simp only [PyData.depth]
    omega
theorem EqAll.map {β : Type} {f : β → D} {g : β → PyData} {a : Nat} : ∀ {xs : List β}, (∀ x, x ∈ xs → EqOk μ (f x) (g x) a) → EqAll μ (xs.map f) (xs.map g) a
  | [], _ => .emp
  | x :: xs, h => .cons (h x (List.mem_cons_self ..)) (EqAll.map fun y hy => h y (List.mem_cons_of_mem _ hy))
theorem ask_deep {neg : Bool} {x y : D} {p q : PyData} {a b : Nat} {Q : DK} (h1 : EqOk μ x p a) (h2 : EqOk μ y q b) (ha : a ≤ 64) (hb : b ≤ 64) (k : Q (.bl (if neg = true then !PyData.eqv p q else PyData.eqv p q)) μ) : deepEq neg x y μ Q :=
  ⟨p, q, h1.rs, h2.rs, by unfold SeqAt.shaped; rw [h1.cl, decide_eq_true (Nat.le_trans h1.dp ha)]; rfl, by unfold SeqAt.shaped; rw [h2.cl, decide_eq_true (Nat.le_trans h2.dp hb)]; rfl, k⟩
theorem ask_same {x y : D} {p : PyData} {a : Nat} {Q : DK} (h1 : EqOk μ x p a) (h2 : EqOk μ y p a) (ha : a ≤ 64) (k : Q (.bl false) μ) : deepEq true x y μ Q := by
  refine ask_deep h1 h2 ha ha ?_
  rw [if_pos rfl, SeqAt.eqv_refl p h1.cl]
  exact k
end
end Dl
/-! Rp: what repr shows, by data. -/
namespace Dl
open PySem PySem.Spec PyProof.Rows L2
structure RpOk (μ : Mu) (d : D) (p : PyData) (n dep : Nat) : Prop where
  rs : Rs μ d p
  sh : p.showable = true
  nd : p.hasDict = false
  ls : p.leavesShort 24 = true
  bk : p.bulk ≤ n
  dp : p.depth ≤ dep
structure RpAll (μ : Mu) (ds : List D) (ps : List PyData) (n dep : Nat) : Prop where
  rs : RsAll μ ds ps
  sh : PyData.showableAll ps = true
  nd : PyData.hasDictAll ps = false
  ls : PyData.leavesShortAll 24 ps = true
  bk : PyData.bulkAll ps ≤ n
  dp : PyData.depthAll ps ≤ dep
section
variable {μ : Mu}
theorem RpOk.non : RpOk μ .non .none 0 0 := ⟨.non, by simp [PyData.showable], by simp [PyData.hasDict], by simp [PyData.leavesShort], by simp [PyData.bulk], by simp [PyData.depth]⟩
theorem RpOk.bl (b : Bool) : RpOk μ (.bl b) (.bool b) 0 0 := ⟨.bl b, by simp [PyData.showable], by simp [PyData.hasDict], by simp [PyData.leavesShort], by simp [PyData.bulk], by simp [PyData.depth]⟩
theorem log_of {n : Nat} (h : n < 10 ^ 22) : n.log2 < 1920 := by
  rcases Nat.eq_zero_or_pos n with rfl | h0
  · decide
  · exact (Nat.log2_lt (by omega)).mpr (Nat.lt_trans h (by decide))
theorem RpOk.int {i : Int} (h : i.natAbs < 10 ^ 22) : RpOk μ (.int i) (.int i) 0 0 := ⟨.int i, by simp only [PyData.showable]; exact decide_eq_true (log_of h), by simp [PyData.hasDict], by
  simp only [PyData.leavesShort]
  refine decide_eq_true ?_
  have := PySem.int_text_length_le10 (a := i) (k := 22) (by decide) h
  have e := PySem.ofString_length (toString i)
  show (Str.ofString (toString i)).length ≤ 24
  omega, by simp [PyData.bulk], by simp [PyData.depth]⟩
theorem RpOk.str {x : Str} (h : (x.cps.toList.all fun c => decide (c < 16 ^ 8)) = true) : RpOk μ (.str x) (.str x) x.cps.size 0 := ⟨.str x, by simp [PyData.showable], by simp [PyData.hasDict], by simp only [PyData.leavesShort]; exact h, by simp [PyData.bulk], by simp [PyData.depth]⟩
theorem RpOk.mono {d : D} {p : PyData} {n dep n' dep' : Nat} (h : RpOk μ d p n dep) (hn : n ≤ n') (hd : dep ≤ dep') : RpOk μ d p n' dep' := ⟨h.rs, h.sh, h.nd, h.ls, Nat.le_trans h.bk hn, Nat.le_trans h.dp hd⟩
theorem RpAll.nil : RpAll μ [] [] 0 0 := ⟨.nil, by simp [PyData.showableAll], by simp [PyData.hasDictAll], by simp [PyData.leavesShortAll], by simp [PyData.bulkAll], by simp [PyData.depthAll]⟩
theorem RpAll.cons {d : D} {ds : List D} {p : PyData} {ps : List PyData} {n m a b : Nat} (h : RpOk μ d p n a) (t : RpAll μ ds ps m b) : RpAll μ (d :: ds) (p :: ps) (n + 1 + m) (max a b) := by
  refine ⟨.cons h.rs t.rs, ?_, ?_, ?_, ?_, ?_⟩
  · simp only [PyData.showableAll, h.sh, t.sh, Bool.and_self]
  · simp only [PyData.hasDictAll, h.nd, t.nd, Bool.or_self]
  · simp only [PyData.leavesShortAll, h.ls, t.ls, Bool.and_self]
  · have h1 := h.bk
    have h2 := t.bk
    simp only [PyData.bulkAll]
    omega
  · have h1 := h.dp
    have h2 := t.dp
    simp only [PyData.depthAll]
    omega
theorem RpOk.tup {ds : List D} {ps : List PyData} {n dep : Nat} (h : RpAll μ ds ps n dep) : RpOk μ (.tup ds) (.tuple ps) n (dep + 1) := by
  refine ⟨.tup h.rs, ?_, ?_, ?_, ?_, ?_⟩
  · simp only [PyData.showable, h.sh]
  · simp only [PyData.hasDict, h.nd]
  · simp only [PyData.leavesShort, h.ls]
  · simp only [PyData.bulk]
    exact h.bk
  · have := h.dp
    simp only [PyData.depth]
    omega
theorem RpOk.lst {k : Nat} {ds : List D} {ps : List PyData} {n dep : Nat} (e : μ k = some ds) (h : RpAll μ ds ps n dep) : RpOk μ (.cell k) (.list ps) n (dep + 1) := by
  refine ⟨.cell e h.rs, ?_, ?_, ?_, ?_, ?_⟩
  · simp only [PyData.showable, h.sh]
  · simp only [PyData.hasDict, h.nd]
  · simp only [PyData.leavesShort, h.ls]
  · simp only [PyData.bulk]
    exact h.bk
  · have := h.dp
    simp only [PyData.depth]
    omega
theorem RpAll.map {β : Type} {f : β → D} {g : β → PyData} {c dep : Nat} : ∀ {xs : List β}, (∀ x, x ∈ xs → RpOk μ (f x) (g x) c dep) → RpAll μ (xs.map f) (xs.map g) (xs.length * (c + 1)) dep
  | [], _ => by
    have := RpAll.nil (μ := μ)
    exact ⟨this.rs, this.sh, this.nd, this.ls, Nat.le_trans this.bk (Nat.zero_le _), Nat.le_trans this.dp (Nat.zero_le _)⟩
  | x :: xs, h => by
    have h1 := RpAll.cons (h x (List.mem_cons_self ..)) (RpAll.map fun y hy => h y (List.mem_cons_of_mem _ hy))
    refine ⟨h1.rs, h1.sh, h1.nd, h1.ls, Nat.le_trans h1.bk ?_, Nat.le_trans h1.dp (by omega)⟩
    rw [List.length_cons, Nat.add_mul]
    omega
theorem ask_repr {d : D} {p : PyData} {n dep : Nat} {Q : DK} (h : RpOk μ d p n dep) (hd : isDisplay p = true) (h1 : n ≤ 500000) (h2 : dep ≤ 60) (q : Q (.str p.shown) μ) : cRepr [d] μ Q := by
  refine ⟨p, h.rs, hd, h.sh, h.nd, Nat.le_trans h.dp h2, ?_, q⟩
  have a := PyData.shown_le_bulk 24 (by decide) p h.ls
  have b := h.bk
  have e : (24 + 2) * p.bulk + 24 ≤ 13000024 := by omega
  have s : 13000024 ≤ sizeLine := by decide
  omega
end
end Dl
/-! Rb: repr of a bool, or of a display. -/
namespace Dl
open PySem PySem.Spec PyProof.Rows L2
section
variable {X : Cx} {K : PySem.W.Frag} {α : List Addr} {H : Hp}
def shownB (b : Bool) : Str := if b = true then Str.ofString "True" else Str.ofString "False"
def cRepr2 : List D → Mu → DK → Prop := fun ds μ Q => match ds with
  | [.bl b] => Q (.str (shownB b)) μ
  | ds => cRepr ds μ Q
theorem cr2_bl (b : Bool) (μ : Mu) (Q : DK) : cRepr2 [.bl b] μ Q = Q (.str (shownB b)) μ := rfl
theorem c_repr2 (hgd : X.A.guards = some []) (hu : X.A.units + 64 < cLine) : CallD X (.builtin "repr") cRepr2 := by
  obtain ⟨r, h1, h2⟩ := (c_repr (X := X) hgd hu).ex
  refine ⟨fun xs H Q => (∃ b, xs = [.bl b] ∧ Q (.str (shownB b)) H) ∨ r xs H Q, ?_, ?_⟩
  · intro pins s σ H xs us Q I vr h
    rcases h with ⟨b, rfl, q⟩ | h
    · obtain ⟨u, rfl, rv⟩ := vals1 vr
      cases rv
      refine P.repr_of_bool ?_
      exact ⟨.str (shownB b), H, I.kept (t' := s.toks + 1) (fun _ _ e => e), ⟨_, rfl⟩, q⟩
    · exact h1 pins s σ H xs us Q I vr h
  · intro α H μ xs dxs Qd Q S rx h post
    unfold cRepr2 at h
    split at h
    · rename_i b
      obtain ⟨v, rfl, rv⟩ := rl1 rx
      cases rv
      exact .inl ⟨b, rfl, post.here S (.str _) h⟩
    · exact .inr (h2 α H μ xs _ Qd Q S rx h post)
end
theorem ask_repr2 {μ : Mu} {d : D} {p : PyData} {n dep : Nat} {Q : DK} (h : RpOk μ d p n dep) (hd : isDisplay p = true) (h1 : n ≤ 500000) (h2 : dep ≤ 60) (q : Q (.str p.shown) μ) : cRepr2 [d] μ Q := by
  unfold cRepr2
  split
  · rename_i b e
    cases e
    have := h.rs
    cases this
    cases hd
  · exact ask_repr h hd h1 h2 q
end Dl
/-! End: a law's end, from its promise over data; the module's names off the head's facts. -/
namespace Dl
open PySem PySem.Spec PyProof.Rows L2

/-- the only thing followed is a list at a, which never changes -/
structure Lone (K : PySem.W.Frag) (a : Addr) (H : Hp) : Prop where
  off : ∀ b, b ≠ a → H b = none
  on : ∀ u, H a = some u → K.lookup a = none ∧ ∃ ob xs, u = .frz ob (.lst xs)

theorem call_end {P : Program} {w : World} {K : PySem.W.Frag} {mg mb : Str → Option Value} {k : Nat} {f a : Addr} {fd : FuncData} {x : Str} {sp : DSp} {s : Shared} {ws : List Value} {ns : List Int}
    (hK : K.In s.heap) (h1 : s.heap.Ns mainGlobals mg) (h2 : s.heap.Ns builtinsNs mb) (h3 : ∀ y : Str, y ≠ "__name__" → mb y = bootBuiltins y) (h4 : s.heap.NoLimit) (h5 : s.gens = #[])
    (at_ : s.heap.get? a = some { cls := .type "list", data := .seq ws.toArray }) (iv : IntsAre ws ns) (hr : Room k callerA) (bd : BindsTo s fd ⟨[.ref a], []⟩ [(x, .ref a)])
    (F : ∀ base : Heap, FnG P w K mg base k f fd [x] sp) (hsp : ∀ Q : DK, (∀ μ, Q (.bl true) μ) → sp [.frz (ns.map D.int)] (fun _ => none) Q)
    {H : Hp} (lone : Lone K a H) (hok : HOk P w H s.heap) (fz : FrzL K H a (ns.map V.int)) :
    codeAny (model P w) callerA (.call (.ref f) ⟨[.ref a], []⟩) (fun r s' => r = .ok (.ret (.bool true)) ∧ OldK s.heap s'.heap ∧ s'.os = s.os ∧ AllBare s'.gens) s := by
  have dict0 : ∀ b ob es ep, s.heap.get? b = some ob → ob.data = .dict es ep → H b = none := by
    intro b ob es ep e d
    by_cases q : b = a
    · rw [q, at_] at e
      rw [← Option.some.inj e] at d
      cases d
    · exact lone.off b q
  have ns_ : ∀ {b : Addr} {m : Str → Option Value}, s.heap.Ns b m → (hidT s.heap H).Ns b m := by
    rintro b m ⟨ob, es, ep, e, d, r⟩
    exact ⟨ob, es, ep, hidT_get e (dict0 b ob es ep e d), d, r⟩
  have kin : K.In (hidT s.heap H) := by
    intro b ob e
    refine hidT_get (hK b ob e) ?_
    by_cases q : b = a
    · cases hu : H b with
      | none => rfl
      | some u =>
        rw [q] at hu e
        rw [(lone.on u hu).1] at e
        cases e
    · exact lone.off b q
  have md : Mod K mg (hidT s.heap H) := by
    obtain ⟨mc, l1, l2⟩ := h4
    exact ⟨kin, ns_ h1, ⟨mb, ns_ h2, h3⟩, mc, ns_ l1, l2⟩
  have no0 : ∀ b, b ∉ frs ([] : List Env) := fun b z => by cases z
  have e0 : Env0 P w K mg (hidT s.heap H) callerA [] s H :=
    { frames := rfl, mod := md, bs := fun b ob e => of_hidT e, bsz := by rw [hidT_size]; exact Nat.le_refl _, funs := trivial, frf := fun b z => (no0 b z).elim, hok := hok, bare := .of_eq h5 }
  have sat : Sat K [] H (fun _ => none) :=
    { cell := fun k xs e => (by cases e), inj := fun j k b e => (by rw [List.getElem?_nil] at e; cases e), live := fun k b e => (by rw [List.getElem?_nil] at e; cases e) }
  have run := (F (hidT s.heap H)).run callerA [] s H ⟨[.ref a], []⟩ [.ref a] [.ref a] [] (fun _ => none) [.frz (ns.map D.int)] (fun d _ => d = .bl true) (fun v _ => v = .bl true) hr rfl e0 rfl bd (.cons rfl .nil) sat
    (.cons (.frz fz (rlInts ns)) .nil) (hsp _ fun _ => rfl) (by
      intro v H' α' μ' d _ _ r e
      subst e
      cases r
      rfl)
  refine codeAny_mono run fun r s' h => ?_
  match r, h with
  | .error e, h => exact h.elim
  | .ok (.ret u), ⟨v, H', os, bare, un, hok', rv, e⟩ =>
    subst e
    have eu : u = Value.bool true := rv
    rw [eu]
    refine ⟨rfl, OldK.of_keep fun b ob q => ?_, os, bare⟩
    cases hu : H b with
    | none => exact un.keep b ob q hu (no0 b) (fun z => by cases z)
    | some v =>
      by_cases qa : b = a
      · rw [qa] at hu q ⊢
        obtain ⟨_, oz, xs, rfl⟩ := lone.on v hu
        have p1 := (hok a _ hu).1
        have p2 := (hok' a _ (un.frzs a oz _ hu)).1
        rw [q] at p1
        rw [Option.some.inj p1]
        exact p2
      · rw [lone.off b qa] at hu
        cases hu
theorem call_law {P : Program} {w : World} {K : PySem.W.Frag} {mg mb : Str → Option Value} {k : Nat} {f a : Addr} {fd : FuncData} {x : Str} {sp : DSp} {s : Shared} {ws : List Value} {ns : List Int}
    (hK : K.In s.heap) (h1 : s.heap.Ns mainGlobals mg) (h2 : s.heap.Ns builtinsNs mb) (h3 : ∀ y : Str, y ≠ "__name__" → mb y = bootBuiltins y) (h4 : s.heap.NoLimit) (h5 : s.gens = #[])
    (at_ : s.heap.get? a = some { cls := .type "list", data := .seq ws.toArray }) (iv : IntsAre ws ns) (hl : ns.length ≤ sizeLine) (hr : Room k callerA) (bd : BindsTo s fd ⟨[.ref a], []⟩ [(x, .ref a)])
    (F : ∀ base : Heap, FnG P w K mg base k f fd [x] sp) (hsp : ∀ Q : DK, (∀ μ, Q (.bl true) μ) → sp [.frz (ns.map D.int)] (fun _ => none) Q) :
    codeAny (model P w) callerA (.call (.ref f) ⟨[.ref a], []⟩) (fun r s' => r = .ok (.ret (.bool true)) ∧ OldK s.heap s'.heap ∧ s'.os = s.os ∧ AllBare s'.gens) s := by
  have rv := vals_ints iv
  cases hk : K.lookup a with
  | some ob =>
    have e := hK a ob hk
    rw [at_] at e
    cases e
    refine call_end hK h1 h2 h3 h4 h5 at_ iv hr bd F hsp (H := fun _ => none) ⟨fun _ _ => rfl, fun u z => by cases z⟩ (fun b u z => by cases z) (.inr (.inr ⟨_, ws.toArray, _, hk, rfl, rfl, rfl, ?_, ?_⟩))
    · rw [List.size_toArray, iv.length]
      exact hl
    · simpa using rv
  | none =>
    refine call_end hK h1 h2 h3 h4 h5 at_ iv hr bd F hsp (H := upd (fun _ => none) a (.frz { cls := .type "list", data := .seq ws.toArray } (.lst (ns.map V.int)))) ⟨fun b q => L2.upd_ne q, fun u z => ?_⟩ (fun b u z => ?_) (.inl ⟨_, L2.upd_same⟩)
    · rw [L2.upd_same] at z
      exact ⟨hk, _, _, (Option.some.inj z).symm⟩
    · by_cases q : b = a
      · subst q
        rw [L2.upd_same] at z
        cases z
        exact ⟨at_, by rw [List.length_map]; exact hl, ws, _, rv, at_⟩
      · rw [L2.upd_ne q] at z
        cases z

/-! ### the head's facts -/
/-- a def of the top, of no default -/
def mkD (p : Str × Stmt) : He.DefD := ⟨(p.1, none), p.1, p.1, defArgs p.2, defBody p.2, defScope p.2, [], []⟩
theorem txt_of {K : PySem.W.Frag} {h : Heap} {mg : Str → Option Value} (X : K.In h) (G : h.Ns mainGlobals mg) {fa : List He.Fa} {fn : List He.DefD} (c : He.SaysD fa fn K) {x : Str} {st : Stmt} (i j : Nat)
    (hi : fn[i]? = some (mkD (x, st))) (hj : fa[j]? = some (.glo x)) : Txt K mg x st := by
  obtain ⟨fd, F⟩ := c.def_ i hi
  have g := He.glo_ok X G (c.fact j hj)
  obtain ⟨oc, od, dV, kV, doc, pm, an, cdv, ct, osl, e, lk, hcd, hD, hKw⟩ := F.ex
  have e0 : dV = .none := by
    rcases hD with ⟨_, q⟩ | ⟨q, _⟩
    · exact q
    · exact (q rfl).elim
  subst e0
  exact ⟨_, fd, g, ⟨oc, od, kV, doc, pm, an, cdv, ct, osl, e, lk, hcd⟩, F.kp⟩
theorem gc_int {K : PySem.W.Frag} {h : Heap} {mg : Str → Option Value} (X : K.In h) (G : h.Ns mainGlobals mg) {fa : List He.Fa} {fn : List He.DefD} (c : He.SaysD fa fn K) {x : Str} {n : Int} (j : Nat) (hj : fa[j]? = some (.int x n)) : Gc K mg x (.int n) := by
  obtain ⟨t, e⟩ := He.int_ok X G (c.fact j hj)
  exact ⟨.int n, _, e, ⟨t, rfl⟩, fun _ _ => .int n⟩
theorem gc_str {K : PySem.W.Frag} {h : Heap} {mg : Str → Option Value} (X : K.In h) (G : h.Ns mainGlobals mg) {fa : List He.Fa} {fn : List He.DefD} (c : He.SaysD fa fn K) {x z : Str} (j : Nat) (hj : fa[j]? = some (.str x z)) : Gc K mg x (.str z) := by
  obtain ⟨t, e⟩ := He.str_ok X G (c.fact j hj)
  exact ⟨.str z, _, e, ⟨t, rfl⟩, fun _ _ => .str z⟩
theorem walk_ofD {l : PySem.W.OpenLaw} {n k : Nat} {q : Program} {loose : List Str} {XP : (Str → Option Value) → Heap → Prop} {YP : World → Heap → Prop} {d : DefRec} {x : Str} {st : Stmt} {sp : DSp}
    (hn : l.most = some n) (hn2 : n ≤ sizeLine) (hdf : d.params.defaults = []) (hr : Room k callerA)
    (F : ∀ (w : World) (mg : Str → Option Value) (h : Heap), YP w h → h.Ns mainGlobals mg →
      ∃ K : PySem.W.Frag, K.In h ∧ ∀ base, Has l.prog w K mg base k d.name st [x] sp)
    (bd : ∀ (kV doc pm : Value) (an : Option Addr) (cdv ct u : Value), bindArgs (PySem.W.fnOf d.name d.name (defArgs st) (defBody st) (defScope st) .none kV doc pm an cdv ct) ⟨[u], []⟩ = pure [(x, u)])
    (hsp : ∀ (ns : List Int) (Q : DK), ns.length ≤ n → (∀ μ, Q (.bl true) μ) → sp [.frz (ns.map D.int)] (fun _ => none) Q) :
    PySem.W.WalkO q loose XP YP l.row.toRowW d [] (fun f vs => PySem.call f vs) := by
  refine Att.attach_call hn hdf fun w s₀ s₁ mg mb fa o pm cd doc a vs ns G Y ho hd hcd hmg hobj hints hlen hg => ?_
  obtain ⟨K, X, hF⟩ := F w mg _ Y G.T.g
  obtain ⟨f0, fd0, m0, Fn0, _⟩ := (hF s₁.heap).ex
  have ef : f0 = fa := by
    rw [hmg] at m0
    cases m0
    rfl
  subst ef
  have all : ∀ base, FnG l.prog w K mg base k f0 fd0 [x] sp := by
    intro base
    obtain ⟨f1, fd1, m1, Fn1, R1⟩ := (hF base).ex
    rw [m0] at m1
    cases m1
    obtain ⟨oc, od, kV, doc, pm, an, cdv, ct, osl, rfl, lk, _⟩ := Fn0.ex
    obtain ⟨oc1, od1, kV1, doc1, pm1, an1, cdv1, ct1, osl1, rfl, lk1, _⟩ := Fn1.ex
    rw [lk] at lk1
    cases lk1
    exact R1
  have b0 : BindsTo s₁ fd0 ⟨[.ref a], []⟩ [(x, .ref a)] := by
    obtain ⟨oc, od, kV, doc, pm, an, cdv, ct, osl, rfl, lk, _⟩ := Fn0.ex
    exact .of_eq (bd kV doc pm an cdv ct (.ref a))
  exact call_law X G.T.g G.T.b G.T.builtins G.T.nolimit hg hobj hints (Nat.le_trans hlen hn2) hr b0 all fun Q hQ => hsp ns Q hlen hQ
end Dl
namespace K10
open PySem PySem.Spec PyProof.Rows L2 Dl
def topS (i : Nat) : Stmt := PySem.Challenge.pw_seatworks_k10_any_value_as_rule_race_dea.main.body.getD i (.Pass ⟨0, 0, 0, 0⟩)
abbrev S_is_integer : Stmt := topS 1
abbrev S_is_tuple : Stmt := topS 4
abbrev S_common : Stmt := topS 9
abbrev S_is_less : Stmt := topS 12
abbrev S_is_at_most : Stmt := topS 13
abbrev S_law_pot : Stmt := topS 37
abbrev S_law_draw : Stmt := topS 38
abbrev S_law_divisor : Stmt := topS 40
abbrev S_law_below : Stmt := topS 46
abbrev S_law_is_whole : Stmt := topS 47
abbrev S_law_edges : Stmt := topS 55
abbrev S_is_within : Stmt := topS 2
abbrev S_is_count : Stmt := topS 3
abbrev S_lowest : Stmt := topS 10
abbrev S_is_fraction_any : Stmt := topS 11
abbrev S_law_pick : Stmt := topS 39
abbrev S_law_lowest : Stmt := topS 41
abbrev S_law_is_fraction : Stmt := topS 48
abbrev S_law_is_votes : Stmt := topS 50
abbrev S_law_is_deal : Stmt := topS 52
abbrev S_is_small : Stmt := topS 18
abbrev S_signpost : Stmt := topS 20
abbrev S_is_row_of_votes : Stmt := topS 26
abbrev S_is_deal_of : Stmt := topS 29
abbrev S_law_rule : Stmt := topS 42
abbrev S_law_post : Stmt := topS 43
abbrev S_law_votes : Stmt := topS 44
abbrev S_law_bent : Stmt := topS 53
abbrev S_is_rule_any : Stmt := topS 19
abbrev S_is_votes : Stmt := topS 32
abbrev S_law_is_rule : Stmt := topS 49
abbrev S_is_race_any : Stmt := topS 27
abbrev S_is_rule : Stmt := topS 31
abbrev S_law_is_race : Stmt := topS 51
abbrev S_want_race : Stmt := topS 28
abbrev S_is_race : Stmt := topS 34
abbrev S_is_deal : Stmt := topS 35
abbrev S_law_asked : Stmt := topS 54
abbrev S_law_right : Stmt := topS 56
abbrev S_law : Stmt := topS 57
def defsL0 : List (Str × Stmt) := [("is_integer", S_is_integer), ("is_tuple", S_is_tuple), ("common", S_common), ("is_less", S_is_less), ("is_at_most", S_is_at_most), ("_law_pot", S_law_pot), ("_law_draw", S_law_draw), ("_law_divisor", S_law_divisor), ("_law_below", S_law_below), ("_law_is_whole", S_law_is_whole), ("_law_edges", S_law_edges), ("is_within", S_is_within), ("is_count", S_is_count), ("lowest", S_lowest), ("is_fraction_any", S_is_fraction_any), ("_law_pick", S_law_pick), ("_law_lowest", S_law_lowest), ("_law_is_fraction", S_law_is_fraction), ("_law_is_votes", S_law_is_votes), ("_law_is_deal", S_law_is_deal), ("is_small", S_is_small), ("signpost", S_signpost), ("is_row_of_votes", S_is_row_of_votes), ("is_deal_of", S_is_deal_of), ("_law_rule", S_law_rule), ("_law_post", S_law_post), ("_law_votes", S_law_votes), ("_law_bent", S_law_bent), ("is_rule_any", S_is_rule_any), ("is_votes", S_is_votes)]
def defsL1 : List (Str × Stmt) := [("_law_is_rule", S_law_is_rule), ("is_race_any", S_is_race_any), ("is_rule", S_is_rule), ("_law_is_race", S_law_is_race), ("want_race", S_want_race), ("is_race", S_is_race), ("is_deal", S_is_deal), ("_law_asked", S_law_asked), ("_law_right", S_law_right), ("law", S_law)]
def defsL : List (Str × Stmt) := defsL0 ++ defsL1
def fa0 : List He.Fa := [.glo "is_integer", .glo "is_tuple", .glo "common", .glo "is_less", .glo "is_at_most", .glo "_law_pot", .glo "_law_draw", .glo "_law_divisor", .glo "_law_below", .glo "_law_is_whole", .glo "_law_edges", .glo "is_within", .glo "is_count", .glo "lowest", .glo "is_fraction_any", .glo "_law_pick", .glo "_law_lowest", .glo "_law_is_fraction", .glo "_law_is_votes", .glo "_law_is_deal", .glo "is_small", .glo "signpost", .glo "is_row_of_votes", .glo "is_deal_of", .glo "_law_rule", .glo "_law_post", .glo "_law_votes", .glo "_law_bent", .glo "is_rule_any", .glo "is_votes"]
def fa1 : List He.Fa := [.glo "_law_is_rule", .glo "is_race_any", .glo "is_rule", .glo "_law_is_race", .glo "want_race", .glo "is_race", .glo "is_deal", .glo "_law_asked", .glo "_law_right", .glo "law", .free "abs", .free "all", .free "bool", .free "divmod", .free "enumerate", .free "int", .free "isinstance", .free "len", .free "list", .free "max", .free "min", .free "range", .free "repr", .free "str", .free "sum", .free "tuple", .free "zip", .int "MOST_BOTTOM" 999, .int "MOST_FIRSTS" 4, .int "MOST_HOUSE" 200]
def fa2 : List He.Fa := [.int "MOST_LISTS" 12, .int "MOST_VOTES" 1000000000, .str "RACE" "race", .str "RULE" "rule"]
def fa : List He.Fa := fa0 ++ fa1 ++ fa2
def names0 : List PySem.Str := ["is_integer", "is_within", "is_count", "is_tuple", "WorkError", "InvalidRace", "common", "lowest", "is_fraction_any", "is_less", "is_at_most", "RULE", "MOST_FIRSTS", "MOST_BOTTOM", "is_small", "is_rule_any", "signpost", "RACE", "MOST_LISTS", "MOST_VOTES", "MOST_HOUSE", "is_row_of_votes", "is_race_any", "want_race", "is_deal_of", "is_rule", "is_votes", "is_race", "is_deal", "_law_pot"]
def names1 : List PySem.Str := ["_law_draw", "_law_pick", "_law_divisor", "_law_lowest", "_law_rule", "_law_post", "_law_votes", "_law_price", "_law_below", "_law_is_whole", "_law_is_fraction", "_law_is_rule", "_law_is_votes", "_law_is_race", "_law_is_deal", "_law_bent", "_law_asked", "_law_edges", "_law_right"]
def names : List PySem.Str := names0 ++ names1
def fn : List He.DefD := defsL.map mkD
abbrev topR : PySem.W.OpenRow := PySem.W.OpenLaw.row PySem.Challenge.rw_seatworks_k10_any_value_as_rule_race_dea
abbrev topK : PySem.W.Hook := He.hookD 4 fa fn
def topB (s : PySem.W.SharedT) : He.AlD := He.obsDG 4 fa fn (HandSHeadRun.getT s)
theorem topB_eq (s : PySem.W.SharedT) : topB s = topK.obs s.abs := He.obsDG_eq (HandSHeadRun.getT_eq s)
theorem topRun (w : World) : HandSHeadRun.RunEq topR (PySem.W.view topR.prog [57]) topK topB 6000 names w := by
  intro os
  kernel_rfl
end K10
/-! Tm: tuple * int for any number (HandS.TupMul holds it from 2 on). -/
namespace L2
open PySem PySem.Spec PyProof.Rows
theorem tuple_mul1 (l : Addr) (items : Array Value) (n : Nat) (dd : Option Addr) (sl : Array (Option Value)) (x : Int) (u : Tok) (c0 : (decide (x < -(2 ^ 63)) || decide (x ≥ 2 ^ 63)) = false) (c1 : (items.isEmpty || x == 1) = true) :
    Meets (Builtin.«tuple.__mul__» ⟨[.ref l, .int x u], []⟩) (fun _ R s => s.heap.get? l = some { cls := .type "tuple", dict := dd, data := .seq items n, slots := sl } ∧
      R (.ok (.ret (Value.ref l))) { s with heap := s.heap, toks := s.toks }) :=
  .of_wp fun prog w A R s h => by
    obtain ⟨hp, g, d, tk, os⟩ := s
    obtain ⟨hl, h⟩ := h
    have f1 := AutoSeq1.idx_int
    wp_walk using wpAny_loadPart' hl
    repeat (first
      | (refine wpAny_ite_false (decide_eq_false (by rw [c0]; exact Bool.false_ne_true)) ?_; wp_walk using wpAny_loadPart' hl)
      | (refine wpAny_ite_true (decide_eq_true c1) ?_; wp_walk using wpAny_loadPart' hl))
    exact ⟨_, rfl, h⟩
theorem tuple_mul0 (l : Addr) (items : Array Value) (n : Nat) (dd : Option Addr) (sl : Array (Option Value)) (x : Int) (u : Tok) (c0 : (decide (x < -(2 ^ 63)) || decide (x ≥ 2 ^ 63)) = false) (c1 : (items.isEmpty || x == 1) = false) (c2 : (decide (x ≤ 0) || items.isEmpty) = true) :
    Meets (Builtin.«tuple.__mul__» ⟨[.ref l, .int x u], []⟩) (fun _ R s => s.heap.get? l = some { cls := .type "tuple", dict := dd, data := .seq items n, slots := sl } ∧
      R (.ok (.ret (Value.ref s.heap.objs.size))) { s with heap := s.heap.push { cls := Value.type "tuple", data := Data.seq #[] }, toks := s.toks }) :=
  .of_wp fun prog w A R s h => by
    obtain ⟨hp, g, d, tk, os⟩ := s
    obtain ⟨hl, h⟩ := h
    have f1 := AutoSeq1.idx_int
    wp_walk using wpAny_loadPart' hl
    repeat (first
      | (refine wpAny_ite_false (decide_eq_false (by rw [c0]; exact Bool.false_ne_true)) ?_; wp_walk using wpAny_loadPart' hl)
      | (refine wpAny_ite_false (decide_eq_false (by rw [c1]; exact Bool.false_ne_true)) ?_; wp_walk using wpAny_loadPart' hl)
      | (refine wpAny_ite_true (decide_eq_true c2) ?_; wp_walk using wpAny_loadPart' hl))
    exact ⟨_, rfl, h⟩
/-- t * k -/
def rRepA (K : PySem.W.Frag) : R2 := fun x y H Q => ∃ l k xs, x = .ref l ∧ y = .int k ∧ SqT K H l xs ∧ -(2 ^ 63) ≤ k ∧ k ≤ 1000 ∧ xs.length ≤ 1000 ∧ ((xs = [] ∨ k = 1) → Q (.ref l) H) ∧ (xs ≠ [] → k ≠ 1 → ∀ p, H p = none → Q (.ref p) (upd H p (.tup (List.replicate k.toNat xs).flatten)))
section
variable {X : Cx}
theorem op_repA : OpR X (binaryOp .Mult) (rRepA X.K) := by
  intro pins s σ H x y v u Q I rx ry h
  obtain ⟨l, k, xs, rfl, rfl, hT, h0, h2, hz, q1, q2⟩ := h
  by_cases big : xs ≠ [] ∧ 2 ≤ k
  · exact op_repT pins s σ H _ _ v u Q I rx ry ⟨l, k, xs, rfl, rfl, hT, big.1, big.2, h2, hz, q2 big.1 (by omega)⟩
  cases rx
  obtain ⟨t, rfl⟩ := ry
  obtain ⟨its, r, ⟨⟨cls, dd, data, sl⟩, ho, hc, n, hd⟩, hs⟩ := I.tuple hT
  simp only at hc hd
  subst hc hd
  have hle : its.length = xs.length := r.length.symm
  have c0 : (decide (k < -(2 ^ 63)) || decide (k ≥ 2 ^ 63)) = false := by
    rw [decide_eq_false (by omega), decide_eq_false (by omega)] <;> rfl
  by_cases one : xs = [] ∨ k = 1
  · have c1 : (its.toArray.isEmpty || k == 1) = true := by
      rcases one with e | e
      · subst e
        have : its = [] := List.eq_nil_of_length_eq_zero hle
        subst this
        rfl
      · subst e
        simp
    refine wpAny_binaryOp_repeat_ref (T := "tuple") (U := "int") (by decide) ⟨_, ho, rfl⟩ (fun s' => typeIs_int s' k t) noFill_tuple_mul F.fills_int_mul F.slot_int_rmul repeat_tuple F.slot_int_index.lookup
      (call_meets F.slot_int_rmul (typeIs_int s k t) F.entry_int_rmul (F.args_int_rmul_2 _ _) (int_rmul_tuple k t l its.toArray n dd sl)
        ⟨ho, rfl, ⟨_, ho, rfl⟩, call_meets F.slot_tuple_mul ⟨_, ho, rfl⟩ F.entry_tuple_mul (F.args_tuple_mul_2 _ _) (tuple_mul1 l its.toArray n dd sl k t c0 c1) ⟨ho, ?_⟩⟩)
    exact ⟨.ref l, H, I, rfl, q1 one⟩
  · have hn : its.toArray.isEmpty = false := by
      cases its with
      | nil =>
        exact absurd (.inl (List.eq_nil_of_length_eq_zero hle.symm)) one
      | cons a b => rfl
    have k1 : k ≠ 1 := fun e => one (.inr e)
    have ne : xs ≠ [] := fun e => one (.inl e)
    have k0 : k ≤ 0 := by
      have : ¬ 2 ≤ k := fun e => big ⟨ne, e⟩
      omega
    have c1 : (its.toArray.isEmpty || k == 1) = false := by
      rw [hn, Bool.false_or]
      exact beq_eq_false_iff_ne.mpr k1
    have c2 : (decide (k ≤ 0) || its.toArray.isEmpty) = true := by
      rw [decide_eq_true k0, Bool.true_or]
    refine wpAny_binaryOp_repeat_ref (T := "tuple") (U := "int") (by decide) ⟨_, ho, rfl⟩ (fun s' => typeIs_int s' k t) noFill_tuple_mul F.fills_int_mul F.slot_int_rmul repeat_tuple F.slot_int_index.lookup
      (call_meets F.slot_int_rmul (typeIs_int s k t) F.entry_int_rmul (F.args_int_rmul_2 _ _) (int_rmul_tuple k t l its.toArray n dd sl)
        ⟨ho, rfl, ⟨_, ho, rfl⟩, call_meets F.slot_tuple_mul ⟨_, ho, rfl⟩ F.entry_tuple_mul (F.args_tuple_mul_2 _ _) (tuple_mul0 l its.toArray n dd sl k t c0 c1 c2) ⟨ho, ?_⟩⟩)
    have e0 : (List.replicate k.toNat xs).flatten = [] := by
      rw [show k.toNat = 0 by omega]
      rfl
    have q3 := q2 ne k1 _ (I.hok.fresh (Nat.le_refl _))
    rw [e0] at q3
    refine ⟨.ref s.heap.objs.size, _, I.laid (t' := s.toks) (o := .tup []) (fun b ob q => Heap.get?_push_of_some _ q) (Nat.le_refl _) ?_, rfl, q3⟩
    exact ⟨by rw [sizeLine_eq]; decide, [], .nil, IsTup.new _ _⟩
end
end L2
namespace Dl
open PySem PySem.Spec PyProof.Rows L2
variable {K : PySem.W.Frag} {α α1 : List Addr} {H H1 : Hp} {X : Cx}
/-- * of ints, of a list and an int, of a tuple and an int -/
def oTimes2 : D → D → Mu → DK → Prop := fun x y μ Q => match x, y with
  | .tup xs, .int n => (-(2 ^ 63) ≤ n ∧ n ≤ 1000 ∧ xs.length ≤ 1000) ∧ Q (.tup (List.replicate n.toNat xs).flatten) μ
  | x, y => oTimes x y μ Q
theorem rep_rel {vs : List V} {ds : List D} (r : RlAll K α H vs ds) : ∀ n : Nat, RlAll K α H (List.replicate n vs).flatten (List.replicate n ds).flatten
  | 0 => .nil
  | n + 1 => by
    rw [List.replicate_succ, List.replicate_succ]
    exact r.append (rep_rel r n)
theorem o_times2 : OpD X (binaryOp .Mult) oTimes2 := by
  obtain ⟨r1, a1, a2⟩ := (o_times (X := X)).ex
  refine ⟨_, OpR.or op_repA a1, fun α H μ x y dx dy Qd Q S rx ry h post => ?_⟩
  unfold oTimes2 at h
  split at h
  · rename_i xs n
    cases rx with
    | tup q r =>
      cases ry
      obtain ⟨⟨h0, h1, h2⟩, h3⟩ := h
      refine .inl ⟨_, _, _, rfl, rfl, q, h0, h1, by rw [r.length]; exact h2, fun e => ?_, fun e e' p hp => ?_⟩
      · have : (List.replicate n.toNat xs).flatten = xs := by
          rcases e with e | e
          · have lx := r.length
            rw [e] at lx
            have : xs = [] := List.eq_nil_of_length_eq_zero lx.symm
            subst this
            generalize n.toNat = m
            induction m with
            | zero => rfl
            | succ m ih => rw [List.replicate_succ, List.flatten_cons, ih]; rfl
          · subst e
            rw [show (1 : Int).toNat = 1 from rfl]
            simp
        rw [this] at h3
        exact post.here S (.tup q r) h3
      · exact post.tup S (rep_rel r n.toNat) h3 hp
  · exact .inr (a2 α H μ x y _ _ Qd Q S rx ry h post)
end Dl
/-! Lz: list(zip(a, b)), list(enumerate(a)), over lists or tuples: the tuples given out are held. -/
namespace PySem
open Sem (wp)
section
variable {prog : Program} {w : World} {A : Around} {E : Value → Shared → Prop} {s : Shared} {z TI TO T i1 i2 : Addr} {f : Bool} {oT : Obj} {fp1 fp2 : List Addr} {n1 n2 i : Nat} {P1 P2 : Nat → Value → Prop} {St1 St2 : Nat → Heap → Prop}
theorem lz_next {Q : Value → Shared → Prop} (S : ZipSep2 z TI TO i1 i2 fp1 fp2) (D1 : Draws prog w A i1 fp1 n1 P1 St1) (D2 : Draws prog w A i2 fp2 n2 P2 St2)
    (hz : IsZipHeld s.heap z TI TO T f) (hT : s.heap.get? T = some oT) (hTI : IsTupOf2 s.heap TI (.ref i1) (.ref i2)) (st1 : St1 i s.heap) (st2 : St2 i s.heap) (hlt1 : i < n1) (hlt2 : i < n2)
    (hQ : ∀ x1 x2 h' tk, P1 i x1 → P2 i x2 → IsZipHeld h' z TI TO T true → St1 (i + 1) h' → St2 (i + 1) h' → IsTupOf2 h' s.heap.objs.size x1 x2 → h'.objs.size = s.heap.objs.size + 1 →
      (∀ c o, c ≠ z → c ≠ i1 → c ≠ i2 → s.heap.get? c = some o → h'.get? c = some o) → Q (.ref s.heap.objs.size) { s with heap := h', toks := tk }) :
    wpAny (model prog w) A (Builtin.«zip.__next__» ⟨[.ref z], []⟩) (fun fin s' => ∃ v, fin = .done (.ret v) ∧ Q v s') E s := by
  obtain ⟨hp, g, d, tk0, os⟩ := s
  show wpAny _ _ (field (.ref z) 2 >>= _) _ _ _
  refine wpAny_bind (wpAny_field hz rfl (x := .bool false) rfl ?_)
  show wpAny _ _ (field (.ref z) 3 >>= _) _ _ _
  refine wpAny_bind (wpAny_field hz rfl (x := .ref TI) rfl ?_)
  refine wpAny_bind (wpAny_seqItems hTI rfl ?_)
  show wpAny _ _ (Builtin.SmallTypes.ownedTupleIsFree (.ref z) >>= _) _ _ _
  refine wpAny_bind (wpAny_tupleHeld_zip hz hT fun g0 hz0 hs0 => ?_)
  replace hs0 : Heap.SameBut z hp g0 := hs0
  simp only [Bool.false_eq_true, if_false]
  refine wpAny_bind ?_
  rw [← Array.forIn_toList]
  simp only [List.forIn_cons, List.forIn_nil]
  refine wpAny_bind (wpAny_bind (wpAny_holding ?_))
  show wpAny _ _ (Builtin.SmallTypes.nextOf (.ref i1) >>= _) _ _ ⟨g0, g, d, tk0, os⟩
  refine wpAny_bind (D1.item i _ _ _ hlt1 (D1.over st1 hs0 S.zf1) fun x1 p1 tk1 hx1 sn1 hp1 => wpAny_pure ?_)
  replace hp1 : Heap.SameBut i1 g0 p1 := hp1
  refine wpAny_pure ?_
  refine wpAny_bind (wpAny_bind (wpAny_holding ?_))
  show wpAny _ _ (Builtin.SmallTypes.nextOf (.ref i2) >>= _) _ _ ⟨p1, g, d, tk1, os⟩
  refine wpAny_bind (D2.item i _ _ _ hlt2 (D2.over (D2.over st2 hs0 S.zf2) hp1 S.sep1_2) fun x2 p2 tk2 hx2 sn2 hp2 => wpAny_pure ?_)
  replace hp2 : Heap.SameBut i2 p1 p2 := hp2
  refine wpAny_pure (wpAny_pure ?_)
  show wpAny _ _ (newTuple [x1, x2] >>= _) _ _ _
  refine wpAny_bind (wpAny_newTuple ?_)
  have hsz : p2.objs.size = hp.objs.size := by rw [hp2.1, hp1.1, hs0.1]
  have hz2 : IsZipHeld p2 z TI TO T true := hp2.extBut _ _ S.zi2 (hp1.extBut _ _ S.zi1 hz0)
  have hk : ∀ c o, c ≠ z → c ≠ i1 → c ≠ i2 → hp.get? c = some o → p2.get? c = some o := fun c o c1 c2 c3 e => hp2.extBut _ _ c3 (hp1.extBut _ _ c2 (hs0.extBut _ _ c1 e))
  have up : ∀ (b : Addr) (o : Obj), p2.get? b = some o → (p2.push { cls := .type "tuple", data := .seq #[x1, x2] }).get? b = some o := fun b o e => Heap.get?_push_of_some _ e
  have sn1' := D1.over sn1 hp2 S.sep2_1
  have sn2' := sn2
  refine wpAny_pure ⟨_, rfl, ?_⟩
  show Q (.ref p2.objs.size) _
  have hpair : IsTupOf2 (p2.push { cls := .type "tuple", data := .seq #[x1, x2] }) p2.objs.size x1 x2 := Heap.get?_push_size _ rfl
  have hz4 : (p2.push { cls := .type "tuple", data := .seq #[x1, x2] }).objs.size = p2.objs.size + 1 := Heap.size_push ..
  rw [hsz] at hpair hz4 ⊢
  exact hQ x1 x2 _ tk2 hx1 hx2 (up _ _ hz2) (D1.frame _ _ _ sn1' fun b _ o e => up b o e) (D2.frame _ _ _ sn2' fun b _ o e => up b o e) hpair hz4 fun c o c1 c2 c3 e => up c o (hk c o c1 c2 c3 e)
theorem lz_end {Q : Fin → Shared → Prop} (S : ZipSep2 z TI TO i1 i2 fp1 fp2) (D1 : Draws prog w A i1 fp1 n1 P1 St1) (D2 : Draws prog w A i2 fp2 n2 P2 St2)
    (hz : IsZipHeld s.heap z TI TO T f) (hT : s.heap.get? T = some oT) (hTI : IsTupOf2 s.heap TI (.ref i1) (.ref i2)) (st1 : St1 i s.heap) (st2 : St2 i s.heap) (hle1 : i ≤ n1) (hle2 : i ≤ n2) (hend : i = n1 ∨ i = n2)
    (hE : ∀ h' tk e, (∀ c o, c ≠ z → c ≠ i1 → c ≠ i2 → s.heap.get? c = some o → h'.get? c = some o) → (∃ o, h'.get? e = some o ∧ o.cls = .type "StopIteration") → E (.ref e) { s with heap := h', toks := tk }) :
    wpAny (model prog w) A (Builtin.«zip.__next__» ⟨[.ref z], []⟩) Q E s := by
  obtain ⟨hp, g, d, tk0, os⟩ := s
  show wpAny _ _ (field (.ref z) 2 >>= _) _ _ _
  refine wpAny_bind (wpAny_field hz rfl (x := .bool false) rfl ?_)
  show wpAny _ _ (field (.ref z) 3 >>= _) _ _ _
  refine wpAny_bind (wpAny_field hz rfl (x := .ref TI) rfl ?_)
  refine wpAny_bind (wpAny_seqItems hTI rfl ?_)
  show wpAny _ _ (Builtin.SmallTypes.ownedTupleIsFree (.ref z) >>= _) _ _ _
  refine wpAny_bind (wpAny_tupleHeld_zip hz hT fun g0 hz0 hs0 => ?_)
  replace hs0 : Heap.SameBut z hp g0 := hs0
  simp only [Bool.false_eq_true, if_false]
  refine wpAny_bind ?_
  rw [← Array.forIn_toList]
  simp only [List.forIn_cons, List.forIn_nil]
  refine wpAny_bind (wpAny_bind (wpAny_holding ?_))
  show wpAny _ _ (Builtin.SmallTypes.nextOf (.ref i1) >>= _) _ _ ⟨g0, g, d, tk0, os⟩
  by_cases hlt1 : i < n1
  · refine wpAny_bind (D1.item i _ _ _ hlt1 (D1.over st1 hs0 S.zf1) fun x1 p1 tk1 hx1 sn1 hp1 => wpAny_pure ?_)
    replace hp1 : Heap.SameBut i1 g0 p1 := hp1
    refine wpAny_pure ?_
    have hi2 : i = n2 := by omega
    refine wpAny_bind (wpAny_bind (wpAny_holding ?_))
    show wpAny _ _ (Builtin.SmallTypes.nextOf (.ref i2) >>= _) _ _ ⟨p1, g, d, tk1, os⟩
    refine wpAny_bind (D2.done ⟨p1, g, d, tk1, os⟩ _ _ (by rw [← hi2]; exact D2.over (D2.over st2 hs0 S.zf2) hp1 S.sep1_2) fun q e hq he => ?_)
    replace hq : Heap.ExtBut i2 p1 q := hq
    exact hE q tk1 e (fun c o c1 c2 c3 x => hq _ _ c3 (hp1.extBut _ _ c2 (hs0.extBut _ _ c1 x))) he
  · have hi1 : i = n1 := by omega
    refine wpAny_bind (D1.done ⟨g0, g, d, tk0, os⟩ _ _ (by rw [← hi1]; exact D1.over st1 hs0 S.zf1) fun q e hq he => ?_)
    replace hq : Heap.ExtBut i1 g0 q := hq
    exact hE q tk0 e (fun c o c1 c2 c3 x => hq _ _ c2 (hs0.extBut _ _ c1 x)) he
theorem lz_pyNext {Q : Option Value → Shared → Prop} (S : ZipSep2 z TI TO i1 i2 fp1 fp2) (D1 : Draws prog w A.in1 i1 fp1 n1 P1 St1) (D2 : Draws prog w A.in1 i2 fp2 n2 P2 St2)
    (hz : IsZipHeld s.heap z TI TO T f) (hT : s.heap.get? T = some oT) (hTI : IsTupOf2 s.heap TI (.ref i1) (.ref i2)) (st1 : St1 i s.heap) (st2 : St2 i s.heap) (hlt1 : i < n1) (hlt2 : i < n2)
    (hQ : ∀ x1 x2 h' tk, P1 i x1 → P2 i x2 → IsZipHeld h' z TI TO T true → St1 (i + 1) h' → St2 (i + 1) h' → IsTupOf2 h' s.heap.objs.size x1 x2 → h'.objs.size = s.heap.objs.size + 1 →
      (∀ c o, c ≠ z → c ≠ i1 → c ≠ i2 → s.heap.get? c = some o → h'.get? c = some o) → Q (some (.ref s.heap.objs.size)) { s with heap := h', toks := tk }) :
    wpAny (model prog w) A (pyNext (.ref z)) Q E s := by
  have hTy : s.TypeIs (.ref z) "zip" := ⟨_, hz, rfl⟩
  unfold pyNext
  exact wpAny_bind (wpAny_attempt (wpAny_callSpecial?_slot (name := Str.ofString "__next__") hTy F.slot_zip_next
    (wpAny_call_entry F.slot_zip_next hTy F.entry_zip_next
      (lz_next S D1 D2 hz hT hTI st1 st2 hlt1 hlt2 fun x1 x2 h' tk a0 a00 a1 a3 a4 a5 a6 a7 => wpAny_pure (hQ x1 x2 h' tk a0 a00 a1 a3 a4 a5 a6 a7)) (F.args_zip_next_1 _))))
theorem lz_pyEnd {Q : Option Value → Shared → Prop} (S : ZipSep2 z TI TO i1 i2 fp1 fp2) (D1 : Draws prog w A.in1 i1 fp1 n1 P1 St1) (D2 : Draws prog w A.in1 i2 fp2 n2 P2 St2)
    (hz : IsZipHeld s.heap z TI TO T f) (hT : s.heap.get? T = some oT) (hTI : IsTupOf2 s.heap TI (.ref i1) (.ref i2)) (st1 : St1 i s.heap) (st2 : St2 i s.heap) (hle1 : i ≤ n1) (hle2 : i ≤ n2) (hend : i = n1 ∨ i = n2)
    (hQ : ∀ h' tk, (∀ c o, c ≠ z → c ≠ i1 → c ≠ i2 → s.heap.get? c = some o → h'.get? c = some o) → Q none { s with heap := h', toks := tk }) : wpAny (model prog w) A (pyNext (.ref z)) Q E s := by
  have hTy : s.TypeIs (.ref z) "zip" := ⟨_, hz, rfl⟩
  unfold pyNext
  refine wpAny_bind (wpAny_attempt (wpAny_callSpecial?_slot (name := Str.ofString "__next__") hTy F.slot_zip_next
    (wpAny_call_entry F.slot_zip_next hTy F.entry_zip_next (lz_end S D1 D2 hz hT hTI st1 st2 hle1 hle2 hend fun h' tk e hk he => ?_) (F.args_zip_next_1 _))))
  obtain ⟨o, ho, hc⟩ := he
  refine wpAny_bind (wpAny_isInstance (T := "StopIteration") (b := true) ⟨o, ho, hc⟩ isSubtype_stop ?_)
  exact wpAny_pure (hQ _ _ hk)
end
end PySem
namespace PySem.W
open PySem PySem.Calls PyProof.Rows PyProof.V PySem.Spec
/-- an iterator whose n items are new pairs, while the list at S is filled -/
structure TupSrc (prog : Program) (w : World) (A : Around) (I S : Addr) (wr : List Addr) (n : Nat) (P1 P2 : Nat → Value → Prop) (St : Nat → Heap → Prop) : Prop where
  frame : ∀ i h h', St i h → (∀ b o, b ≠ S → h.get? b = some o → h'.get? b = some o) → St i h'
  item : ∀ i (s : Shared) (Q : Option Value → Shared → Prop) (E : Value → Shared → Prop), i < n → St i s.heap → S < s.heap.objs.size →
    (∀ k v h' tk, P1 i k → P2 i v → h'.get? s.heap.objs.size = some { cls := .type "tuple", data := .seq #[k, v] } → St (i + 1) h' → (∀ b o, b ∉ wr → s.heap.get? b = some o → h'.get? b = some o) → Q (some (.ref s.heap.objs.size)) { s with heap := h', toks := tk }) → wpAny (model prog w) A (pyNext (.ref I)) Q E s
  done : ∀ (s : Shared) (Q : Option Value → Shared → Prop) (E : Value → Shared → Prop), St n s.heap →
    (∀ h' tk, (∀ b o, b ∉ wr → s.heap.get? b = some o → h'.get? b = some o) → Q none { s with heap := h', toks := tk }) → wpAny (model prog w) A (pyNext (.ref I)) Q E s
structure LzG (P1 P2 : Nat → Value → Prop) (lo : Addr) (h : Heap) (as : List Addr) : Prop where
  rise : as.Pairwise (· < ·)
  above : ∀ a ∈ as, lo ≤ a
  pairs : ∀ (j : Nat) (a : Addr), as[j]? = some a → ∃ k v, P1 j k ∧ P2 j v ∧ h.get? a = some { cls := .type "tuple", data := .seq #[k, v] }
theorem LzG.there {P1 P2 : Nat → Value → Prop} {lo : Addr} {h : Heap} {as : List Addr} (g : LzG P1 P2 lo h as) {a : Addr} (ha : a ∈ as) : a < h.objs.size := by
  obtain ⟨j, hj⟩ := List.mem_iff_getElem?.mp ha
  obtain ⟨_, _, _, _, e⟩ := g.pairs j a hj
  exact Heap.lt_size e
section
variable {prog : Program} {w : World} {A : Around} {s : Shared} {R : Result → Shared → Prop} {S I lo : Addr} {wr : List Addr} {n : Nat} {P1 P2 : Nat → Value → Prop} {St : Nat → Heap → Prop}
theorem lz_loop (T : TupSrc prog w A.in1 I S wr n P1 P2 St) (hn : n ≤ sizeLine) (off : S ∉ wr) (hwr : ∀ b ∈ wr, b < lo) (hSl : S < lo) (res : Value) {h₁ : Heap}
    (hR : ∀ h' tk acc c as, (∀ b o, b ≠ S → b ∉ wr → h₁.get? b = some o → h'.get? b = some o) → h'.get? S = some { cls := .type "list", dict := none, data := .seq acc c, slots := #[] } → as.length = n → LzG P1 P2 lo h' as →
      acc.toList = as.map Value.ref → R (.ok (.ret res)) { s with heap := h', toks := tk }) :
    ∀ (k i : Nat) (h : Heap) (tk : Tok) (c : Nat) (acc : Array Value) (as : List Addr), n - i = k → i ≤ n → St i h → (∀ b o, b ≠ S → b ∉ wr → h₁.get? b = some o → h.get? b = some o) →
      h.get? S = some { cls := .type "list", dict := none, data := .seq acc c, slots := #[] } → acc.toList = as.map Value.ref → as.length = i → LzG P1 P2 lo h as → lo ≤ h.objs.size →
      codeAny (model prog w) A (.builtin "list.extend.loop" ⟨[.ref S, .ref I, res], []⟩) R { s with heap := h, toks := tk } := by
  intro k
  induction k with
  | zero =>
    intro i h tk c acc as hk hi hst hkeep hS hacc hal hG hIs
    have hin : i = n := by omega
    subst hin
    refine codeAny_builtin PySem.F.entry_extend_loop ?_
    rw [Around.under_plainId PySem.F.plain_extend_loop _]
    show wpAny _ A.in1 (pyNext (.ref I) >>= _) _ _ _
    refine wpAny_bind (T.done { s with heap := h, toks := tk } _ _ hst fun h' tk' he => ?_)
    refine wpAny_pure (hR h' tk' acc c as (fun b o h1 h2 e => he b o h2 (hkeep b o h1 h2 e)) (he S _ off hS) hal ⟨hG.rise, hG.above, fun j a hj => ?_⟩ hacc)
    obtain ⟨k, v, a1, a2, e3⟩ := hG.pairs j a hj
    have ha := hG.above a (List.mem_of_getElem? hj)
    exact ⟨k, v, a1, a2, he a _ (fun q => absurd (hwr a q) (Nat.not_lt.mpr ha)) e3⟩
  | succ k ih =>
    intro i h tk c acc as hk hi hst hkeep hS hacc hal hG hIs
    have hlt : i < n := by omega
    have hsz : acc.size = i := by rw [← Array.length_toList, hacc, List.length_map, hal]
    refine codeAny_builtin PySem.F.entry_extend_loop ?_
    rw [Around.under_plainId PySem.F.plain_extend_loop _]
    show wpAny _ A.in1 (pyNext (.ref I) >>= _) _ _ _
    refine wpAny_bind (T.item i { s with heap := h, toks := tk } _ _ hlt hst (Heap.lt_size hS) fun kx vx h' tk' hk1 hk2 ht hst' hkp => ?_)
    dsimp only at ht hkp ⊢
    have hS' := hkp S _ off hS
    have up : ∀ b o, b ≠ S → h'.get? b = some o → (h'.update S (Obj.mapSeq (·.push (Value.ref h.objs.size)))).get? b = some o := fun b o hb e => (Heap.get?_update_other _ _ (Ne.symm hb)).trans e
    have hSl' : S < h.objs.size := Heap.lt_size hS
    show wpAny _ A.in1 (updateSeq S (·.push (Value.ref h.objs.size)) >>= _) _ _ _
    refine wpAny_bind ?_
    refine wpAny_updateSeq hS' rfl (wpAny_pure ⟨plainId_quiet PySem.F.plain_extend_loop _, ih (i + 1) _ tk' _ (acc.push (Value.ref h.objs.size)) (as ++ [h.objs.size]) (by omega) hlt (T.frame _ _ _ hst' up)
      (fun b o h1 h2 e => up b o h1 (hkp b o h2 (hkeep b o h1 h2 e))) (Heap.get?_update_self _ hS' rfl) (by rw [Array.toList_push, hacc, List.map_append]; rfl) (by rw [List.length_append, hal]; rfl) ⟨?_, ?_, ?_⟩ ?_⟩) (by rw [hsz]; omega) (by show (acc.push (Value.ref h.objs.size)).size ≤ sizeLine + 1; rw [Array.size_push, hsz]; omega)
    · refine List.pairwise_append.mpr ⟨hG.rise, List.pairwise_singleton _ _, fun a ha b hb => ?_⟩
      rw [List.mem_singleton.mp hb]
      exact hG.there ha
    · intro a ha
      rcases List.mem_append.mp ha with ha | ha
      · exact hG.above a ha
      · rw [List.mem_singleton.mp ha]; exact hIs
    · intro j b hj
      rcases Nat.lt_trichotomy j as.length with h1 | h1 | h1
      · rw [List.getElem?_append_left h1] at hj
        obtain ⟨k0, v0, a1, a2, e3⟩ := hG.pairs j b hj
        have hb := hG.above b (List.mem_of_getElem? hj)
        exact ⟨k0, v0, a1, a2, up b _ (Nat.ne_of_gt (Nat.lt_of_lt_of_le hSl hb)) (hkp b _ (fun q => absurd (hwr b q) (Nat.not_lt.mpr hb)) e3)⟩
      · subst h1
        have hb : h.objs.size = b := by simpa using hj
        subst hb
        subst hal
        exact ⟨kx, vx, hk1, hk2, up _ _ (Nat.ne_of_gt hSl') ht⟩
      · have hnone : (as ++ [h.objs.size])[j]? = none := List.getElem?_eq_none (by rw [List.length_append, List.length_singleton]; omega)
        rw [hnone] at hj; cases hj
    · have e : (h'.update S (Obj.mapSeq (·.push (Value.ref h.objs.size)))).get? h.objs.size = _ := up _ _ (Nat.ne_of_gt hSl') ht
      exact Nat.le_trans hIs (Nat.le_of_lt (Heap.lt_size e))
/-- list(x), x such an iterator: it is its own iterator and gives no hint of its length -/
theorem lz_call {Ty : String} {E : Value → Shared → Prop} {Q : Value → Shared → Prop} (hl : typeLookup (.type Ty) "__len__" = pure none) (hn0 : typeLookup (.type Ty) "__length_hint__" = pure none)
    (g2 : (Value.type Ty == Value.type "list") = false) (g3 : (Value.type Ty == Value.type "tuple") = false)
    (T : TupSrc prog w A.in1.in1 I s.heap.objs.size wr n P1 P2 St) (hn : n ≤ sizeLine) (hwr : ∀ b ∈ wr, b < s.heap.objs.size)
    (hT : ∀ s' : Shared, St 0 s'.heap → s'.TypeIs (.ref I) Ty) (self : ∀ (B : Around) (s' : Shared) (Q : Value → Shared → Prop) (E : Value → Shared → Prop), St 0 s'.heap → Q (.ref I) s' → wpAny (model prog w) B (pyIter (.ref I)) Q E s') (hst : St 0 s.heap) (hI : I < s.heap.objs.size)
    (hQ : ∀ h' tk acc c as, (∀ b o, b ∉ wr → s.heap.get? b = some o → h'.get? b = some o) → h'.get? s.heap.objs.size = some { cls := .type "list", dict := none, data := .seq acc c, slots := #[] } → as.length = n → LzG P1 P2 (s.heap.objs.size + 1) h' as →
      acc.toList = as.map Value.ref → Q (.ref s.heap.objs.size) { s with heap := h', toks := tk }) :
    wpAny (model prog w) A (call (.type "list") [.ref I]) Q E s := by
  refine callType_codes (Q₁ := fun obj s₁ => obj = .ref s.heap.objs.size ∧ s₁ = { s with heap := s.heap.push { cls := .type "list", data := .seq #[] } }) PySem.F.called_list (PySem.F.typeCall_list_1 _) PySem.F.entry_list_init
    (code_list_new _ ⟨rfl, rfl⟩) fun obj s₁ h₁ => ?_
  obtain ⟨rfl, rfl⟩ := h₁
  have hS : (s.heap.push { cls := .type "list", data := .seq #[] }).get? s.heap.objs.size = some { cls := .type "list", data := .seq #[] } := Heap.get?_push_size _ rfl
  have hne : s.heap.objs.size ≠ I := Nat.ne_of_gt hI
  refine ⟨⟨_, hS, rfl⟩, PySem.F.args_list_init_2 _ _, ?_⟩
  show wpAny _ _ (do let old ← Builtin.List.listItems (.ref s.heap.objs.size); Builtin.List.listUpdate (.ref s.heap.objs.size) (fun _ => #[]); letGo old.toList.reverse; Builtin.List.listExtendWith (.ref s.heap.objs.size) (.ref I) .none) _ _ _
  refine wpAny_bind ?_
  unfold Builtin.List.listItems
  refine wpAny_bind (wpAny_seqItems hS rfl (wpAny_pure ?_))
  show wpAny _ _ (updateSeq s.heap.objs.size (fun _ => #[]) >>= fun _ => letGo (#[] : Array Value).toList.reverse >>= fun _ => Builtin.List.listExtendWith (.ref s.heap.objs.size) (.ref I) .none) _ _ _
  refine wpAny_bind (wpAny_updateSeq hS rfl ?_)
  have hS₂ := Heap.get?_update_self (Obj.mapSeq (fun _ => (#[] : Array Value))) hS rfl
  refine wpAny_bind (wpAny_letGo ?_)
  have k2 : ∀ b o, b ≠ s.heap.objs.size → s.heap.get? b = some o → ((s.heap.push { cls := .type "list", data := .seq #[] }).update s.heap.objs.size (Obj.mapSeq (fun _ => (#[] : Array Value)))).get? b = some o :=
    fun b o hb e => (Heap.get?_update_other _ _ (Ne.symm hb)).trans (Heap.get?_push_of_some _ e)
  have st2 := T.frame 0 _ _ hst k2
  generalize (s.heap.push { cls := .type "list", data := .seq #[] }).update s.heap.objs.size (Obj.mapSeq (fun _ => (#[] : Array Value))) = h2 at hS₂ k2 st2 ⊢
  unfold Builtin.List.listExtendWith
  refine wpAny_bind (wpAny_typeOf (hT { s with heap := h2 } st2) ?_)
  have h1 : Builtin.List.listSameRef (.ref s.heap.objs.size) (.ref I) = false := by simp [Builtin.List.listSameRef, hne]
  simp only [h1, g2, g3, Bool.or_false, Bool.false_eq_true, if_false]
  refine wpAny_bind (self _ _ _ _ st2 ?_)
  refine wpAny_bind (wpAny_holding ?_)
  unfold Builtin.List.listLengthHint
  refine wpAny_bind (wpAny_specialOf (hT { s with heap := h2 } st2) hl ?_)
  show wpAny _ _ (specialOf (Value.ref I) (Str.ofString "__length_hint__") >>= _) _ _ _
  refine wpAny_bind (wpAny_specialOf (hT { s with heap := h2 } st2) hn0 ?_)
  refine wpAny_pure ?_
  show wpAny _ _ (rule "list.extend.makes-room" >>= fun _ => Builtin.List.listTouch (.ref s.heap.objs.size) >>= fun _ =>
    again (.builtin "list.extend.loop" ⟨[.ref s.heap.objs.size, .ref I, .none], []⟩)) _ _ _
  refine wpAny_bind (wpAny_rule ?_)
  refine wpAny_bind ?_
  show wpAny _ _ (updateSeq s.heap.objs.size (·.push .none) >>= fun _ => updateSeq s.heap.objs.size (·.pop)) _ _ _
  refine wpAny_bind (wpAny_updateSeq hS₂ rfl ?_)
  have hS₃ := Heap.get?_update_self (Obj.mapSeq (·.push Value.none)) hS₂ rfl
  refine wpAny_updateSeq (hz := by seq_fits) hS₃ rfl ?_
  have hS₄ := Heap.get?_update_self (Obj.mapSeq (·.pop)) hS₃ rfl
  have oth : ∀ b o, b ≠ s.heap.objs.size → h2.get? b = some o → ((h2.update s.heap.objs.size (Obj.mapSeq (·.push Value.none))).update s.heap.objs.size (Obj.mapSeq (·.pop))).get? b = some o :=
    fun b o hb e => (Heap.get?_update_other _ _ (Ne.symm hb)).trans ((Heap.get?_update_other _ _ (Ne.symm hb)).trans e)
  refine wpAny_pure ⟨plainId_quiet PySem.F.plain_extend_loop _, ?_⟩
  have off : s.heap.objs.size ∉ wr := fun q => Nat.lt_irrefl _ (hwr _ q)
  refine lz_loop (lo := s.heap.objs.size + 1) (h₁ := s.heap) (R := _) T hn off (fun b hb => Nat.lt_succ_of_lt (hwr b hb)) (Nat.lt_succ_self _) .none (fun h' tk acc c as hk hS' hl hG hacc => ?_)
    n 0 _ s.toks _ #[] [] (Nat.sub_zero _) (Nat.zero_le _) (T.frame _ _ _ st2 oth) (fun b o h1 h2 e => oth b o h1 (k2 b o h1 e)) hS₄ rfl rfl ⟨List.Pairwise.nil, (fun _ ha => nomatch ha), (fun j a hj => by simp at hj)⟩ (Nat.succ_le_of_lt (Heap.lt_size hS₄))
  exact ⟨rfl, hQ h' tk acc c as (fun b o hb e => hk b o (Nat.ne_of_lt (Heap.lt_size e)) hb e) hS' hl hG hacc⟩
end
end PySem.W
namespace PySem
open PySem.W
theorem zip_no_len : typeLookup (.type "zip") "__len__" = pure none := am_miss_of_fast (by decide +kernel)
theorem zip_no_hint : typeLookup (.type "zip") "__length_hint__" = pure none := am_miss_of_fast (by decide +kernel)
theorem tup_zip {prog : Program} {w : World} {A : Around} {z TI TO i1 i2 a b S : Addr} {n1 n2 : Nat} {P1 P2 : Nat → Value → Prop} {St1 St2 : Nat → Heap → Prop} (D : ZipSep2 z TI TO i1 i2 [i1, a] [i2, b])
    (D1 : Draws prog w A.in1 i1 [i1, a] n1 P1 St1) (D2 : Draws prog w A.in1 i2 [i2, b] n2 P2 St2) (hS : S ≠ z ∧ S ≠ TI ∧ S ≠ TO ∧ S ≠ i1 ∧ S ≠ i2 ∧ S ≠ a ∧ S ≠ b) (ha : a ≠ z ∧ b ≠ z) :
    TupSrc prog w A z S [z, TO, i1, i2] (min n1 n2) P1 P2 (fun i h => IsTupOf2 h TI (.ref i1) (.ref i2) ∧ St1 i h ∧ St2 i h ∧ ((IsZip h z TI TO .none ∧ ∃ x y, IsTupOf2 h TO x y) ∨ ∃ T f oT, IsZipHeld h z TI TO T f ∧ h.get? T = some oT ∧ T ≠ z ∧ T ≠ i1 ∧ T ≠ i2 ∧ T ≠ S ∧ 0 < i)) where
  frame := fun i h h' st k => by
    obtain ⟨s1, s2, s3, s4, s5, s6, s7⟩ := hS
    obtain ⟨hTI, st1, st2, hz⟩ := st
    refine ⟨k _ _ (Ne.symm s2) hTI, D1.frame _ _ _ st1 fun c hc o e => ?_, D2.frame _ _ _ st2 fun c hc o e => ?_, ?_⟩
    · refine k c o (fun q => ?_) e
      simp only [List.mem_cons, List.not_mem_nil, or_false] at hc
      rcases hc with r | r
      · exact s4 (q.symm.trans r)
      · exact s6 (q.symm.trans r)
    · refine k c o (fun q => ?_) e
      simp only [List.mem_cons, List.not_mem_nil, or_false] at hc
      rcases hc with r | r
      · exact s5 (q.symm.trans r)
      · exact s7 (q.symm.trans r)
    · rcases hz with ⟨hz, x, y, hTO⟩ | ⟨T, f, oT, hz, hT, r1, r2, r3, r4, r5⟩
      · exact .inl ⟨k _ _ (Ne.symm s1) hz, x, y, k _ _ (Ne.symm s3) hTO⟩
      · exact .inr ⟨T, f, oT, k _ _ (Ne.symm s1) hz, k _ _ r4 hT, r1, r2, r3, r4, r5⟩
  item := fun i s Q E hi st hl hQ => by
    obtain ⟨hTI, st1, st2, hz⟩ := st
    have l1 : i < n1 := Nat.lt_of_lt_of_le hi (Nat.min_le_left ..)
    have l2 : i < n2 := Nat.lt_of_lt_of_le hi (Nat.min_le_right ..)
    have lt : ∀ {c o}, s.heap.get? c = some o → s.heap.objs.size ≠ c := fun e => Nat.ne_of_gt (Heap.lt_size e)
    have x1 : s.heap.objs.size ≠ i1 := let ⟨_, e⟩ := D1.live _ _ st1; lt e
    have x2 : s.heap.objs.size ≠ i2 := let ⟨_, e⟩ := D2.live _ _ st2; lt e
    rcases hz with ⟨hz, x, y, hTO⟩ | ⟨T, f, oT, hz, hT, r1, r2, r3, r4, r5⟩
    · refine wpAny_pyNext_zipD2_item D D1 D2 hz hTI hTO st1 st2 l1 l2 fun u v h' tk a0 a1 a2 a3 a4 a5 a6 a7 hk => ?_
      exact hQ u v h' tk a0 a1 a6 ⟨hk _ _ D.TIz D.TITO D.TIi1 D.TIi2 hTI, a4, a5, .inr ⟨s.heap.objs.size, false, _, a2, a6, lt hz, x1, x2, Nat.ne_of_gt hl, Nat.succ_pos _⟩⟩
        fun c o hc e => hk c o (fun x => hc (by simp [x])) (fun x => hc (by simp [x])) (fun x => hc (by simp [x])) (fun x => hc (by simp [x])) e
    · refine lz_pyNext D D1 D2 hz hT hTI st1 st2 l1 l2 fun u v h' tk a0 a1 a2 a4 a5 a6 a7 hk => ?_
      exact hQ u v h' tk a0 a1 a6 ⟨hk _ _ D.TIz D.TIi1 D.TIi2 hTI, a4, a5, .inr ⟨T, true, oT, a2, hk _ _ r1 r2 r3 hT, r1, r2, r3, r4, Nat.succ_pos _⟩⟩
        fun c o hc e => hk c o (fun x => hc (by simp [x])) (fun x => hc (by simp [x])) (fun x => hc (by simp [x])) e
  done := fun s Q E st hQ => by
    obtain ⟨hTI, st1, st2, hz⟩ := st
    have l1 : min n1 n2 ≤ n1 := Nat.min_le_left ..
    have l2 : min n1 n2 ≤ n2 := Nat.min_le_right ..
    have l3 : min n1 n2 = n1 ∨ min n1 n2 = n2 := by omega
    rcases hz with ⟨hz, x, y, hTO⟩ | ⟨T, f, oT, hz, hT, r1, r2, r3, r4, r5⟩
    · exact wpAny_pyNext_zipD2_end D D1 D2 hz hTI hTO st1 st2 l1 l2 l3 fun h' tk hk => hQ h' tk fun c o hc e => hk c o (fun x => hc (by simp [x])) (fun x => hc (by simp [x])) (fun x => hc (by simp [x])) (fun x => hc (by simp [x])) e
    · exact lz_pyEnd D D1 D2 hz hT hTI st1 st2 l1 l2 l3 fun h' tk hk => hQ h' tk fun c o hc e => hk c o (fun x => hc (by simp [x])) (fun x => hc (by simp [x])) (fun x => hc (by simp [x])) e
end PySem
namespace Dl
open PySem PySem.Spec PyProof.Rows L2
/-- new tuples, one behind the other -/
def addT : Hp → List Addr → List (V × V) → Hp
  | H, a :: as, (x, y) :: ps => addT (upd H a (.tup [x, y])) as ps
  | H, _, _ => H
theorem addT_ne {b : Addr} : ∀ {as : List Addr} {ps : List (V × V)} {H : Hp}, b ∉ as → addT H as ps b = H b
  | [], _, H, _ => by cases ‹List (V × V)› <;> rfl
  | a :: as, [], H, _ => rfl
  | a :: as, (x, y) :: ps, H, h => by
    show addT (upd H a (.tup [x, y])) as ps b = _
    rw [addT_ne fun q => h (List.mem_cons_of_mem _ q), L2.upd_ne fun q => h (by rw [q]; exact List.mem_cons_self ..)]
theorem un_add {fs ex : List Addr} {h : Heap} : ∀ {as : List Addr} {ps : List (V × V)} {H : Hp}, (∀ a ∈ as, h.objs.size ≤ a) → as.Nodup → (∀ a ∈ as, H a = none) → Un fs ex H (addT H as ps) h h
  | [], ps, H, _, _, _ => by cases ps <;> exact Un.refl
  | a :: as, [], H, _, _, _ => Un.refl
  | a :: as, (x, y) :: ps, H, h1, h2, h3 => by
    have nd := List.nodup_cons.mp h2
    refine (Un.laid (a := a) (o := .tup [x, y]) (fun _ _ q => q) (h1 a (List.mem_cons_self ..)) (h3 a (List.mem_cons_self ..))).trans (un_add (fun b hb => h1 b (List.mem_cons_of_mem _ hb)) nd.2 fun b hb => ?_)
    rw [L2.upd_ne fun q => nd.1 (by rw [← q]; exact hb)]
    exact h3 b (List.mem_cons_of_mem _ hb)
theorem hok_one {P : Program} {w : World} {H : Hp} {h : Heap} {a : Addr} {o : HO} (x : HOk P w H h) (hn : H a = none) (new : ObjOk P w (upd H a o) h a o) : HOk P w (upd H a o) h := fun b u e => by
  by_cases hb : b = a
  · subst hb; rw [L2.upd_same] at e; cases e; exact new
  · rw [L2.upd_ne hb] at e
    exact (x b u e).stay (fun c v _ q => q) (fun c q => by rw [L2.upd_ne (ne_of_none q hn)]; exact q) fun c xs q => by rw [L2.upd_ne (ne_of_none q hn)]; exact q
theorem hok_add {P : Program} {w : World} {h : Heap} : ∀ {as : List Addr} {ps : List (V × V)} {H : Hp}, HOk P w H h → as.Nodup → (∀ a ∈ as, H a = none) →
    (∀ (j : Nat) (a : Addr) (p : V × V), as[j]? = some a → ps[j]? = some p → ∃ u v, RelV p.1 u ∧ RelV p.2 v ∧ h.get? a = some { cls := .type "tuple", data := .seq #[u, v] }) → HOk P w (addT H as ps) h
  | [], ps, H, x, _, _, _ => by cases ps <;> exact x
  | a :: as, [], H, x, _, _, _ => x
  | a :: as, (x, y) :: ps, H, hk, h2, h3, h4 => by
    have nd := List.nodup_cons.mp h2
    obtain ⟨u, v, r1, r2, e⟩ := h4 0 a (x, y) rfl rfl
    show HOk P w (addT (upd H a (.tup [x, y])) as ps) h
    refine hok_add (hok_one (o := .tup [x, y]) hk (h3 a (List.mem_cons_self ..)) ⟨by show 2 ≤ sizeLine; decide, [u, v], .cons r1 (.cons r2 .nil), ⟨_, e, rfl, _, rfl⟩⟩) nd.2 (fun b hb => ?_) fun j b p q1 q2 => h4 (j + 1) b p q1 q2
    rw [L2.upd_ne fun q => nd.1 (by rw [← q]; exact hb)]
    exact h3 b (List.mem_cons_of_mem _ hb)
theorem vals_refs : ∀ as : List Addr, Vals (as.map V.ref) (as.map Value.ref)
  | [] => .nil
  | _ :: as => .cons rfl (vals_refs as)
theorem dr_itemA {X : Cx} {pins : List (Addr × Obj)} {σ : L2.St} {H : Hp} {s : Shared} {a it : Addr} {k : Bool} {xs : List V} (A : Around) (hh : A.handled = none) (I : Inv X pins σ H s) (h : SqK k X.K H a xs) (hne : a ≠ it) : ∃ (its : List Value) (St : Nat → Heap → Prop), Vals xs its ∧ Draws X.prog X.w A it [it, a] its.length (fun i v => its[i]? = some v) St ∧
    (∀ i h', ItK k h' it a i → (∀ b o, s.heap.get? b = some o → h'.get? b = some o) → St i h') := by
  cases k
  · obtain ⟨its, r, p, z⟩ := I.tuple h
    have D := Draws.tuple (prog := X.prog) (w := X.w) (A := A) hh it a hne its.toArray
    simp only [List.size_toArray, List.getElem?_toArray] at D
    exact ⟨its, _, r, D, fun i h' q k => ⟨q, Heap.IsTuple.at p fun o e => k _ o e⟩⟩
  · obtain ⟨its, r, p, z⟩ := I.list h
    have D := Draws.list (prog := X.prog) (w := X.w) (A := A) hh it a hne its.toArray
    simp only [List.size_toArray, List.getElem?_toArray] at D
    exact ⟨its, _, r, D, fun i h' q k => ⟨q, p.isList.at fun o e => k _ o e⟩⟩
def rLz (H1 : Hp) (ps : List (V × V)) (Q : VK) : Prop := ps.length ≤ sizeLine ∧ ∀ (as : List Addr) (p : Addr), as.length = ps.length → as.Nodup → p ∉ as → H1 p = none → (∀ a ∈ as, H1 a = none) → Q (.ref p) (upd (addT H1 as ps) p (.lst (as.map V.ref)))
def tLz2 (K : PySem.W.Frag) (ta : TA) : TE := fun σ H Q => ta σ H fun vs H1 => ∃ (k1 k2 : Bool) (a b : Addr) (xs ys : List V), vs = [.ref a, .ref b] ∧ SqK k1 K H1 a xs ∧ SqK k2 K H1 b ys ∧ rLz H1 (xs.zip ys) Q
/-- the new list and its pairs are laid -/
theorem lz_done {X : Cx} {pins : List (Addr × Obj)} {σ : L2.St} {H : Hp} {s : Shared} {h' : Heap} {tk : Tok} {S : Addr} {acc : Array Value} {c : Nat} {as : List Addr} {ps : List (V × V)} {Q : VK} {P1 P2 : Nat → Value → Prop} (I : Inv X pins σ H s) (k : ∀ b u, s.heap.get? b = some u → h'.get? b = some u) (hS : s.heap.objs.size ≤ S)
    (e : h'.get? S = some { cls := .type "list", dict := none, data := .seq acc c, slots := #[] }) (hl : as.length = ps.length) (G : W.LzG P1 P2 (S + 1) h' as) (ha : acc.toList = as.map Value.ref)
    (h1 : ∀ j p u, P1 j u → ps[j]? = some p → RelV p.1 u) (h2 : ∀ j p u, P2 j u → ps[j]? = some p → RelV p.2 u) (q : rLz H ps Q) : EP X pins σ Q (.ref S) { s with heap := h', toks := tk } := by
  obtain ⟨z, q⟩ := q
  have up : ∀ a ∈ as, s.heap.objs.size ≤ a := fun a m => Nat.le_trans hS (Nat.le_of_lt (G.above a m))
  have nd : as.Nodup := G.rise.imp fun h => Nat.ne_of_lt h
  have fr : ∀ a ∈ as, H a = none := fun a m => I.hok.fresh (up a m)
  have pn : S ∉ as := fun m => Nat.lt_irrefl _ (G.above S m)
  have sn : addT H as ps S = none := by rw [addT_ne pn]; exact I.hok.fresh hS
  have ok1 : HOk X.prog X.w (addT H as ps) h' := hok_add (I.hok.kept k) nd fr fun j a p e1 e2 => by
    obtain ⟨u, v, p1, p2, g⟩ := G.pairs j a e1
    exact ⟨u, v, h1 j p u p1 e2, h2 j p v p2 e2, g⟩
  have ok2 : HOk X.prog X.w (upd (addT H as ps) S (.lst (as.map V.ref))) h' := hok_one ok1 sn ⟨by rw [List.length_map, hl]; exact z, acc.toList, c, by rw [ha]; exact vals_refs as, by rw [Array.toArray_toList]; exact e⟩
  have u1 : Un X.fs [] H (upd (addT H as ps) S (.lst (as.map V.ref))) s.heap h' := ((un_add up nd fr).trans (Un.laid (fun _ _ q => q) hS sn)).trans (Un.kept k)
  exact ⟨.ref S, _, I.un (t' := tk) u1 ok2, rfl, q as S hl nd pn (I.hok.fresh hS) fr⟩
theorem zip_at {α β : Type} {xs : List α} {ys : List β} {j : Nat} {p : α × β} (h : (xs.zip ys)[j]? = some p) : xs[j]? = some p.1 ∧ ys[j]? = some p.2 := by
  rw [List.getElem?_zip_eq_some] at h
  exact h
theorem sep5 (I a b : Nat) (h1 : a < I) (h2 : b < I) : I + 5 ≠ I + 4 ∧ I + 5 ≠ I + 2 ∧ I + 5 ≠ I + 3 ∧ I + 5 ≠ I ∧ I + 5 ≠ I + 1 ∧ I + 5 ≠ a ∧ I + 5 ≠ b := by omega
theorem pe_lz2 {X : Cx} (hc : X.calm = true) {e e2 : Expr} {ta : TA} {p pos p2 pos2 : Pos} (hgl : Gl X "list") (hml : X.mg "list" = none) (hg : Gl X "zip") (hm : X.mg "zip" = none) (ha : PA X [e, e2] ta)
    (na : starEach [.Call (.Name "zip" p2) [e, e2] [] pos2] X.env = (false, eval (.Call (.Name "zip" p2) [e, e2] [] pos2) X.env) :: starEach [] X.env := by rfl)
    (hs : starEach [e, e2] X.env = (false, eval e X.env) :: starEach [e2] X.env := by rfl) (hpl : (backTo pos2 (starEach [e2] X.env)).any (·.1) = false := by rfl) :
    PE X (.Call (.Name "list" p) [.Call (.Name "zip" p2) [e, e2] [] pos2] [] pos) (tLz2 X.K ta) := by
  refine ⟨fun pins s σ H Q I h => ?_⟩
  refine Call_ (ld_blt I hgl hml PyProof.Rows.boot_list (PyProof.Rows.callWith_type1 (args_cons (Call_ (ld_blt I hg hm PyProof.Rows.boot_zip (PyProof.Rows.callWith_type1 (thn (ha.run pos2 pins s σ H _ I h) fun us s1 ⟨vs, H1, I1, r1, q1⟩ => ?_) hs hpl))) na) na))
  obtain ⟨k1, k2, a, b, xs, ys, ex, hqx, hqy, q⟩ := q1
  subst ex
  cases r1 with
  | cons r rr =>
    cases rr with
    | cons r' rr =>
      cases rr
      cases r
      cases r'
      have la := sqK_lt I1 hqx
      have lb := sqK_lt I1 hqy
      obtain ⟨G1, B1, g1⟩ := begK I1 hqx
      obtain ⟨G2, B2, g2⟩ := begK I1 hqy
      refine zip_begins2 B1 B2 g1 g2 fun h' hz hTI hTO e1 e2 hsz hk => args_nil ?_
      obtain ⟨its, St1, rv, D1, s1'⟩ := dr_itemA (it := s1.heap.objs.size) X.A.in1.in1.in1 (I1.ok.hd hc) I1 hqx (Nat.ne_of_lt la)
      obtain ⟨its2, St2, rv2, D2, s2'⟩ := dr_itemA (it := s1.heap.objs.size + 1) X.A.in1.in1.in1 (I1.ok.hd hc) I1 hqy (Nat.ne_of_lt (Nat.lt_succ_of_lt lb))
      have lx := rv.length
      have ly := rv2.length
      have T := tup_zip (S := h'.objs.size) (A := X.A.in1.in1) (sep2 s1.heap.objs.size a b la lb) D1 D2
        (by rw [hsz]; exact sep5 _ _ _ la lb) ⟨Nat.ne_of_lt (Nat.lt_of_lt_of_le la (Nat.le_add_right ..)), Nat.ne_of_lt (Nat.lt_of_lt_of_le lb (Nat.le_add_right ..))⟩
      have z := q.1
      rw [List.length_zip] at z
      refine W.lz_call (s := { s1 with heap := h' }) zip_no_len zip_no_hint (by decide) (by decide) T (by omega) (fun c hcm => ?_) (fun s' st => ?_) (fun B s' Q' E' st hq => ?_) ⟨hTI, s1' 0 h' (itK_new e1) hk, s2' 0 h' (itK_new e2) hk, .inl ⟨hz, _, _, hTO⟩⟩ (by show _ < h'.objs.size; rw [hsz]; exact Nat.lt_succ_self _)
        fun h'' tk acc c as hk' hS' hl hG hacc => ?_
      · show c < h'.objs.size
        rw [hsz]
        simp only [List.mem_cons, List.not_mem_nil, or_false] at hcm
        rcases hcm with r | r | r | r <;> (rw [r]; first | exact Nat.lt_succ_self _ | exact Nat.add_lt_add_left (by decide) _ | exact Nat.lt_add_of_pos_right (by decide))
      · obtain ⟨_, _, _, hz⟩ := st
        rcases hz with ⟨hz, _⟩ | ⟨T, f, oT, hz, _⟩
        · exact ⟨_, hz, rfl⟩
        · exact ⟨_, hz, rfl⟩
      · obtain ⟨_, _, _, hz⟩ := st
        rcases hz with ⟨hz, _⟩ | ⟨T, f, oT, hz, _⟩
        · exact wpAny_pyIter_zip hz hq
        · obtain ⟨_, _, _, _, _, bad⟩ := ‹_›
          exact absurd bad (Nat.lt_irrefl _)
      · refine lz_done (s := s1) (h' := h'') I1 (fun b u e => hk' b u (fun m => ?_) (hk b u e)) (by show _ ≤ h'.objs.size; rw [hsz]; exact Nat.le_add_right ..) hS' (by rw [hl, List.length_zip]; omega) hG hacc (fun j p u q1 q2 => ?_) (fun j p u q1 q2 => ?_) q
        · have hb := Heap.lt_size e
          simp only [List.mem_cons, List.not_mem_nil, or_false] at m
          rcases m with r | r | r | r <;> (rw [r] at hb; first | exact absurd hb (Nat.lt_irrefl _) | exact absurd hb (Nat.not_lt.mpr (Nat.le_add_right ..)))
        · obtain ⟨x1, x2⟩ := zip_at q2
          obtain ⟨v, hv, rr⟩ := rv.get x1
          rw [q1] at hv
          cases hv
          exact rr
        · obtain ⟨x1, x2⟩ := zip_at q2
          obtain ⟨v, hv, rr⟩ := rv2.get x2
          rw [q1] at hv
          cases hv
          exact rr
end Dl
namespace Dl
open PySem PySem.Spec PyProof.Rows L2
section
variable {K : PySem.W.Frag} {α : List Addr} {μ : Mu}
theorem gr_id {H : Hp} : Gr α H α H := Gr.refl α H
theorem add_rel : ∀ {xs ys : List V} {ds es : List D} {as : List Addr} {H : Hp}, Sat K α H μ → RlAll K α H xs ds → RlAll K α H ys es → as.Nodup → (∀ a ∈ as, H a = none) → as.length = (xs.zip ys).length →
    Gr α H α (addT H as (xs.zip ys)) ∧ Sat K α (addT H as (xs.zip ys)) μ ∧ RlAll K α (addT H as (xs.zip ys)) (as.map V.ref) (zipD ds es)
  | [], ys, ds, es, as, H, S, r, r', nd, fr, l => by
    have : as = [] := List.eq_nil_of_length_eq_zero (by rw [l]; rfl)
    subst this
    cases r
    exact ⟨Gr.refl α H, S, .nil⟩
  | x :: xs, [], ds, es, as, H, S, r, r', nd, fr, l => by
    have : as = [] := List.eq_nil_of_length_eq_zero (by rw [l]; rfl)
    subst this
    cases r'
    cases r
    exact ⟨Gr.refl α H, S, .nil⟩
  | x :: xs, y :: ys, ds, es, as, H, S, r, r', nd, fr, l => by
    cases as with
    | nil => cases l
    | cons a as =>
      cases r with
      | cons rx r =>
        cases r' with
        | cons ry r' =>
          obtain ⟨g1, s1, n1⟩ := new_pair S rx ry (fr a (List.mem_cons_self ..))
          have nd := List.nodup_cons.mp nd
          obtain ⟨g2, s2, n2⟩ := add_rel (as := as) s1 (r.mono g1) (r'.mono g1) nd.2 (fun b hb => by
            rw [L2.upd_ne fun q => nd.1 (by rw [← q]; exact hb)]
            exact fr b (List.mem_cons_of_mem _ hb)) (Nat.succ.inj l)
          exact ⟨g1.trans g2, s2, .cons (n1.mono g2) n2⟩
end
def dlZ2 (d1 d2 : DTE) : DTL := fun ρ μ Q => d1 ρ μ fun x μ1 => d2 ρ μ1 fun y μ2 => match src2 μ2 x, src2 μ2 y with | some s, some t => (zipD s.its t.its).length ≤ sizeLine ∧ Q (zipD s.its t.its) μ2 | _, _ => False
theorem dl_z2 {X : Cx} {e e2 : Expr} {d1 d2 : DTE} {p pos p2 pos2 : Pos} (hml : X.mg "list" = none) (hm : X.mg "zip" = none) (he : PED X e d1) (he2 : PED X e2 d2) (hc : X.calm = true := by rfl) (hgl : Gl X "list" := by rfl) (hg : Gl X "zip" := by rfl)
    (na : starEach [.Call (.Name "zip" p2) [e, e2] [] pos2] X.env = (false, eval (.Call (.Name "zip" p2) [e, e2] [] pos2) X.env) :: starEach [] X.env := by rfl)
    (hs : starEach [e, e2] X.env = (false, eval e X.env) :: starEach [e2] X.env := by rfl) (hs2 : starEach [e2] X.env = (false, eval e2 X.env) :: starEach [] X.env := by rfl) (hpl : (backTo pos2 (starEach [e2] X.env)).any (·.1) = false := by rfl) :
    PLD X (.Call (.Name "list" p) [.Call (.Name "zip" p2) [e, e2] [] pos2] [] pos) (dlZ2 d1 d2) := by
  obtain ⟨t1, a1, a2⟩ := he.ex
  obtain ⟨t2, b1, b2⟩ := he2.ex
  refine ⟨_, pe_lz2 hc hgl hml hg hm (pa_cons a1 (pa_cons b1 pa_nil hs2) hs) na hs hpl, fun α σ H ρ μ Qd Q S en h post => a2 α σ H ρ μ _ _ S en h fun v H1 α1 μ1 d g1 S1 r1 q1 => b2 α1 σ H1 ρ μ1 _ _ S1 (en.mono g1) q1 fun w H2 α2 μ2 dd g2 S2 r2 q2 => ?_⟩
  split at q2
  · rename_i s t es et
    obtain ⟨hd, k1, a, vs, rfl, q, L⟩ := kok_of S2 (r1.mono g2) es
    obtain ⟨hd2, k2, b, us, rfl, q', L'⟩ := kok_of S2 r2 et
    obtain ⟨xs, c1, c2⟩ := L.ok _ _ _ (Gr.refl α2 H2) S2 hd
    obtain ⟨ys, m1, m2⟩ := L'.ok _ _ _ (Gr.refl α2 H2) S2 hd2
    refine ⟨k1, k2, a, b, xs, ys, rfl, c1, m1, ?_, fun as p hl nd pn hp fr => ?_⟩
    · have := q2.1
      unfold zipD at this
      rw [List.length_zipWith, ← c2.length, ← m2.length] at this
      rw [List.length_zip]
      exact this
    · obtain ⟨g3, S3, r3⟩ := add_rel S2 c2 m2 nd fr hl
      exact (post.mono ((g1.trans g2).trans g3)).here S3 r3 q2.2 (by rw [addT_ne pn]; exact hp)
  · exact False.elim q2
end Dl
namespace Dl
open PySem PySem.Spec PyProof.Rows L2
/-- list(range(n)) -/
def dlRange1 (d1 : DTE) : DTL := fun ρ μ Q => d1 ρ μ fun x μ1 => match x with
  | .int hi => (Rg hi ∧ hi.toNat ≤ 2 ^ 24) ∧ Q (rangeD 0 hi) μ1
  | _ => False
theorem dl_range1 {X : Cx} {a : Expr} {d1 : DTE} {p pos p2 pos2 : Pos} (hm : X.mg "list" = none) (hm2 : X.mg "range" = none) (ha : PED X a d1) (hc : X.calm = true := by rfl)
    (mk : ∀ {ta : TE}, X.mg "list" = none → X.mg "range" = none → PE X a ta → PE X (.Call (.Name "list" p) [.Call (.Name "range" p2) [a] [] pos2] [] pos) (tLstRg (tRg1 ta)) := by intro _ z1 z2 u; exact pe_listRg (by rfl) (by rfl) z1 (prg_1 (by rfl) z2 u)) :
    PLD X (.Call (.Name "list" p) [.Call (.Name "range" p2) [a] [] pos2] [] pos) (dlRange1 d1) := by
  obtain ⟨t1, a1, a2⟩ := ha.ex
  refine ⟨_, mk hm hm2 a1, fun α σ H ρ μ Qd Q S E h post => a2 α σ H ρ μ _ _ S E h fun v1 H1 α1 μ1 x g1 s1 r1 q1 => ?_⟩
  split at q1
  · rename_i hi
    cases r1
    obtain ⟨⟨k1, k2⟩, q1⟩ := q1
    exact ⟨hi, rfl, ⟨by decide, by decide, k1.1, k1.2, by rw [Int.sub_zero]; exact k2⟩, fun q hq => (post.mono g1).here s1 (rl_range 0 hi) q1 hq⟩
  · exact False.elim q1
end Dl
/-! Nt: nested targets of a comprehension: for i, (a, b) in .. -/
namespace Dl
open PySem PySem.Spec PyProof.Rows L2
section
variable {K : PySem.W.Frag} {own : List (Str × Nat)}
structure GgD (K : PySem.W.Frag) (own : List (Str × Nat)) (g : TG) (dg : DTG) : Prop where
  snd : SndG K g dg
  mono : ∀ v σ H Q Q', (∀ σ H, Q σ H → Q' σ H) → g v σ H Q → g v σ H Q'
  wipe : ∀ σ σ0 v H Q, L2.wipe σ (own.map (·.2)) = L2.wipe σ0 (own.map (·.2)) → g v σ H Q → g v σ H fun σ2 H2 => L2.wipe σ2 (own.map (·.2)) = L2.wipe σ0 (own.map (·.2)) ∧ Q σ2 H2
structure GgsD (K : PySem.W.Frag) (own : List (Str × Nat)) (g : TGs) (dg : DTGs) : Prop where
  snd : SndGs K g dg
  mono : ∀ v σ H Q Q', (∀ σ H, Q σ H → Q' σ H) → g v σ H Q → g v σ H Q'
  wipe : ∀ σ σ0 v H Q, L2.wipe σ (own.map (·.2)) = L2.wipe σ0 (own.map (·.2)) → g v σ H Q → g v σ H fun σ2 H2 => L2.wipe σ2 (own.map (·.2)) = L2.wipe σ0 (own.map (·.2)) ∧ Q σ2 H2
theorem gg_name (i : Nat) (hi : i ∈ own.map (·.2) := by decide) : GgD K own (gName i) (gdName i) :=
  ⟨snd_gname i, fun v σ H Q Q' h q => h _ _ q, fun σ σ0 v H Q e q => ⟨by rw [wipe_set_in hi, e], q⟩⟩
theorem ggs_nil : GgsD K own gNil gdNil :=
  ⟨fun α σ H ρ μ vs ds Qd Q S e r h post => by
    cases r with
    | nil => exact ⟨rfl, post _ _ _ _ _ (Gr.refl α H) S e h⟩
    | cons _ _ => exact False.elim h, fun v σ H Q Q' h q => ⟨q.1, h _ _ q.2⟩, fun σ σ0 v H Q e q => ⟨q.1, e, q.2⟩⟩
theorem ggs_cons {g : TG} {dg : DTG} {gs : TGs} {dgs : DTGs} (h1 : GgD K own g dg) (h2 : GgsD K own gs dgs) : GgsD K own (gCons g gs) (gdCons dg dgs) :=
  ⟨fun α σ H ρ μ vs ds Qd Q S e r h post => by
    cases r with
    | nil => exact False.elim h
    | cons r rs => exact ⟨_, _, rfl, h1.snd α σ H ρ μ _ _ _ _ S e r h fun σ' H' α' ρ' μ' g S' e' h' => h2.snd α' σ' H' ρ' μ' _ _ _ _ S' e' (rs.mono g) h' (post.mono g)⟩,
   fun v σ H Q Q' h q => by
    obtain ⟨x, r, e, q⟩ := q
    exact ⟨x, r, e, h1.mono _ _ _ _ _ (fun σ H q => h2.mono _ _ _ _ _ h q) q⟩,
   fun σ σ0 v H Q e q => by
    obtain ⟨x, r, ex, q⟩ := q
    exact ⟨x, r, ex, h1.mono _ _ _ _ _ (fun σ H q => h2.wipe _ _ _ _ _ q.1 q.2) (h1.wipe σ σ0 _ _ _ e q)⟩⟩
theorem gg_tup {n : Nat} {gs : TGs} {dgs : DTGs} (h : GgsD K own gs dgs) : GgD K own (gTup K n gs) (gdTup n dgs) :=
  ⟨fun α σ H ρ μ v d Qd Q S e r hh post => by
    unfold gdTup at hh
    split at hh
    · rename_i ds
      cases r with
      | tup q r => exact ⟨_, _, rfl, q, by rw [r.length]; exact hh.1, h.snd α σ H ρ μ _ _ _ _ S e r hh.2 post⟩
    · exact hh.elim,
   fun v σ H Q Q' m q => by
    obtain ⟨a, xs, e, q1, q2, q⟩ := q
    exact ⟨a, xs, e, q1, q2, h.mono _ _ _ _ _ m q⟩,
   fun σ σ0 v H Q e q => by
    obtain ⟨a, xs, ex, q1, q2, q⟩ := q
    exact ⟨a, xs, ex, q1, q2, h.wipe σ σ0 _ _ _ e q⟩⟩
end
theorem own_of {X : Cx} {scope : Scope} {own : List (Str × Nat)} {tg : Expr} {g : TG} {dg : DTG} (h : GgD X.K own g dg) (hg : ∀ (s : Shared) (H : Hp) (C : Addr) (cl : List (Str × Addr)) (fp : List Addr), PG (X.blk s H scope (compEnvC scope cl C X.env) fp) tg g) : OwnG X scope own tg dg :=
  ⟨g, h.snd, fun σ v H Q q => h.wipe _ σ _ _ _ (wipe_idem fun _ z => z) q, hg⟩
end Dl
/-! Le: list(enumerate(x)), x a list or a tuple. -/
namespace PySem
open Sem (wp)
open PySem.W
section
variable {prog : Program} {w : World} {A : Around} {E : Value → Shared → Prop} {s : Shared} {e it T : Addr} {f : Bool} {oT : Obj} {fp : List Addr} {n i : Nat} {c : Int} {P : Nat → Value → Prop} {St : Nat → Heap → Prop} {old : Value}
theorem le_next {Q : Value → Shared → Prop} (D : Draws prog w A it fp n P St) (he : IsEnumHeld s.heap e it c old T f) (hT : s.heap.get? T = some oT) (hTe : T ≠ e) (hTi : T ≠ it) (hst : St i s.heap) (hlt : i < n) (hne : e ≠ it) (hef : e ∉ fp)
    (hQ : ∀ x h' tk, P i x → IsEnumHeld h' e it (c + 1) old T true → St (i + 1) h' →
      h'.get? s.heap.objs.size = some { cls := .type "tuple", data := .seq #[.int c tk, x] } → h'.objs.size = s.heap.objs.size + 1 →
      (∀ b o, b ≠ e → b ≠ it → s.heap.get? b = some o → h'.get? b = some o) → Q (.ref s.heap.objs.size) { s with heap := h', toks := tk + 1 }) :
    wpAny (model prog w) A (Builtin.«enumerate.__next__» ⟨[.ref e], []⟩) (fun fin s' => ∃ v, fin = .done (.ret v) ∧ Q v s') E s := by
  obtain ⟨hp, g, d, tk₀, os⟩ := s
  show wpAny _ _ (field (.ref e) 2 >>= _) _ _ _
  refine wpAny_bind (wpAny_field he rfl (x := .ref it) rfl ?_)
  refine wpAny_bind (D.item i _ _ _ hlt hst fun x h₁ tk hPx hit₁ hs₁ => ?_)
  replace hs₁ : Heap.SameBut it hp h₁ := hs₁
  have he₁ : IsEnumHeld h₁ e it c old T f := (hs₁.2 e hne).trans he
  show wpAny _ _ (field (.ref e) 3 >>= _) _ _ ⟨h₁, g, d, tk, os⟩
  refine wpAny_bind (wpAny_field he₁ rfl (x := rawInt c) rfl ?_)
  show wpAny _ _ (field (.ref e) 4 >>= _) _ _ ⟨h₁, g, d, tk, os⟩
  refine wpAny_bind (wpAny_field he₁ rfl (x := .none) rfl ?_)
  show wpAny _ _ (mkInt c >>= _) _ _ ⟨h₁, g, d, tk, os⟩
  refine wpAny_bind (wpAny_mkInt ?_)
  show wpAny _ _ (setField (.ref e) 3 (rawInt (c + 1)) >>= _) _ _ ⟨h₁, g, d, tk + 1, os⟩
  refine wpAny_bind (wpAny_setField_rec he₁ (by simp) fun h₂ he₂ hs₂ => ?_)
  replace hs₂ : Heap.SameBut e h₁ h₂ := hs₂
  replace he₂ : IsEnumHeld h₂ e it (c + 1) old T f := he₂
  show wpAny _ _ (setField (.ref e) 4 .none >>= _) _ _ ⟨h₂, g, d, tk + 1, os⟩
  refine wpAny_bind (wpAny_setField_rec he₂ (by simp) fun h₃ he₃ hs₃ => ?_)
  replace hs₃ : Heap.SameBut e h₂ h₃ := hs₃
  replace he₃ : IsEnumHeld h₃ e it (c + 1) old T f := he₃
  show wpAny _ _ (newTuple [.int c tk, x] >>= _) _ _ ⟨h₃, g, d, tk + 1, os⟩
  refine wpAny_bind (wpAny_newTuple ?_)
  have he₄ : IsEnumHeld (h₃.push { cls := .type "tuple", data := .seq #[.int c tk, x] }) e it (c + 1) old T f := Heap.get?_push_of_some _ he₃
  generalize hh₄ : h₃.push { cls := .type "tuple", data := .seq #[.int c tk, x] } = h₄ at he₄
  have hsz : h₃.objs.size = hp.objs.size := by rw [hs₃.1, hs₂.1, hs₁.1]
  have hel : e < hp.objs.size := Heap.lt_size he
  have ht₄ : h₄.get? hp.objs.size = some { cls := .type "tuple", data := .seq #[.int c tk, x] } := by rw [← hh₄, ← hsz]; exact Heap.get?_push_size _ rfl
  have hz₄ : h₄.objs.size = hp.objs.size + 1 := by rw [← hh₄, Heap.size_push, hsz]
  have hk₄ : ∀ b o, b ≠ e → b ≠ it → hp.get? b = some o → h₄.get? b = some o := fun b o hbe hbi hb => by
    rw [← hh₄]; exact Heap.get?_push_of_some _ (hs₃.extBut b o hbe (hs₂.extBut b o hbe (hs₁.extBut b o hbi hb)))
  have hit₄ : St (i + 1) h₄ := D.frame _ _ _ hit₁ fun b hb o y => by
    have hbe : b ≠ e := fun q => hef (q ▸ hb)
    rw [← hh₄]; exact Heap.get?_push_of_some _ (hs₃.extBut b o hbe (hs₂.extBut b o hbe y))
  show wpAny _ _ (Builtin.SmallTypes.ownedTupleIsFree (.ref e) >>= _) _ _ ⟨h₄, g, d, tk + 1, os⟩
  rw [hsz]
  clear hh₄ he₃ hs₃ he₂ hs₂ he₁ hs₁ hit₁ hsz h₃ h₂ h₁
  refine wpAny_bind (wpAny_tupleHeld_enum (s := ⟨h₄, g, d, tk + 1, os⟩) he₄ (hk₄ T oT hTe hTi hT) fun h₅ he₅ hs₅ => ?_)
  replace hs₅ : Heap.SameBut e h₄ h₅ := hs₅
  simp only [Bool.false_eq_true, if_false]
  refine wpAny_pure ⟨_, rfl, hQ x h₅ tk hPx he₅ (D.frame _ _ _ hit₄ fun b hb o y => hs₅.extBut b o (fun q => hef (q ▸ hb)) y) (hs₅.extBut _ _ (Nat.ne_of_gt hel) ht₄) ?_ fun b o hbe hbi hb => hs₅.extBut b o hbe (hk₄ b o hbe hbi hb)⟩
  show h₅.objs.size = hp.objs.size + 1
  rw [hs₅.1, hz₄]
theorem le_pyNext {Q : Option Value → Shared → Prop} (D : Draws prog w A.in1 it fp n P St) (he : IsEnumHeld s.heap e it c old T f) (hT : s.heap.get? T = some oT) (hTe : T ≠ e) (hTi : T ≠ it) (hst : St i s.heap) (hlt : i < n) (hne : e ≠ it) (hef : e ∉ fp)
    (hQ : ∀ x h' tk, P i x → IsEnumHeld h' e it (c + 1) old T true → St (i + 1) h' →
      h'.get? s.heap.objs.size = some { cls := .type "tuple", data := .seq #[.int c tk, x] } → h'.objs.size = s.heap.objs.size + 1 →
      (∀ b o, b ≠ e → b ≠ it → s.heap.get? b = some o → h'.get? b = some o) → Q (some (.ref s.heap.objs.size)) { s with heap := h', toks := tk + 1 }) :
    wpAny (model prog w) A (pyNext (.ref e)) Q E s := by
  have hTy : s.TypeIs (.ref e) "enumerate" := ⟨_, he, rfl⟩
  unfold pyNext
  exact wpAny_bind (wpAny_attempt (wpAny_callSpecial?_slot (name := Str.ofString "__next__") hTy F.slot_enumerate_next
    (wpAny_call_entry F.slot_enumerate_next hTy F.entry_enumerate_next
      (le_next D he hT hTe hTi hst hlt hne hef fun x h' tk a1 a2 a3 a4 a5 a6 => wpAny_pure (hQ x h' tk a1 a2 a3 a4 a5 a6)) (F.args_enumerate_next_1 _))))
theorem le_pyEnd {Q : Option Value → Shared → Prop} (D : Draws prog w A.in1 it fp n P St) (he : IsEnumHeld s.heap e it c old T f) (hst : St n s.heap)
    (hQ : ∀ h', Heap.ExtBut it s.heap h' → Q none { s with heap := h' }) : wpAny (model prog w) A (pyNext (.ref e)) Q E s := by
  have hTy : s.TypeIs (.ref e) "enumerate" := ⟨_, he, rfl⟩
  unfold pyNext
  refine wpAny_bind (wpAny_attempt (wpAny_callSpecial?_slot (name := Str.ofString "__next__") hTy F.slot_enumerate_next
    (wpAny_call_entry F.slot_enumerate_next hTy F.entry_enumerate_next ?_ (F.args_enumerate_next_1 _))))
  show wpAny _ _ (field (.ref e) 2 >>= _) _ _ _
  refine wpAny_bind (wpAny_field he rfl (x := .ref it) rfl ?_)
  refine wpAny_bind (D.done _ _ _ hst fun h' x he' hx' => ?_)
  obtain ⟨o, ho, hc⟩ := hx'
  refine wpAny_bind (wpAny_isInstance (T := "StopIteration") (b := true) ⟨o, ho, hc⟩ isSubtype_stop ?_)
  exact wpAny_pure (hQ _ he')
theorem enumerate_no_len : typeLookup (.type "enumerate") "__len__" = pure none := am_miss_of_fast (by decide +kernel)
theorem enumerate_no_hint : typeLookup (.type "enumerate") "__length_hint__" = pure none := am_miss_of_fast (by decide +kernel)
theorem tup_enum {S a : Addr} (D : Draws prog w A.in1 it [it, a] n P St) (hne : e ≠ it) (hea : e ≠ a) (hS : S ≠ e ∧ S ≠ it ∧ S ≠ a) :
    TupSrc prog w A e S [e, it] n (fun i v => ∃ t, v = .int (i : Int) t) P (fun i h => St i h ∧ ((∃ old, IsEnum h e it (i : Int) old) ∨ ∃ old T f oT, IsEnumHeld h e it (i : Int) old T f ∧ h.get? T = some oT ∧ T ≠ e ∧ T ≠ it ∧ T ≠ S ∧ 0 < i)) where
  frame := fun i h h' st k => by
    obtain ⟨s1, s2, s3⟩ := hS
    obtain ⟨st1, hz⟩ := st
    refine ⟨D.frame _ _ _ st1 fun c hc o e' => ?_, ?_⟩
    · refine k c o (fun q => ?_) e'
      simp only [List.mem_cons, List.not_mem_nil, or_false] at hc
      rcases hc with r | r
      · exact s2 (q.symm.trans r)
      · exact s3 (q.symm.trans r)
    · rcases hz with ⟨old, hz⟩ | ⟨old, T, f, oT, hz, hT, r1, r2, r3, r4⟩
      · exact .inl ⟨old, k _ _ (Ne.symm s1) hz⟩
      · exact .inr ⟨old, T, f, oT, k _ _ (Ne.symm s1) hz, k _ _ r3 hT, r1, r2, r3, r4⟩
  item := fun i s Q E hi st hl hQ => by
    obtain ⟨st1, hz⟩ := st
    have lt : ∀ {c o}, s.heap.get? c = some o → s.heap.objs.size ≠ c := fun e => Nat.ne_of_gt (Heap.lt_size e)
    have x1 : s.heap.objs.size ≠ it := let ⟨_, e⟩ := D.live _ _ st1; lt e
    have ef : e ∉ [it, a] := fun m => by
      simp only [List.mem_cons, List.not_mem_nil, or_false] at m
      exact m.elim hne hea
    rcases hz with ⟨old, hz⟩ | ⟨old, T, f, oT, hz, hT, r1, r2, r3, r4⟩
    · refine wpAny_pyNext_enum_itemC D hz st1 hi hne ef fun u h' tk a0 a1 a2 a3 a4 hk => ?_
      exact hQ (.int i tk) u h' (tk + 1) ⟨tk, rfl⟩ a0 a3 ⟨a2, .inr ⟨u, s.heap.objs.size, false, _, a1, a3, lt hz, x1, Nat.ne_of_gt hl, Nat.succ_pos _⟩⟩
        fun c o hc e' => hk c o (fun x => hc (by simp [x])) (fun x => hc (by simp [x])) e'
    · refine le_pyNext D hz hT r1 r2 st1 hi hne ef fun u h' tk a0 a1 a2 a3 a4 hk => ?_
      exact hQ (.int i tk) u h' (tk + 1) ⟨tk, rfl⟩ a0 a3 ⟨a2, .inr ⟨old, T, true, oT, a1, hk _ _ r1 r2 hT, r1, r2, r3, Nat.succ_pos _⟩⟩
        fun c o hc e' => hk c o (fun x => hc (by simp [x])) (fun x => hc (by simp [x])) e'
  done := fun s Q E st hQ => by
    obtain ⟨st1, hz⟩ := st
    rcases hz with ⟨old, hz⟩ | ⟨old, T, f, oT, hz, hT, r1, r2, r3, r4⟩
    · exact wpAny_pyNext_enum_endD D hz st1 fun h' hx => hQ h' s.toks fun c o hc e' => hx c o (fun x => hc (by simp [x])) e'
    · exact le_pyEnd D hz st1 fun h' hx => hQ h' s.toks fun c o hc e' => hx c o (fun x => hc (by simp [x])) e'
end
end PySem
namespace Dl
open PySem PySem.Spec PyProof.Rows L2
def nums (n : Nat) : List V := (List.range n).map fun (i : Nat) => V.int (i : Int)
def tLe (K : PySem.W.Frag) (ta : TA) : TE := fun σ H Q => ta σ H fun vs H1 => ∃ (k1 : Bool) (a : Addr) (xs : List V), vs = [.ref a] ∧ SqK k1 K H1 a xs ∧ rLz H1 ((nums xs.length).zip xs) Q
theorem pe_le {X : Cx} (hc : X.calm = true) {e : Expr} {ta : TA} {p pos p2 pos2 : Pos} (hgl : Gl X "list") (hml : X.mg "list" = none) (hg : Gl X "enumerate") (hm : X.mg "enumerate" = none) (ha : PA X [e] ta)
    (na : starEach [.Call (.Name "enumerate" p2) [e] [] pos2] X.env = (false, eval (.Call (.Name "enumerate" p2) [e] [] pos2) X.env) :: starEach [] X.env := by rfl)
    (hs : starEach [e] X.env = (false, eval e X.env) :: starEach [] X.env := by rfl) :
    PE X (.Call (.Name "list" p) [.Call (.Name "enumerate" p2) [e] [] pos2] [] pos) (tLe X.K ta) := by
  refine ⟨fun pins s σ H Q I h => ?_⟩
  refine Call_ (ld_blt I hgl hml PyProof.Rows.boot_list (PyProof.Rows.callWith_type1 (args_cons (Call_ (ld_blt I hg hm boot_enumerate (PyProof.Rows.callWith_type1 (thn (ha.run pos2 pins s σ H _ I h) fun us s1 ⟨vs, H1, I1, r1, q1⟩ => ?_) hs rfl))) na) na))
  obtain ⟨k1, a, xs, ex, hqx, q⟩ := q1
  subst ex
  cases r1 with
  | cons r rr =>
    cases rr
    cases r
    have la := sqK_lt I1 hqx
    obtain ⟨G1, B1, g1⟩ := begK I1 hqx
    refine enum1_call B1 g1 fun h' he ho hk => args_nil ?_
    obtain ⟨its, St1, rv, D1, s1'⟩ := dr_itemA (it := s1.heap.objs.size) X.A.in1.in1.in1 (I1.ok.hd hc) I1 hqx (Nat.ne_of_lt la)
    have lx := rv.length
    have lt1 := Heap.lt_size he
    have T := tup_enum (S := h'.objs.size) (A := X.A.in1.in1) (e := s1.heap.objs.size + 1) D1 (Nat.succ_ne_self _) (Nat.ne_of_gt (Nat.lt_succ_of_lt la))
      ⟨Nat.ne_of_gt lt1, Nat.ne_of_gt (Nat.lt_of_succ_lt lt1), Nat.ne_of_gt (Nat.lt_trans la (Nat.lt_of_succ_lt lt1))⟩
    have zl : ((nums xs.length).zip xs).length = xs.length := by
      unfold nums
      rw [List.length_zip, List.length_map, List.length_range, Nat.min_self]
    have z := q.1
    rw [zl] at z
    refine W.lz_call (s := { s1 with heap := h' }) enumerate_no_len enumerate_no_hint (by decide) (by decide) T (by omega) (fun c hcm => ?_) (fun s' st => ?_) (fun B s' Q' E' st hq => ?_) ⟨s1' 0 h' (itK_new ho) hk, .inl ⟨_, he⟩⟩ lt1
      fun h'' tk acc c as hk' hS' hl hG hacc => ?_
    · show c < h'.objs.size
      simp only [List.mem_cons, List.not_mem_nil, or_false] at hcm
      rcases hcm with r | r
      · rw [r]; exact lt1
      · rw [r]; exact Nat.lt_of_succ_lt lt1
    · obtain ⟨_, hz⟩ := st
      rcases hz with ⟨old, hz⟩ | ⟨old, T, f, oT, hz, _⟩
      · exact ⟨_, hz, rfl⟩
      · exact ⟨_, hz, rfl⟩
    · obtain ⟨_, hz⟩ := st
      rcases hz with ⟨old, hz⟩ | ⟨old, T, f, oT, hz, _, _, _, _, bad⟩
      · exact wpAny_pyIter_enum hz hq
      · exact absurd bad (Nat.lt_irrefl _)
    · refine lz_done (s := s1) (h' := h'') I1 (fun b u e => hk' b u (fun m => ?_) (hk b u e)) (Nat.le_of_lt (Nat.lt_of_succ_lt lt1)) hS' (by rw [hl, zl]; omega) hG hacc (fun j p u q1 q2 => ?_) (fun j p u q1 q2 => ?_) q
      · have hb := Heap.lt_size e
        simp only [List.mem_cons, List.not_mem_nil, or_false] at m
        rcases m with r | r <;> (rw [r] at hb; first | exact absurd hb (Nat.lt_irrefl _) | exact absurd hb (Nat.not_lt.mpr (Nat.le_add_right ..)))
      · obtain ⟨x1, x2⟩ := zip_at q2
        obtain ⟨t, rfl⟩ := q1
        unfold nums at x1
        rw [List.getElem?_map] at x1
        obtain ⟨i, hi, ei⟩ := Option.map_eq_some_iff.mp x1
        have hj := (List.getElem?_eq_some_iff.mp hi).1
        rw [List.length_range] at hj
        rw [List.getElem?_range hj] at hi
        cases hi
        rw [← ei]
        exact ⟨t, rfl⟩
      · obtain ⟨x1, x2⟩ := zip_at q2
        obtain ⟨v, hv, rr⟩ := rv.get x2
        rw [q1] at hv
        cases hv
        exact rr
theorem rl_nums {K : PySem.W.Frag} {α : List Addr} {H : Hp} (n : Nat) : RlAll K α H (nums n) ((List.range n).map fun (i : Nat) => D.int (i : Int)) := by
  unfold nums
  generalize List.range n = l
  induction l with
  | nil => exact .nil
  | cons a l ih => exact .cons (.int _) ih
theorem zipIdx_range (xs : List D) : zipD ((List.range xs.length).map fun (i : Nat) => D.int (i : Int)) xs = enumD xs := by
  refine List.ext_getElem? fun i => ?_
  unfold zipD enumD
  rw [List.getElem?_zipWith, List.getElem?_map, List.getElem?_map, List.getElem?_zipIdx]
  by_cases c : i < xs.length
  · rw [List.getElem?_range c, List.getElem?_eq_getElem c]
    simp
  · rw [List.getElem?_eq_none (by rw [List.length_range]; omega), List.getElem?_eq_none (by omega)]
    rfl
/-- list(enumerate(x)) -/
def dlEn (d1 : DTE) : DTL := fun ρ μ Q => d1 ρ μ fun x μ1 => match src2 μ1 x with | some s => s.its.length ≤ sizeLine ∧ Q (enumD s.its) μ1 | _ => False
theorem dl_en {X : Cx} {e : Expr} {d1 : DTE} {p pos p2 pos2 : Pos} (hml : X.mg "list" = none) (hm : X.mg "enumerate" = none) (he : PED X e d1) (hc : X.calm = true := by rfl) (hgl : Gl X "list" := by rfl) (hg : Gl X "enumerate" := by rfl)
    (na : starEach [.Call (.Name "enumerate" p2) [e] [] pos2] X.env = (false, eval (.Call (.Name "enumerate" p2) [e] [] pos2) X.env) :: starEach [] X.env := by rfl)
    (hs : starEach [e] X.env = (false, eval e X.env) :: starEach [] X.env := by rfl) :
    PLD X (.Call (.Name "list" p) [.Call (.Name "enumerate" p2) [e] [] pos2] [] pos) (dlEn d1) := by
  obtain ⟨t1, a1, a2⟩ := he.ex
  refine ⟨_, pe_le hc hgl hml hg hm (pa_cons a1 pa_nil hs) na hs, fun α σ H ρ μ Qd Q S en h post => a2 α σ H ρ μ _ _ S en h fun v H1 α1 μ1 d g1 S1 r1 q1 => ?_⟩
  split at q1
  · rename_i s es
    obtain ⟨hd, k1, a, vs, rfl, q, L⟩ := kok_of S1 r1 es
    obtain ⟨xs, c1, c2⟩ := L.ok _ _ _ (Gr.refl α1 H1) S1 hd
    have zl : ((nums xs.length).zip xs).length = xs.length := by
      unfold nums
      rw [List.length_zip, List.length_map, List.length_range, Nat.min_self]
    refine ⟨k1, a, xs, rfl, c1, by rw [zl, c2.length]; exact q1.1, fun as p hl nd pn hp fr => ?_⟩
    obtain ⟨g3, S3, r3⟩ := add_rel S1 (rl_nums xs.length) c2 nd fr hl
    rw [c2.length, zipIdx_range] at r3
    rw [← c2.length] at r3
    exact (post.mono (g1.trans g3)).here S3 r3 q1.2 (by rw [addT_ne pn]; exact hp)
  · exact False.elim q1
end Dl
/-! Ez: for i, (a, b) in enumerate(zip(x, y)): the inner pairs are held by the outer ones. -/
namespace PySem
open Sem (wp)
open PySem.W
abbrev Zr (h : Heap) (z TI TO : Addr) (own : Value) (f : Bool) : Prop :=
  h.get? z = some { cls := .type "zip", dict := none, data := .fields #[own, .bool f, .bool false, .ref TI, .ref TO], slots := #[] }
/-- a zip that has or has not given out a pair -/
def Zs (h : Heap) (z TI TO : Addr) : Prop := (∃ x y, IsTupOf2 h TO x y) ∧ (IsZip h z TI TO .none ∨ ∃ (T : Addr) (f : Bool), IsZipHeld h z TI TO T f)
section
variable {prog : Program} {w : World} {A : Around} {E : Value → Shared → Prop} {s : Shared} {z TI TO T i1 i2 : Addr} {f : Bool} {fp1 fp2 : List Addr} {n1 n2 i : Nat} {P1 P2 : Nat → Value → Prop} {St1 St2 : Nat → Heap → Prop} {a1 a2 : Value}
theorem ld_dead {a : Addr} {Q : Option Obj → Shared → Prop} (ho : s.heap.get? a = none) (h : Q none s) : wpAny (model prog w) A (loadIfAlive a) Q E s := by
  have h' : Q (s.heap.get? a) s := by rw [ho]; exact h
  exact fun _ _ _ => h'
theorem free_dead {Q : Bool → Shared → Prop} (hz : IsZipHeld s.heap z TI TO T f) (hT : s.heap.get? T = none) (h : Q true s) : wpAny (model prog w) A (Builtin.SmallTypes.ownedTupleIsFree (.ref z)) Q E s := by
  unfold Builtin.SmallTypes.ownedTupleIsFree
  refine wpAny_bind (wpAny_field hz rfl (x := rawInt T) rfl ?_)
  show wpAny _ _ (loadIfAlive ((T : Int).toNat) >>= _) _ _ _
  rw [Int.toNat_natCast]
  refine wpAny_bind (ld_dead hT ?_)
  simp only [Option.isNone_none, if_true]
  exact wpAny_pure h
theorem zd_next {Q : Value → Shared → Prop} (S : ZipSep2 z TI TO i1 i2 fp1 fp2) (D1 : Draws prog w A i1 fp1 n1 P1 St1) (D2 : Draws prog w A i2 fp2 n2 P2 St2)
    (hz : IsZipHeld s.heap z TI TO T f) (hT : s.heap.get? T = none) (hTI : IsTupOf2 s.heap TI (.ref i1) (.ref i2)) (hTO : IsTupOf2 s.heap TO a1 a2) (st1 : St1 i s.heap) (st2 : St2 i s.heap) (hlt1 : i < n1) (hlt2 : i < n2)
    (hQ : ∀ x1 x2 h' tk, P1 i x1 → P2 i x2 → IsZip h' z TI TO (rawInt s.heap.objs.size) → IsTupOf2 h' TO x1 x2 → St1 (i + 1) h' → St2 (i + 1) h' → IsTupOf2 h' s.heap.objs.size x1 x2 → h'.objs.size = s.heap.objs.size + 1 →
      (∀ c o, c ≠ z → c ≠ TO → c ≠ i1 → c ≠ i2 → s.heap.get? c = some o → h'.get? c = some o) → Q (.ref s.heap.objs.size) { s with heap := h', toks := tk }) :
    wpAny (model prog w) A (Builtin.«zip.__next__» ⟨[.ref z], []⟩) (fun fin s' => ∃ v, fin = .done (.ret v) ∧ Q v s') E s := by
  obtain ⟨hp, g, d, tk0, os⟩ := s
  show wpAny _ _ (field (.ref z) 2 >>= _) _ _ _
  refine wpAny_bind (wpAny_field hz rfl (x := .bool false) rfl ?_)
  show wpAny _ _ (field (.ref z) 3 >>= _) _ _ _
  refine wpAny_bind (wpAny_field hz rfl (x := .ref TI) rfl ?_)
  refine wpAny_bind (wpAny_seqItems hTI rfl ?_)
  show wpAny _ _ (Builtin.SmallTypes.ownedTupleIsFree (.ref z) >>= _) _ _ _
  refine wpAny_bind (free_dead hz hT ?_)
  simp only [if_true]
  refine wpAny_bind (wpAny_rule ?_)
  refine wpAny_bind (wpAny_field hz rfl (x := .ref TO) rfl ?_)
  refine wpAny_bind (wpAny_setField_rec hz (by simp) fun g0 hz0 hs0 => ?_)
  replace hz0 : Zr g0 z TI TO .ellipsis f := hz0
  replace hs0 : Heap.SameBut z hp g0 := hs0
  refine wpAny_bind ?_
  simp only [List.zipIdx_cons, List.zipIdx_nil, List.forIn_cons, List.forIn_nil]
  refine wpAny_bind (wpAny_bind (wpAny_onRaise ?_))
  show wpAny _ _ (Builtin.SmallTypes.nextOf (.ref i1) >>= _) _ _ ⟨g0, g, d, tk0, os⟩
  refine wpAny_bind (D1.item i _ _ _ hlt1 (D1.over st1 hs0 S.zf1) fun x1 p1 tk1 hx1 sn1 hp1 => wpAny_pure ?_)
  replace hp1 : Heap.SameBut i1 g0 p1 := hp1
  have hU1 : IsTupOf2 p1 TO a1 a2 := hp1.extBut _ _ S.Ti1 (hs0.extBut _ _ S.TOz hTO)
  refine wpAny_bind (wpAny_seqItems (s := ⟨p1, g, d, tk1, os⟩) hU1 rfl ?_)
  refine wpAny_bind (updateSeq_IsTupOf2 (s := ⟨p1, g, d, tk1, os⟩) hU1 fun g1 hT1 hs1 => ?_)
  replace hT1 : IsTupOf2 g1 TO x1 a2 := hT1
  replace hs1 : Heap.SameBut TO p1 g1 := hs1
  refine wpAny_bind (wpAny_letGo (wpAny_pure ?_))
  refine wpAny_bind (wpAny_bind (wpAny_onRaise ?_))
  show wpAny _ _ (Builtin.SmallTypes.nextOf (.ref i2) >>= _) _ _ ⟨g1, g, d, tk1, os⟩
  refine wpAny_bind (D2.item i _ _ _ hlt2 (D2.over (D2.over (D2.over st2 hs0 S.zf2) hp1 S.sep1_2) hs1 S.Tf2) fun x2 p2 tk2 hx2 sn2 hp2 => wpAny_pure ?_)
  replace hp2 : Heap.SameBut i2 g1 p2 := hp2
  have hU2 : IsTupOf2 p2 TO x1 a2 := hp2.extBut _ _ S.Ti2 hT1
  refine wpAny_bind (wpAny_seqItems (s := ⟨p2, g, d, tk2, os⟩) hU2 rfl ?_)
  refine wpAny_bind (updateSeq_IsTupOf2 (s := ⟨p2, g, d, tk2, os⟩) hU2 fun g2 hT2 hs2 => ?_)
  replace hT2 : IsTupOf2 g2 TO x1 x2 := hT2
  replace hs2 : Heap.SameBut TO p2 g2 := hs2
  refine wpAny_bind (wpAny_letGo (wpAny_pure (wpAny_pure ?_)))
  refine wpAny_bind (wpAny_seqItems (s := ⟨g2, g, d, tk2, os⟩) hT2 rfl ?_)
  refine wpAny_bind (wpAny_newTuple ?_)
  have hsz : g2.objs.size = hp.objs.size := by rw [hs2.1, hp2.1, hs1.1, hp1.1, hs0.1]
  have hzz : Zr g2 z TI TO .ellipsis f := (hs2.extBut _ _ S.TOz.symm (hp2.extBut _ _ S.zi2 (hs1.extBut _ _ S.TOz.symm (hp1.extBut _ _ S.zi1 hz0))))
  have hkk : ∀ c o, c ≠ z → c ≠ TO → c ≠ i1 → c ≠ i2 → hp.get? c = some o → g2.get? c = some o := fun c o cz cT c1 c2 e =>
    (hs2.extBut _ _ cT (hp2.extBut _ _ c2 (hs1.extBut _ _ cT (hp1.extBut _ _ c1 (hs0.extBut _ _ cz e)))))
  have hj1 : St1 (i + 1) g2 := (D1.over (D1.over (D1.over sn1 hs1 S.Tf1) hp2 S.sep2_1) hs2 S.Tf1)
  have hj2 : St2 (i + 1) g2 := (D2.over sn2 hs2 S.Tf2)
  have hzlt : z < g2.objs.size := Heap.lt_size hzz
  show wpAny _ _ (Builtin.SmallTypes.ownedTupleHandOut (.ref z) (.ref g2.objs.size) >>= _) _ _ ⟨g2.push { cls := .type "tuple", data := .seq #[x1, x2] }, g, d, tk2, os⟩
  refine wpAny_bind ?_
  unfold Builtin.SmallTypes.ownedTupleHandOut
  have hz₆ : Zr (g2.push { cls := .type "tuple", data := .seq #[x1, x2] }) z TI TO .ellipsis f := Heap.get?_push_of_some _ hzz
  refine wpAny_bind (wpAny_setField_rec hz₆ (by simp) fun h₇ hz₇ hs₇ => ?_)
  replace hz₇ : Zr h₇ z TI TO (rawInt g2.objs.size) f := hz₇
  refine wpAny_setField_rec hz₇ (by simp) fun h₈ hz₈ hs₈ => ?_
  replace hz₈ : IsZip h₈ z TI TO (rawInt g2.objs.size) := hz₈
  replace hs₇ : Heap.SameBut z (g2.push { cls := .type "tuple", data := .seq #[x1, x2] }) h₇ := hs₇
  replace hs₈ : Heap.SameBut z h₇ h₈ := hs₈
  have up : ∀ c o, c ≠ z → g2.get? c = some o → h₈.get? c = some o := fun c o c1 e => hs₈.extBut _ _ c1 (hs₇.extBut _ _ c1 (Heap.get?_push_of_some _ e))
  have hT₈ : IsTupOf2 h₈ g2.objs.size x1 x2 := hs₈.extBut _ _ (Nat.ne_of_gt hzlt) (hs₇.extBut _ _ (Nat.ne_of_gt hzlt) (Heap.get?_push_size _ rfl))
  have hz8 : h₈.objs.size = g2.objs.size + 1 := by rw [hs₈.1, hs₇.1, Heap.size_push]
  rw [hsz] at hz₈ hT₈ hz8
  refine wpAny_pure ⟨_, rfl, ?_⟩
  show Q (.ref g2.objs.size) ⟨h₈, g, d, tk2, os⟩
  rw [hsz]
  exact hQ x1 x2 h₈ tk2 hx1 hx2 hz₈ (up _ _ S.TOz hT2) (D1.frame _ _ _ hj1 fun b hb o e => up b o (fun q => S.zf1 (q ▸ hb)) e) (D2.frame _ _ _ hj2 fun b hb o e => up b o (fun q => S.zf2 (q ▸ hb)) e) hT₈ hz8 fun c o cz cT c1 c2 e => up c o cz (hkk c o cz cT c1 c2 e)
theorem zd_end {Q : Fin → Shared → Prop} (S : ZipSep2 z TI TO i1 i2 fp1 fp2) (D1 : Draws prog w A i1 fp1 n1 P1 St1) (D2 : Draws prog w A i2 fp2 n2 P2 St2)
    (hz : IsZipHeld s.heap z TI TO T f) (hT : s.heap.get? T = none) (hTI : IsTupOf2 s.heap TI (.ref i1) (.ref i2)) (hTO : IsTupOf2 s.heap TO a1 a2) (st1 : St1 i s.heap) (st2 : St2 i s.heap) (hle1 : i ≤ n1) (hle2 : i ≤ n2) (hend : i = n1 ∨ i = n2)
    (hE : ∀ h' tk e, (∀ c o, c ≠ z → c ≠ TO → c ≠ i1 → c ≠ i2 → s.heap.get? c = some o → h'.get? c = some o) → (∃ o, h'.get? e = some o ∧ o.cls = .type "StopIteration") → E (.ref e) { s with heap := h', toks := tk }) :
    wpAny (model prog w) A (Builtin.«zip.__next__» ⟨[.ref z], []⟩) Q E s := by
  obtain ⟨hp, g, d, tk0, os⟩ := s
  show wpAny _ _ (field (.ref z) 2 >>= _) _ _ _
  refine wpAny_bind (wpAny_field hz rfl (x := .bool false) rfl ?_)
  show wpAny _ _ (field (.ref z) 3 >>= _) _ _ _
  refine wpAny_bind (wpAny_field hz rfl (x := .ref TI) rfl ?_)
  refine wpAny_bind (wpAny_seqItems hTI rfl ?_)
  show wpAny _ _ (Builtin.SmallTypes.ownedTupleIsFree (.ref z) >>= _) _ _ _
  refine wpAny_bind (free_dead hz hT ?_)
  simp only [if_true]
  refine wpAny_bind (wpAny_rule ?_)
  refine wpAny_bind (wpAny_field hz rfl (x := .ref TO) rfl ?_)
  refine wpAny_bind (wpAny_setField_rec hz (by simp) fun g0 hz0 hs0 => ?_)
  replace hz0 : Zr g0 z TI TO .ellipsis f := hz0
  replace hs0 : Heap.SameBut z hp g0 := hs0
  refine wpAny_bind ?_
  simp only [List.zipIdx_cons, List.zipIdx_nil, List.forIn_cons, List.forIn_nil]
  refine wpAny_bind (wpAny_bind (wpAny_onRaise ?_))
  show wpAny _ _ (Builtin.SmallTypes.nextOf (.ref i1) >>= _) _ _ ⟨g0, g, d, tk0, os⟩
  by_cases hlt1 : i < n1
  · refine wpAny_bind (D1.item i _ _ _ hlt1 (D1.over st1 hs0 S.zf1) fun x1 p1 tk1 hx1 sn1 hp1 => wpAny_pure ?_)
    replace hp1 : Heap.SameBut i1 g0 p1 := hp1
    have hU1 : IsTupOf2 p1 TO a1 a2 := hp1.extBut _ _ S.Ti1 (hs0.extBut _ _ S.TOz hTO)
    refine wpAny_bind (wpAny_seqItems (s := ⟨p1, g, d, tk1, os⟩) hU1 rfl ?_)
    refine wpAny_bind (updateSeq_IsTupOf2 (s := ⟨p1, g, d, tk1, os⟩) hU1 fun g1 hT1 hs1 => ?_)
    replace hT1 : IsTupOf2 g1 TO x1 a2 := hT1
    replace hs1 : Heap.SameBut TO p1 g1 := hs1
    refine wpAny_bind (wpAny_letGo (wpAny_pure ?_))
    have hi2 : i = n2 := by omega
    refine wpAny_bind (wpAny_bind (wpAny_onRaise ?_))
    show wpAny _ _ (Builtin.SmallTypes.nextOf (.ref i2) >>= _) _ _ ⟨g1, g, d, tk1, os⟩
    refine wpAny_bind (D2.done ⟨g1, g, d, tk1, os⟩ _ _ (by rw [← hi2]; exact (D2.over (D2.over (D2.over st2 hs0 S.zf2) hp1 S.sep1_2) hs1 S.Tf2)) fun q e hq he => ?_)
    replace hq : Heap.ExtBut i2 g1 q := hq
    obtain ⟨oe, hoe, hce⟩ := he
    replace hoe : q.get? e = some oe := hoe
    have hzq : Zr q z TI TO .ellipsis f := hq _ _ S.zi2 (hs1.extBut _ _ S.TOz.symm (hp1.extBut _ _ S.zi1 hz0))
    have hez : e ≠ z := fun x => by subst x; rw [hzq] at hoe; cases hoe; simp at hce
    refine wpAny_setField_rec (s := ⟨q, g, d, tk1, os⟩) hzq (by simp) fun q' _ hq' => ?_
    replace hq' : Heap.SameBut z q q' := hq'
    exact hE q' tk1 e (fun c o cz cT c1 c2 x => hq'.extBut _ _ cz (hq _ _ c2 (hs1.extBut _ _ cT (hp1.extBut _ _ c1 (hs0.extBut _ _ cz x))))) ⟨oe, hq'.extBut _ _ hez hoe, hce⟩
  · have hi1 : i = n1 := by omega
    refine wpAny_bind (D1.done ⟨g0, g, d, tk0, os⟩ _ _ (by rw [← hi1]; exact (D1.over st1 hs0 S.zf1)) fun q e hq he => ?_)
    replace hq : Heap.ExtBut i1 g0 q := hq
    obtain ⟨oe, hoe, hce⟩ := he
    replace hoe : q.get? e = some oe := hoe
    have hzq : Zr q z TI TO .ellipsis f := hq _ _ S.zi1 hz0
    have hez : e ≠ z := fun x => by subst x; rw [hzq] at hoe; cases hoe; simp at hce
    refine wpAny_setField_rec (s := ⟨q, g, d, tk0, os⟩) hzq (by simp) fun q' _ hq' => ?_
    replace hq' : Heap.SameBut z q q' := hq'
    exact hE q' tk0 e (fun c o cz cT c1 c2 x => hq'.extBut _ _ cz (hq _ _ c1 (hs0.extBut _ _ cz x))) ⟨oe, hq'.extBut _ _ hez hoe, hce⟩
/-- next(zip), whatever it has given out -/
theorem zs_nextOf {Q : Value → Shared → Prop} (S : ZipSep2 z TI TO i1 i2 fp1 fp2) (D1 : Draws prog w A.in1 i1 fp1 n1 P1 St1) (D2 : Draws prog w A.in1 i2 fp2 n2 P2 St2)
    (hz : Zs s.heap z TI TO) (hTI : IsTupOf2 s.heap TI (.ref i1) (.ref i2)) (st1 : St1 i s.heap) (st2 : St2 i s.heap) (hlt1 : i < n1) (hlt2 : i < n2)
    (hQ : ∀ x1 x2 h' tk, P1 i x1 → P2 i x2 → Zs h' z TI TO → St1 (i + 1) h' → St2 (i + 1) h' → IsTupOf2 h' s.heap.objs.size x1 x2 → h'.objs.size = s.heap.objs.size + 1 →
      (∀ c o, c ≠ z → c ≠ TO → c ≠ i1 → c ≠ i2 → s.heap.get? c = some o → h'.get? c = some o) → Q (.ref s.heap.objs.size) { s with heap := h', toks := tk }) :
    wpAny (model prog w) A (Builtin.SmallTypes.nextOf (.ref z)) Q E s := by
  obtain ⟨⟨x, y, hTO⟩, hz⟩ := hz
  have hTy : s.TypeIs (.ref z) "zip" := by
    rcases hz with hz | ⟨T, f, hz⟩
    · exact ⟨_, hz, rfl⟩
    · exact ⟨_, hz, rfl⟩
  unfold Builtin.SmallTypes.nextOf
  refine wpAny_bind (wpAny_callSpecial?_slot (name := Str.ofString "__next__") hTy F.slot_zip_next
    (wpAny_call_entry F.slot_zip_next hTy F.entry_zip_next ?_ (F.args_zip_next_1 _)))
  rcases hz with hz | ⟨T, f, hz⟩
  · exact zipD2_next_item S D1 D2 hz hTI hTO st1 st2 hlt1 hlt2 fun x1 x2 h' tk a0 a1 a2 a3 a4 a5 a6 a7 a8 => wpAny_pure (hQ x1 x2 h' tk a0 a1 ⟨⟨_, _, a3⟩, .inr ⟨s.heap.objs.size, false, a2⟩⟩ a4 a5 a6 a7 a8)
  · cases hT : s.heap.get? T with
    | some oT =>
      refine lz_next S D1 D2 hz hT hTI st1 st2 hlt1 hlt2 fun x1 x2 h' tk a0 a1 a2 a4 a5 a6 a7 a8 => wpAny_pure (hQ x1 x2 h' tk a0 a1 ⟨⟨x, y, a8 TO _ S.TOz S.Ti1 S.Ti2 hTO⟩, .inr ⟨T, true, a2⟩⟩ a4 a5 a6 a7 fun c o c1 _ c2 c3 e => a8 c o c1 c2 c3 e)
    | none => exact zd_next S D1 D2 hz hT hTI hTO st1 st2 hlt1 hlt2 fun x1 x2 h' tk a0 a1 a2 a3 a4 a5 a6 a7 a8 => wpAny_pure (hQ x1 x2 h' tk a0 a1 ⟨⟨_, _, a3⟩, .inr ⟨s.heap.objs.size, false, a2⟩⟩ a4 a5 a6 a7 a8)
theorem zs_endOf {Q : Value → Shared → Prop} (S : ZipSep2 z TI TO i1 i2 fp1 fp2) (D1 : Draws prog w A.in1 i1 fp1 n1 P1 St1) (D2 : Draws prog w A.in1 i2 fp2 n2 P2 St2)
    (hz : Zs s.heap z TI TO) (hTI : IsTupOf2 s.heap TI (.ref i1) (.ref i2)) (st1 : St1 i s.heap) (st2 : St2 i s.heap) (hle1 : i ≤ n1) (hle2 : i ≤ n2) (hend : i = n1 ∨ i = n2)
    (hE : ∀ h' tk e, (∀ c o, c ≠ z → c ≠ TO → c ≠ i1 → c ≠ i2 → s.heap.get? c = some o → h'.get? c = some o) → (∃ o, h'.get? e = some o ∧ o.cls = .type "StopIteration") → E (.ref e) { s with heap := h', toks := tk }) :
    wpAny (model prog w) A (Builtin.SmallTypes.nextOf (.ref z)) Q E s := by
  obtain ⟨⟨x, y, hTO⟩, hz⟩ := hz
  have hTy : s.TypeIs (.ref z) "zip" := by
    rcases hz with hz | ⟨T, f, hz⟩
    · exact ⟨_, hz, rfl⟩
    · exact ⟨_, hz, rfl⟩
  unfold Builtin.SmallTypes.nextOf
  refine wpAny_bind (wpAny_callSpecial?_slot (name := Str.ofString "__next__") hTy F.slot_zip_next
    (wpAny_call_entry F.slot_zip_next hTy F.entry_zip_next ?_ (F.args_zip_next_1 _)))
  rcases hz with hz | ⟨T, f, hz⟩
  · exact zipD2_next_end S D1 D2 hz hTI hTO st1 st2 hle1 hle2 hend hE
  · cases hT : s.heap.get? T with
    | some oT => exact lz_end S D1 D2 hz hT hTI st1 st2 hle1 hle2 hend fun h' tk e hk he => hE h' tk e (fun c o c1 _ c2 c3 x => hk c o c1 c2 c3 x) he
    | none => exact zd_end S D1 D2 hz hT hTI hTO st1 st2 hle1 hle2 hend hE
end
end PySem
namespace PySem
open Sem (wp)
open PySem.W
section
variable {prog : Program} {w : World} {A : Around} {E : Value → Shared → Prop} {s : Shared} {e z TI TO i1 i2 : Addr} {fp1 fp2 : List Addr} {n1 n2 i : Nat} {c : Int} {P1 P2 : Nat → Value → Prop} {St1 St2 : Nat → Heap → Prop} {old : Value}
/-- what the zip's own step leaves, and then the counter's -/
theorem ez_next {Q : Value → Shared → Prop} (S : ZipSep2 z TI TO i1 i2 fp1 fp2) (D1 : Draws prog w A.in1 i1 fp1 n1 P1 St1) (D2 : Draws prog w A.in1 i2 fp2 n2 P2 St2)
    (he : IsEnum s.heap e z c old) (hz : Zs s.heap z TI TO) (hTI : IsTupOf2 s.heap TI (.ref i1) (.ref i2)) (st1 : St1 i s.heap) (st2 : St2 i s.heap) (hlt1 : i < n1) (hlt2 : i < n2) (ne : e ≠ z ∧ e ≠ TO ∧ e ≠ i1 ∧ e ≠ i2)
    (hQ : ∀ x1 x2 h1 h2 tk tk2, P1 i x1 → P2 i x2 → Zs h1 z TI TO → St1 (i + 1) h1 → St2 (i + 1) h1 → IsTupOf2 h1 s.heap.objs.size x1 x2 → h1.objs.size = s.heap.objs.size + 1 →
      (∀ b o, b ≠ z → b ≠ TO → b ≠ i1 → b ≠ i2 → s.heap.get? b = some o → h1.get? b = some o) → IsEnumOut h2 e z (c + 1) (.ref s.heap.objs.size) h1.objs.size →
      h2.get? h1.objs.size = some { cls := .type "tuple", data := .seq #[.int c tk, .ref s.heap.objs.size] } → (∀ b o, b ≠ e → h1.get? b = some o → h2.get? b = some o) → Q (.ref h1.objs.size) { s with heap := h2, toks := tk2 }) :
    wpAny (model prog w) A (Builtin.«enumerate.__next__» ⟨[.ref e], []⟩) (fun fin s' => ∃ v, fin = .done (.ret v) ∧ Q v s') E s := by
  obtain ⟨hp, g, d, tk₀, os⟩ := s
  obtain ⟨ne1, ne2, ne3, ne4⟩ := ne
  show wpAny _ _ (field (.ref e) 2 >>= _) _ _ _
  refine wpAny_bind (wpAny_field he rfl (x := .ref z) rfl ?_)
  refine wpAny_bind (zs_nextOf S D1 D2 hz hTI st1 st2 hlt1 hlt2 fun x1 x2 h₁ tk hx1 hx2 hzs sn1 sn2 hp1 hsz1 hk1 => ?_)
  have he₁ : IsEnum h₁ e z c old := hk1 e _ ne1 ne2 ne3 ne4 he
  have hz1 : h₁.objs.size = hp.objs.size + 1 := hsz1
  replace hk1 : ∀ b o, b ≠ z → b ≠ TO → b ≠ i1 → b ≠ i2 → hp.get? b = some o → h₁.get? b = some o := hk1
  replace hp1 : IsTupOf2 h₁ hp.objs.size x1 x2 := hp1
  show wpAny _ _ (field (.ref e) 3 >>= _) _ _ ⟨h₁, g, d, tk, os⟩
  refine wpAny_bind (wpAny_field he₁ rfl (x := rawInt c) rfl ?_)
  show wpAny _ _ (field (.ref e) 4 >>= _) _ _ ⟨h₁, g, d, tk, os⟩
  refine wpAny_bind (wpAny_field he₁ rfl (x := .none) rfl ?_)
  show wpAny _ _ (mkInt c >>= _) _ _ ⟨h₁, g, d, tk, os⟩
  refine wpAny_bind (wpAny_mkInt ?_)
  show wpAny _ _ (setField (.ref e) 3 (rawInt (c + 1)) >>= _) _ _ ⟨h₁, g, d, tk + 1, os⟩
  refine wpAny_bind (wpAny_setField_rec he₁ (by simp) fun h₂ he₂ hs₂ => ?_)
  replace hs₂ : Heap.SameBut e h₁ h₂ := hs₂
  replace he₂ : IsEnum h₂ e z (c + 1) old := he₂
  show wpAny _ _ (setField (.ref e) 4 .none >>= _) _ _ ⟨h₂, g, d, tk + 1, os⟩
  refine wpAny_bind (wpAny_setField_rec he₂ (by simp) fun h₃ he₃ hs₃ => ?_)
  replace hs₃ : Heap.SameBut e h₂ h₃ := hs₃
  replace he₃ : IsEnum h₃ e z (c + 1) old := he₃
  show wpAny _ _ (newTuple [.int c tk, .ref hp.objs.size] >>= _) _ _ ⟨h₃, g, d, tk + 1, os⟩
  refine wpAny_bind (wpAny_newTuple ?_)
  have he₄ : IsEnum (h₃.push { cls := .type "tuple", data := .seq #[.int c tk, .ref hp.objs.size] }) e z (c + 1) old := Heap.get?_push_of_some _ he₃
  generalize hh₄ : h₃.push { cls := .type "tuple", data := .seq #[.int c tk, .ref hp.objs.size] } = h₄ at he₄
  have hsz : h₃.objs.size = h₁.objs.size := by rw [hs₃.1, hs₂.1]
  have hel : e < h₁.objs.size := Heap.lt_size he₁
  have ht₄ : h₄.get? h₁.objs.size = some { cls := .type "tuple", data := .seq #[.int c tk, .ref hp.objs.size] } := by rw [← hh₄, ← hsz]; exact Heap.get?_push_size _ rfl
  have hk₄ : ∀ b o, b ≠ e → h₁.get? b = some o → h₄.get? b = some o := fun b o hbe hb => by
    rw [← hh₄]; exact Heap.get?_push_of_some _ (hs₃.extBut b o hbe (hs₂.extBut b o hbe hb))
  show wpAny _ _ (Builtin.SmallTypes.ownedTupleIsFree (.ref e) >>= _) _ _ ⟨h₄, g, d, tk + 1, os⟩
  rw [hsz]
  clear hh₄ he₃ hs₃ he₂ hs₂ hsz h₃ h₂
  refine wpAny_bind ?_
  · unfold Builtin.SmallTypes.ownedTupleIsFree
    refine wpAny_bind (wpAny_field he₄ rfl (x := .none) rfl (wpAny_pure ?_))
    simp only [if_true]
    refine wpAny_bind (wpAny_rule ?_)
    refine wpAny_bind (wpAny_field he₄ rfl (x := old) rfl ?_)
    refine wpAny_bind (wpAny_setField_rec he₄ (by simp) fun h₅ he₅ hs₅ => ?_)
    replace hs₅ : Heap.SameBut e h₄ h₅ := hs₅
    replace he₅ : IsEnum h₅ e z (c + 1) (.ref hp.objs.size) := he₅
    show wpAny _ _ (Builtin.SmallTypes.ownedTupleHandOut (.ref e) (.ref h₁.objs.size) >>= _) _ _ ⟨h₅, g, d, tk + 1, os⟩
    refine wpAny_bind ?_
    · unfold Builtin.SmallTypes.ownedTupleHandOut
      refine wpAny_bind (wpAny_setField_rec he₅ (by simp) fun h₆ he₆ hs₆ => ?_)
      replace hs₆ : Heap.SameBut e h₅ h₆ := hs₆
      replace he₆ : IsEnumOut h₆ e z (c + 1) (.ref hp.objs.size) h₁.objs.size := he₆
      refine wpAny_setField_rec he₆ (by simp) fun h₇ he₇ hs₇ => ?_
      replace hs₇ : Heap.SameBut e h₆ h₇ := hs₇
      replace he₇ : IsEnumOut h₇ e z (c + 1) (.ref hp.objs.size) h₁.objs.size := he₇
      refine wpAny_bind (wpAny_letGo (wpAny_pure ⟨_, rfl, hQ x1 x2 h₁ h₇ tk (tk + 1) hx1 hx2 hzs sn1 sn2 hp1 hz1 hk1 he₇ ?_ ?_⟩))
      · exact hs₇.extBut _ _ (Nat.ne_of_gt hel) (hs₆.extBut _ _ (Nat.ne_of_gt hel) (hs₅.extBut _ _ (Nat.ne_of_gt hel) ht₄))
      · exact fun b o hbe hb => hs₇.extBut b o hbe (hs₆.extBut b o hbe (hs₅.extBut b o hbe (hk₄ b o hbe hb)))
theorem ez_pyNext {Q : Option Value → Shared → Prop} (S : ZipSep2 z TI TO i1 i2 fp1 fp2) (D1 : Draws prog w A.in1.in1 i1 fp1 n1 P1 St1) (D2 : Draws prog w A.in1.in1 i2 fp2 n2 P2 St2)
    (he : IsEnum s.heap e z c old) (hz : Zs s.heap z TI TO) (hTI : IsTupOf2 s.heap TI (.ref i1) (.ref i2)) (st1 : St1 i s.heap) (st2 : St2 i s.heap) (hlt1 : i < n1) (hlt2 : i < n2) (ne : e ≠ z ∧ e ≠ TO ∧ e ≠ i1 ∧ e ≠ i2)
    (hQ : ∀ x1 x2 h1 h2 tk tk2, P1 i x1 → P2 i x2 → Zs h1 z TI TO → St1 (i + 1) h1 → St2 (i + 1) h1 → IsTupOf2 h1 s.heap.objs.size x1 x2 → h1.objs.size = s.heap.objs.size + 1 →
      (∀ b o, b ≠ z → b ≠ TO → b ≠ i1 → b ≠ i2 → s.heap.get? b = some o → h1.get? b = some o) → IsEnumOut h2 e z (c + 1) (.ref s.heap.objs.size) h1.objs.size →
      h2.get? h1.objs.size = some { cls := .type "tuple", data := .seq #[.int c tk, .ref s.heap.objs.size] } → (∀ b o, b ≠ e → h1.get? b = some o → h2.get? b = some o) → Q (some (.ref h1.objs.size)) { s with heap := h2, toks := tk2 }) :
    wpAny (model prog w) A (pyNext (.ref e)) Q E s := by
  have hTy : s.TypeIs (.ref e) "enumerate" := ⟨_, he, rfl⟩
  unfold pyNext
  exact wpAny_bind (wpAny_attempt (wpAny_callSpecial?_slot (name := Str.ofString "__next__") hTy F.slot_enumerate_next
    (wpAny_call_entry F.slot_enumerate_next hTy F.entry_enumerate_next
      (ez_next S D1 D2 he hz hTI st1 st2 hlt1 hlt2 ne fun x1 x2 h1 h2 tk tk2 a0 a1 a2 a3 a4 a5 a6 a7 a8 a9 b0 => wpAny_pure (hQ x1 x2 h1 h2 tk tk2 a0 a1 a2 a3 a4 a5 a6 a7 a8 a9 b0)) (F.args_enumerate_next_1 _))))
theorem ez_pyEnd {Q : Option Value → Shared → Prop} (S : ZipSep2 z TI TO i1 i2 fp1 fp2) (D1 : Draws prog w A.in1.in1 i1 fp1 n1 P1 St1) (D2 : Draws prog w A.in1.in1 i2 fp2 n2 P2 St2)
    (he : IsEnum s.heap e z c old) (hz : Zs s.heap z TI TO) (hTI : IsTupOf2 s.heap TI (.ref i1) (.ref i2)) (st1 : St1 i s.heap) (st2 : St2 i s.heap) (hle1 : i ≤ n1) (hle2 : i ≤ n2) (hend : i = n1 ∨ i = n2)
    (hQ : ∀ h' tk, (∀ c o, c ≠ z → c ≠ TO → c ≠ i1 → c ≠ i2 → s.heap.get? c = some o → h'.get? c = some o) → Q none { s with heap := h', toks := tk }) : wpAny (model prog w) A (pyNext (.ref e)) Q E s := by
  have hTy : s.TypeIs (.ref e) "enumerate" := ⟨_, he, rfl⟩
  unfold pyNext
  refine wpAny_bind (wpAny_attempt (wpAny_callSpecial?_slot (name := Str.ofString "__next__") hTy F.slot_enumerate_next
    (wpAny_call_entry F.slot_enumerate_next hTy F.entry_enumerate_next ?_ (F.args_enumerate_next_1 _))))
  show wpAny _ _ (field (.ref e) 2 >>= _) _ _ _
  refine wpAny_bind (wpAny_field he rfl (x := .ref z) rfl ?_)
  refine wpAny_bind (zs_endOf S D1 D2 hz hTI st1 st2 hle1 hle2 hend fun h' tk x hk hx' => ?_)
  obtain ⟨o, ho, hc⟩ := hx'
  refine wpAny_bind (wpAny_isInstance (T := "StopIteration") (b := true) ⟨o, ho, hc⟩ isSubtype_stop ?_)
  exact wpAny_pure (hQ _ _ hk)
theorem enumZ_meets (z TI TO : Addr) :
    Meets (Builtin.«enumerate.__new__» ⟨[.type "enumerate", .ref z], []⟩) (fun _ R s => IsZip s.heap z TI TO .none ∧
      R (.ok (.ret (.ref s.heap.objs.size))) { s with heap := s.heap.push { cls := .type "enumerate", data := .fields #[.none, .bool false, .ref z, rawInt 0, .none, .none] } }) :=
  .of_wp fun prog w A R s hh => by
    obtain ⟨hp, g, d, tk, os⟩ := s
    obtain ⟨g1, hh⟩ := hh
    have hsub := sub_enumerate
    have go : ∀ {A' : Around} {E : Value → Shared → Prop} {Q : Value → Shared → Prop}, Q (.ref z) ⟨hp, g, d, tk, os⟩ → wpAny (model prog w) A' (pyIter (.ref z)) Q E ⟨hp, g, d, tk, os⟩ :=
      fun q => wpAny_pyIter_zip (s := ⟨hp, g, d, tk, os⟩) g1 q
    wp_walk using go
    refine wpAny_stack_any fun st => wpAny_pure ?_
    split
    · rename_i c _ _ _ _ _
      cases (c == Value.type "enumerate") <;>
      · wp_walk using go
        exact ⟨_, rfl, hh⟩
    · wp_walk using go
      exact ⟨_, rfl, hh⟩
theorem enumZ_call {Q : Value → Shared → Prop} (g : IsZip s.heap z TI TO .none)
    (hh : ∀ h', IsEnum h' s.heap.objs.size z 0 .none → h'.objs.size = s.heap.objs.size + 1 → (∀ b ob, s.heap.get? b = some ob → h'.get? b = some ob) → Q (.ref s.heap.objs.size) { s with heap := h' }) :
    wpAny (model prog w) A (call (.type "enumerate") [.ref z]) Q E s := by
  refine callType_new F.called_enumerate (by decide) (F.typeCall_enumerate_1 _) (F.newCall_enumerate_1 _) (fun ob => F.args_object_init_2 ob _) F.entry_enumerate_new (enumZ_meets z TI TO) ⟨g, ?_⟩
  have e0 := Heap.get?_push_size s.heap (o := { cls := .type "enumerate", data := .fields #[.none, .bool false, .ref z, rawInt 0, .none, .none] }) rfl
  exact ⟨⟨_, e0, rfl⟩, hh _ e0 (Heap.size_push ..) fun b ob q => Heap.get?_push_of_some _ q⟩
end
end PySem
namespace Dl
open PySem PySem.Spec PyProof.Rows L2
section
variable {X : Cx} {pins : List (Addr × Obj)} {σ : L2.St} {H : Hp} {s : Shared} {a it : Addr} {k : Bool} {xs : List V}
theorem dr_doneA {i : Nat} (A : Around) (hh : A.handled = none) (I : Inv X pins σ H s) (h : SqK k X.K H a xs) (hne : a ≠ it) (hle : xs.length ≤ i) (hit : ItK k s.heap it a i) : ∃ (Pv : Nat → Value → Prop) (St : Nat → Heap → Prop), Draws X.prog X.w A it [it, a] i Pv St ∧ St i s.heap := by
  cases k
  · obtain ⟨its, r, p, z⟩ := I.tuple h
    have l := r.length
    have hm : its.toArray[i]? = none := by rw [List.getElem?_toArray]; exact List.getElem?_eq_none (by omega)
    exact ⟨_, _, draws_done (P := X.prog) (w := X.w) (A := A) hh hne hm, rfl, hit, p⟩
  · obtain ⟨its, r, p, z⟩ := I.list h
    have l := r.length
    have hm : its.toArray[i]? = none := by rw [List.getElem?_toArray]; exact List.getElem?_eq_none (by omega)
    exact ⟨_, _, draws_doneL (P := X.prog) (w := X.w) (A := A) hh hne hm, rfl, hit, p.isList⟩
theorem dr_endA (i : Nat) (A : Around) (hh : A.handled = none) (I : Inv X pins σ H s) (h : SqK k X.K H a xs) (hne : a ≠ it) (hit : ItK k s.heap it a i) : ∃ (n : Nat) (Pv : Nat → Value → Prop) (St : Nat → Heap → Prop), Draws X.prog X.w A it [it, a] n Pv St ∧ St i s.heap ∧ i ≤ n ∧ (xs.length ≤ i → i = n) := by
  by_cases l : xs.length ≤ i
  · obtain ⟨P1, St1, D1, s1⟩ := dr_doneA A hh I h hne l hit
    exact ⟨_, _, _, D1, s1, Nat.le_refl _, fun _ => rfl⟩
  · obtain ⟨its, St1, rv, D1, s1⟩ := dr_itemA (it := it) A hh I h hne
    have := rv.length
    exact ⟨_, _, _, D1, s1 i s.heap hit fun _ _ e => e, by omega, fun z => absurd z l⟩
theorem dr_itemB (A : Around) (hh : A.handled = none) (I : Inv X pins σ H s) (h : SqK k X.K H a xs) (hne : a ≠ it) : ∃ (its : List Value) (St : Nat → Heap → Prop), Vals xs its ∧ Draws X.prog X.w A it [it, a] its.length (fun i v => its[i]? = some v) St ∧
    (∀ i, ItK k s.heap it a i → St i s.heap) ∧ ∀ i h', St i h' → ItK k h' it a i := by
  cases k
  · obtain ⟨its, r, p, z⟩ := I.tuple h
    have D := Draws.tuple (prog := X.prog) (w := X.w) (A := A) hh it a hne its.toArray
    simp only [List.size_toArray, List.getElem?_toArray] at D
    exact ⟨its, _, r, D, fun i q => ⟨q, p⟩, fun i h' st => st.1⟩
  · obtain ⟨its, r, p, z⟩ := I.list h
    have D := Draws.list (prog := X.prog) (w := X.w) (A := A) hh it a hne its.toArray
    simp only [List.size_toArray, List.getElem?_toArray] at D
    exact ⟨its, _, r, D, fun i q => ⟨q, p.isList⟩, fun i h' st => st.1⟩
end
def Ize (K : PySem.W.Frag) (k1 k2 : Bool) (a b : Addr) : It :=
  ⟨fun i H => ∃ (xs ys : List V) (x y : V), SqK k1 K H a xs ∧ SqK k2 K H b ys ∧ xs[i]? = some x ∧ ys[i]? = some y,
    fun i H v H' => ∃ T U x y, v = .ref U ∧ H T = none ∧ upd H T (.tup [x, y]) U = none ∧ H' = upd (upd H T (.tup [x, y])) U (.tup [.int (i : Nat), .ref T]) ∧ (∀ xs, SqK k1 K H a xs → xs[i]? = some x) ∧ ∀ ys, SqK k2 K H b ys → ys[i]? = some y,
    fun i H => ∃ xs ys : List V, SqK k1 K H a xs ∧ SqK k2 K H b ys ∧ (xs.length ≤ i ∨ ys.length ≤ i)⟩
theorem turn_ez {P : Program} {w : World} {K : PySem.W.Frag} {elts : List Expr} {kk : Nat} {tpos : Pos} {k1 k2 : Bool} {a b e z TI TO i1 i2 : Addr} (D : ZipSep2 z TI TO i1 i2 [i1, a] [i2, b]) (ne1 : a ≠ i1) (ne2 : b ≠ i2) (ne : e ≠ z ∧ e ≠ TO ∧ e ≠ i1 ∧ e ≠ i2) (nTI : TI ≠ e) :
    Turn P w K (.Tuple elts kk tpos) (Ize K k1 k2 a b) [e, z, TI, TO, i1, i2] e (fun i h => (∃ old, IsEnum h e z ((i : Nat) : Int) old) ∧ Zs h z TI TO ∧ IsTupOf2 h TI (.ref i1) (.ref i2) ∧ ItK k1 h i1 a i ∧ ItK k2 h i2 b i) where
  mem := by simp
  obj := fun i h st c hc => by
    obtain ⟨⟨old, he⟩, ⟨⟨x, y, hTO⟩, hz⟩, hTI, h1, h2⟩ := st
    have e' : c = e ∨ c = z ∨ c = TI ∨ c = TO ∨ c = i1 ∨ c = i2 := by simpa using hc
    rcases e' with q | q | q | q | q | q
    · rw [q]; exact ⟨_, he, fun v q => nomatch q⟩
    · rw [q]
      rcases hz with hz | ⟨T, f, hz⟩
      · exact ⟨_, hz, fun v q => nomatch q⟩
      · exact ⟨_, hz, fun v q => nomatch q⟩
    · rw [q]; exact ⟨_, hTI, fun v q => nomatch q⟩
    · rw [q]; exact ⟨_, hTO, fun v q => nomatch q⟩
    · rw [q]; exact itK_obj h1
    · rw [q]; exact itK_obj h2
  keep := fun i h h' st k => by
    obtain ⟨⟨old, he⟩, ⟨⟨x, y, hTO⟩, hz⟩, hTI, h1, h2⟩ := st
    refine ⟨⟨old, k e (by simp) _ he⟩, ⟨⟨x, y, k TO (by simp) _ hTO⟩, ?_⟩, k TI (by simp) _ hTI, itK_at h1 fun o q => k i1 (by simp) o q, itK_at h2 fun o q => k i2 (by simp) o q⟩
    rcases hz with hz | ⟨T, f, hz⟩
    · exact .inl (k z (by simp) _ hz)
    · exact .inr ⟨T, f, k z (by simp) _ hz⟩
  item := by
    intro X hP hw hK hc i pins s σ H E I hf st hg
    subst hP hw hK
    obtain ⟨⟨old, he⟩, hz, hTI, h1, h2⟩ := st
    obtain ⟨xs, ys, x, y, hqx, hqy, hx, hy⟩ := hg
    obtain ⟨its, St1, rv, D1, s1, t1⟩ := dr_itemB (it := i1) X.A.in1.in1 (I.ok.hd hc) I hqx ne1
    obtain ⟨its2, St2, rv2, D2, s2, t2⟩ := dr_itemB (it := i2) X.A.in1.in1 (I.ok.hd hc) I hqy ne2
    have hel : e < s.heap.objs.size := Heap.lt_size he
    have lx := rv.length
    have ly := rv2.length
    refine ez_pyNext D D1 D2 he hz hTI (s1 i h1) (s2 i h2) (by have := (List.getElem?_eq_some_iff.mp hx).1; omega) (by have := (List.getElem?_eq_some_iff.mp hy).1; omega) ne fun u u2 g1 g2 tk tk2 hu hu2 zs' st1' st2' hT sz1 hk1 eo hU hk2 => ?_
    obtain ⟨v, hv, ru⟩ := rv.get hx
    obtain ⟨v2, hv2, ru2⟩ := rv2.get hy
    rw [hv] at hu
    rw [hv2] at hu2
    cases hu
    cases hu2
    refine ⟨_, rfl, wpAny_letOwnedTupleGo_enum (s := { s with heap := g2, toks := tk2 }) eo fun h'' he'' sb => ?_⟩
    replace sb : Heap.SameBut e g2 h'' := sb
    have e1 : e < g1.objs.size := by rw [sz1]; exact Nat.lt_succ_of_lt hel
    have new1 : ObjOk X.prog X.w (upd H s.heap.objs.size (.tup [x, y])) g1 s.heap.objs.size (.tup [x, y]) :=
      ⟨by show 2 ≤ sizeLine; decide, [u, u2], .cons ru (.cons ru2 .nil), ⟨_, hT, rfl, _, rfl⟩⟩
    have sub4 : ∀ c, c ∈ [z, TO, i1, i2] → c ∈ [e, z, TI, TO, i1, i2] := fun c hc => by
      simp only [List.mem_cons, List.not_mem_nil, or_false] at hc ⊢
      rcases hc with q | q | q | q <;> simp [q]
    have I1 : Inv X pins σ (upd H s.heap.objs.size (.tup [x, y])) { s with heap := g1, toks := tk2 } :=
      I.turnedNew (t' := tk2) (ch := [z, TO, i1, i2]) (fun c o hb q => hk1 c o (fun q' => hb (by simp [q'])) (fun q' => hb (by simp [q'])) (fun q' => hb (by simp [q'])) (fun q' => hb (by simp [q'])) q) (fun c hc => hf c (sub4 c hc)) (Nat.le_refl _) new1
    have lt : ∀ c, c ∈ [e, z, TI, TO, i1, i2] → c < s.heap.objs.size := fun c hcm => by
      obtain ⟨⟨x0, y0, hTO⟩, hzz⟩ := hz
      have e' : c = e ∨ c = z ∨ c = TI ∨ c = TO ∨ c = i1 ∨ c = i2 := by simpa using hcm
      rcases e' with q | q | q | q | q | q
      · rw [q]; exact hel
      · rw [q]
        rcases hzz with hzz | ⟨T, f, hzz⟩
        · exact Heap.lt_size hzz
        · exact Heap.lt_size hzz
      · rw [q]; exact Heap.lt_size hTI
      · rw [q]; exact Heap.lt_size hTO
      · rw [q]; obtain ⟨_, e1, _⟩ := itK_obj h1; exact Heap.lt_size e1
      · rw [q]; obtain ⟨_, e2, _⟩ := itK_obj h2; exact Heap.lt_size e2
    have h1n : ∀ c, c ∈ [e, z, TI, TO, i1, i2] → upd H s.heap.objs.size (.tup [x, y]) c = none := fun c hcm => by
      rw [L2.upd_ne (Nat.ne_of_lt (lt c hcm))]
      exact (hf c hcm).1
    have hU2 : h''.get? g1.objs.size = some { cls := .type "tuple", data := .seq #[.int i tk, .ref s.heap.objs.size] } := (sb.2 _ (Nat.ne_of_gt e1)).trans hU
    have new2 : ObjOk X.prog X.w (upd (upd H s.heap.objs.size (.tup [x, y])) g1.objs.size (.tup [.int (i : Nat), .ref s.heap.objs.size])) h'' g1.objs.size (.tup [.int (i : Nat), .ref s.heap.objs.size]) :=
      ⟨by show 2 ≤ sizeLine; decide, [.int i tk, .ref s.heap.objs.size], .cons ⟨_, rfl⟩ (.cons rfl .nil), ⟨_, hU2, rfl, _, rfl⟩⟩
    have I2 : Inv X pins σ (upd (upd H s.heap.objs.size (.tup [x, y])) g1.objs.size (.tup [.int (i : Nat), .ref s.heap.objs.size])) { s with heap := h'', toks := tk2 } :=
      Inv.turnedNew (s := { s with heap := g1, toks := tk2 }) I1 (t' := tk2) (ch := [e]) (fun c o hb q => (sb.2 c (fun q' => hb (by simp [q']))).trans (hk2 c o (fun q' => hb (by simp [q'])) q)) (fun c hc => by
        rw [List.mem_singleton.mp hc]
        exact ⟨h1n e (by simp), (hf e (by simp)).2⟩) (Nat.le_refl _) new2
    have fin : ∀ c o, c ≠ e → g1.get? c = some o → h''.get? c = some o := fun c o hc q => (sb.2 c hc).trans (hk2 c o hc q)
    have uf : upd H s.heap.objs.size (.tup [x, y]) g1.objs.size = none := by
      rw [L2.upd_ne (by rw [sz1]; exact Nat.succ_ne_self _)]
      exact I.hok.fresh (by rw [sz1]; exact Nat.le_succ _)
    refine ⟨.ref g1.objs.size, _, I2, rfl, ⟨s.heap.objs.size, g1.objs.size, x, y, rfl, I.hok.fresh (Nat.le_refl _), uf, rfl, fun l hl => by rw [sqK_inj I hl hqx]; exact hx, fun l hl => by rw [sqK_inj I hl hqy]; exact hy⟩, ⟨⟨.ref s.heap.objs.size, ?_⟩, ?_, ?_, ?_, ?_⟩, fun c hcm => ?_⟩
    · rw [show ((i + 1 : Nat) : Int) = (i : Int) + 1 by omega]
      exact he''
    · obtain ⟨⟨x1, y1, hTO⟩, hzz⟩ := zs'
      refine ⟨⟨x1, y1, fin _ _ (Ne.symm ne.2.1) hTO⟩, ?_⟩
      rcases hzz with hzz | ⟨T, f, hzz⟩
      · exact .inl (fin _ _ (Ne.symm ne.1) hzz)
      · exact .inr ⟨T, f, fin _ _ (Ne.symm ne.1) hzz⟩
    · exact fin _ _ nTI (hk1 _ _ D.TIz D.TITO D.TIi1 D.TIi2 hTI)
    · exact itK_at (t1 _ _ st1') fun o q => fin _ _ (Ne.symm ne.2.2.1) q
    · exact itK_at (t2 _ _ st2') fun o q => fin _ _ (Ne.symm ne.2.2.2) q
    · rw [L2.upd_ne (Nat.ne_of_lt (by rw [sz1]; exact Nat.lt_succ_of_lt (lt c hcm)))]
      exact h1n c hcm
  done := by
    intro X hP hw hK hc i pins s σ H E I hf st hg
    subst hP hw hK
    obtain ⟨⟨old, he⟩, hz, hTI, h1, h2⟩ := st
    obtain ⟨xs, ys, hqx, hqy, hend⟩ := hg
    obtain ⟨n1, P1, St1, D1, s1, l1, m1⟩ := dr_endA i X.A.in1.in1 (I.ok.hd hc) I hqx ne1 h1
    obtain ⟨n2, P2, St2, D2, s2, l2, m2⟩ := dr_endA i X.A.in1.in1 (I.ok.hd hc) I hqy ne2 h2
    refine ez_pyEnd D D1 D2 he hz hTI s1 s2 l1 l2 (hend.imp m1 m2) fun h' tk hk => ⟨rfl, I.turnedL (t' := tk) (ch := [e, z, TI, TO, i1, i2]) (fun c o hb q => hk c o (fun q' => hb (by simp [q'])) (fun q' => hb (by simp [q'])) (fun q' => hb (by simp [q'])) (fun q' => hb (by simp [q'])) q) hf⟩
  self := fun A i s Q E st h => let ⟨⟨_, he⟩, _⟩ := st; wpAny_pyIter_enum he h
def iEz (K : PySem.W.Frag) (ta : TA) : TI := fun σ H R => ta σ H fun vs H1 => ∃ (k1 k2 : Bool) (a b : Addr) (xs ys : List V), vs = [.ref a, .ref b] ∧ SqK k1 K H1 a xs ∧ SqK k2 K H1 b ys ∧ R (Ize K k1 k2 a b) H1
theorem sep6 (I a b : Nat) (h1 : a < I) (h2 : b < I) : (I + 5 ≠ I + 4 ∧ I + 5 ≠ I + 3 ∧ I + 5 ≠ I ∧ I + 5 ≠ I + 1) ∧ I + 2 ≠ I + 5 := by omega
theorem pi_ez {X : Cx} {e e2 : Expr} {ta : TA} {p pos p2 pos2 tpos : Pos} {elts : List Expr} {kk : Nat} (hge : Gl X "enumerate") (hme : X.mg "enumerate" = none) (hg : Gl X "zip") (hm : X.mg "zip" = none) (ha : PA X [e, e2] ta)
    (na : starEach [.Call (.Name "zip" p2) [e, e2] [] pos2] X.env = (false, eval (.Call (.Name "zip" p2) [e, e2] [] pos2) X.env) :: starEach [] X.env := by rfl)
    (hs : starEach [e, e2] X.env = (false, eval e X.env) :: starEach [e2] X.env := by rfl) (hpl : (backTo pos2 (starEach [e2] X.env)).any (·.1) = false := by rfl) :
    PI X (.Tuple elts kk tpos) (.Call (.Name "enumerate" p) [.Call (.Name "zip" p2) [e, e2] [] pos2] [] pos) (iEz X.K ta) := by
  refine ⟨fun pins s σ H R I h => ?_⟩
  refine Call_ (ld_blt I hge hme boot_enumerate (PyProof.Rows.callWith_type1 (args_cons (Call_ (ld_blt I hg hm PyProof.Rows.boot_zip (PyProof.Rows.callWith_type1 (thn (ha.run pos2 pins s σ H _ I h) fun us s1 ⟨vs, H1, I1, r1, q1⟩ => ?_) hs hpl))) na) na))
  obtain ⟨k1, k2, a, b, xs, ys, ex, hqx, hqy, q⟩ := q1
  subst ex
  cases r1 with
  | cons r rr =>
    cases rr with
    | cons r' rr =>
      cases rr
      cases r
      cases r'
      have la := sqK_lt I1 hqx
      have lb := sqK_lt I1 hqy
      obtain ⟨G1, B1, g1⟩ := begK I1 hqx
      obtain ⟨G2, B2, g2⟩ := begK I1 hqy
      refine zip_begins2 B1 B2 g1 g2 fun h' hz hTI hTO e1 e2 hsz hk => args_nil ?_
      refine enumZ_call (s := { s1 with heap := h' }) hz fun h2 he hsz2 hk2 => wpAny_pyIter_enum he ?_
      replace hk2 : ∀ b ob, h'.get? b = some ob → h2.get? b = some ob := hk2
      replace he : IsEnum h2 h'.objs.size (s1.heap.objs.size + 4) 0 .none := he
      rw [hsz] at he
      have I2 : Inv X pins σ H1 { s1 with heap := h2 } := I1.kept (t' := s1.toks) fun c o e => hk2 c o (hk c o e)
      have fresh : ∀ c, c ∈ [s1.heap.objs.size + 5, s1.heap.objs.size + 4, s1.heap.objs.size + 2, s1.heap.objs.size + 3, s1.heap.objs.size, s1.heap.objs.size + 1] → FpOk X pins H1 c := fun c hcm => by
        have hle : s1.heap.objs.size ≤ c := by
          simp only [List.mem_cons, List.not_mem_nil, or_false] at hcm
          rcases hcm with z | z | z | z | z | z <;> (rw [z]; first | exact Nat.le_add_right _ _ | exact Nat.le_refl _)
        exact I1.fpOk hle (I1.hok.fresh hle)
      have s6 := sep6 s1.heap.objs.size a b la lb
      have eq5 : (show Addr from h'.objs.size) = s1.heap.objs.size + 5 := hsz
      refine ⟨s1.heap.objs.size + 5, [s1.heap.objs.size + 5, s1.heap.objs.size + 4, s1.heap.objs.size + 2, s1.heap.objs.size + 3, s1.heap.objs.size, s1.heap.objs.size + 1], _, _, H1, ?_, I2, turn_ez (sep2 s1.heap.objs.size a b la lb) (Nat.ne_of_lt la) (Nat.ne_of_lt (Nat.lt_succ_of_lt lb)) s6.1 s6.2,
        ⟨⟨.none, he⟩, ⟨⟨_, _, hk2 _ _ hTO⟩, .inl (hk2 _ _ hz)⟩, hk2 _ _ hTI, itK_new (hk2 _ _ e1), itK_new (hk2 _ _ e2)⟩, fresh, q⟩
      show Value.ref h'.objs.size = _
      rw [hsz]
def diEz2 (d1 d2 : DTE) : DTI := fun ρ μ Q => d1 ρ μ fun x μ1 => d2 ρ μ1 fun y μ2 => match src2 μ2 x, src2 μ2 y with | some s, some t => Q ⟨enumD (zipD s.its t.its), s.keep ++ t.keep⟩ μ2 | _, _ => False
theorem ize_ok {K : PySem.W.Frag} {α : List Addr} {H : Hp} {k1 k2 : Bool} {a b : Addr} {s t : Src} (L : KOk K k1 a s α H) (L' : KOk K k2 b t α H) : ItOk K (Ize K k1 k2 a b) ⟨enumD (zipD s.its t.its), s.keep ++ t.keep⟩ α H := ⟨fun α' H' μ' g S' hd' => by
  obtain ⟨ws, c1, c2⟩ := L.ok α' H' μ' g S' (fun p hp => hd' p (List.mem_append.mpr (.inl hp)))
  obtain ⟨zs, m1, m2⟩ := L'.ok α' H' μ' g S' (fun p hp => hd' p (List.mem_append.mpr (.inr hp)))
  have len : (enumD (zipD s.its t.its)).length = min ws.length zs.length := by
    rw [enumD_len]
    unfold zipD
    rw [List.length_zipWith, c2.length, m2.length]
  refine ⟨fun i hi => ?_, fun i hi => ?_, fun i d v H3 hg hy => ?_⟩
  · have hi : i < (enumD (zipD s.its t.its)).length := hi
    rw [len] at hi
    exact ⟨ws, zs, ws[i]'(by omega), zs[i]'(by omega), c1, m1, by simp, by simp⟩
  · have hi : (enumD (zipD s.its t.its)).length ≤ i := hi
    rw [len] at hi
    exact ⟨ws, zs, c1, m1, by omega⟩
  · obtain ⟨w0, hw0, rfl⟩ := enumD_get hg
    obtain ⟨x, y, hx, hz, rfl⟩ := zipD_get hw0
    obtain ⟨T, U, x1, x2, rfl, hT, hU, rfl, hy1, hy2⟩ := hy
    obtain ⟨w1, hw1, rw1⟩ := c2.get hx
    obtain ⟨w2, hw2, rw2⟩ := m2.get hz
    have e1 := hy1 ws c1
    have e2 := hy2 zs m1
    rw [hw1] at e1
    rw [hw2] at e2
    cases e1; cases e2
    obtain ⟨ga, sa, ra⟩ := new_pair S' rw1 rw2 hT
    obtain ⟨gb, sb, rb⟩ := new_pair sa (.int (i : Nat)) ra hU
    exact ⟨ga.trans gb, sb, rb⟩⟩
theorem di_ez {X : Cx} {e e2 : Expr} {d1 d2 : DTE} {p pos p2 pos2 tpos : Pos} {elts : List Expr} {kk : Nat} (hme : X.mg "enumerate" = none) (hm : X.mg "zip" = none) (he : PED X e d1) (he2 : PED X e2 d2) (hge : Gl X "enumerate" := by rfl) (hg : Gl X "zip" := by rfl)
    (na : starEach [.Call (.Name "zip" p2) [e, e2] [] pos2] X.env = (false, eval (.Call (.Name "zip" p2) [e, e2] [] pos2) X.env) :: starEach [] X.env := by rfl)
    (hs : starEach [e, e2] X.env = (false, eval e X.env) :: starEach [e2] X.env := by rfl) (hs2 : starEach [e2] X.env = (false, eval e2 X.env) :: starEach [] X.env := by rfl) (hpl : (backTo pos2 (starEach [e2] X.env)).any (·.1) = false := by rfl) :
    PID X (.Tuple elts kk tpos) (.Call (.Name "enumerate" p) [.Call (.Name "zip" p2) [e, e2] [] pos2] [] pos) (diEz2 d1 d2) := by
  obtain ⟨t1, a1, a2⟩ := he.ex
  obtain ⟨t2, b1, b2⟩ := he2.ex
  refine ⟨_, pi_ez hge hme hg hm (pa_cons a1 (pa_cons b1 pa_nil hs2) hs) na hs hpl, fun α σ H ρ μ Qd R S en h post => a2 α σ H ρ μ _ _ S en h fun v H1 α1 μ1 d g1 S1 r1 q1 => b2 α1 σ H1 ρ μ1 _ _ S1 (en.mono g1) q1 fun w H2 α2 μ2 dd g2 S2 r2 q2 => ?_⟩
  split at q2
  · rename_i s t es et
    obtain ⟨hd, k1, a, vs, rfl, q, L⟩ := kok_of S2 (r1.mono g2) es
    obtain ⟨hd2, k2, b, us, rfl, q', L'⟩ := kok_of S2 r2 et
    refine ⟨k1, k2, a, b, vs, us, rfl, q, q', post _ _ _ _ _ (g1.trans g2) S2 (fun p hp => ?_) (ize_ok L L') q2⟩
    rcases List.mem_append.mp hp with hp | hp
    · exact hd p hp
    · exact hd2 p hp
  · exact False.elim q2
end Dl
/-! Mx: methods of lists: pop, pop at a place, index. -/
namespace Dl
open PySem PySem.Spec PyProof.Rows L2
section
variable {X : Cx} {K : PySem.W.Frag} {α : List Addr} {H : Hp}
theorem RlAll.erase : ∀ {vs : List V} {ds : List D} (_ : RlAll K α H vs ds) (n : Nat), RlAll K α H (vs.eraseIdx n) (ds.eraseIdx n)
  | _, _, .nil, n => by cases n <;> exact .nil
  | _, _, .cons _ r, 0 => r
  | _, _, .cons q r, n + 1 => .cons q (RlAll.erase r n)
/-- xs.pop(i) -/
def mPopAt (do_ de : DTE) : DTE := fun ρ μ Q => do_ ρ μ fun o μ1 => match o with
  | .cell k => (μ1 k).isSome = true ∧ de ρ μ1 fun y μ2 => (match y with | .int i => ∃ xs n d, μ2 k = some xs ∧ (-(2 ^ 63) ≤ i ∧ i < 2 ^ 63) ∧ seqIndex? i xs.length = some n ∧ xs[n]? = some d ∧ Q d (μ2.upd k (xs.eraseIdx n)) | _ => False)
  | _ => False
theorem de_popAt {o e : Expr} {apos cpos : Pos} {d1 d2 : DTE} (ho : PED X o d1) (he : PED X e d2)
    (mk : ∀ {to te : TE}, PE X o to → PE X e te → PE X (.Call (.Attribute o "pop" apos) [e] [] cpos) (tBM X.K "list" rPopAt to (tCons te tNil)) := by
      intro _ _ a b; exact pe_bm PySem.F.plainAttrs_list PySem.F.slot_list_pop PySem.F.type_list_pop mt_popAt a (pa_cons b pa_nil)) : PED X (.Call (.Attribute o "pop" apos) [e] [] cpos) (mPopAt d1 d2) := by
  obtain ⟨t1, a1, a2⟩ := ho.ex
  obtain ⟨t2, b1, b2⟩ := he.ex
  refine ⟨_, mk a1 b1, fun α σ H ρ μ Qd Q S E h post => a2 α σ H ρ μ _ _ S E h fun v H1 α1 μ1 d g1 S1 r1 q1 => ?_⟩
  cases r1 with
  | @cell a k q =>
    obtain ⟨q1, q2⟩ := q1
    cases ex : μ1 k with
    | none =>
      rw [ex] at q1
      cases q1
    | some xs =>
      obtain ⟨b, vs, h1, h2, h3⟩ := S1.cell _ _ ex
      rw [q] at h1
      cases h1
      refine ⟨.inl ⟨rfl, vs, .of h2⟩, b2 α1 σ H1 ρ μ1 _ _ S1 (E.mono g1) q2 fun y H2 α2 μ2 dy g2 S2 r2 q2 => ?_⟩
      split at q2
      · rename_i i
        cases r2
        obtain ⟨ys, n, d, ey, hb, hn, hd, q2⟩ := q2
        obtain ⟨c, ws, k1, k2, k3⟩ := S2.cell _ _ ey
        have at2 := g2.pre _ _ q
        rw [at2] at k1
        cases k1
        obtain ⟨w, hw, rw'⟩ := k3.get hd
        exact ⟨_, ws, i, n, w, rfl, rfl, k2, hb.1, hb.2, by rw [k3.length]; exact hn, hw, post _ _ _ _ _ ((g1.trans g2).trans (gr_set k2)) (S2.set at2 k2 (k3.erase n)) (rw'.mono (gr_set k2)) q2⟩
      · exact False.elim q2
  | _ => exact False.elim q1
/-- xs.pop() -/
def mPop (do_ : DTE) : DTE := fun ρ μ Q => do_ ρ μ fun o μ1 => match o with
  | .cell k => ∃ xs d, μ1 k = some xs ∧ xs[xs.length - 1]? = some d ∧ Q d (μ1.upd k xs.dropLast)
  | _ => False
/-- xs.index(y), numbers -/
def mIdx (do_ de : DTE) : DTE := fun ρ μ Q => do_ ρ μ fun o μ1 => match o with
  | .cell k => (μ1 k).isSome = true ∧ de ρ μ1 fun y μ2 => (match y with | .int i => ∃ ns : List Int, μ2 k = some (ns.map D.int) ∧ i ∈ ns ∧ Q (.int (ns.idxOf i : Nat)) μ2 | _ => False)
  | _ => False
theorem idx_first {i : Int} : ∀ {ns : List Int}, i ∈ ns → ns[ns.idxOf i]? = some i ∧ ∀ m, m < ns.idxOf i → ∀ z, ns[m]? = some z → z ≠ i
  | [], h => nomatch h
  | x :: ns, h => by
    by_cases e : x = i
    · subst e
      rw [List.idxOf_cons_self]
      exact ⟨rfl, fun m hm => absurd hm (Nat.not_lt_zero _)⟩
    · have h2 : i ∈ ns := by
        rcases List.mem_cons.mp h with r | r
        · exact absurd r.symm e
        · exact r
      obtain ⟨a, b⟩ := idx_first h2
      rw [show (x :: ns).idxOf i = ns.idxOf i + 1 by rw [List.idxOf_cons, beq_eq_false_iff_ne.mpr e]; rfl]
      refine ⟨by simpa using a, fun m hm z hz => ?_⟩
      cases m with
      | zero =>
        have : x = z := by simpa using hz
        rw [← this]
        exact e
      | succ m => exact b m (by omega) z (by simpa using hz)
theorem de_index {o e : Expr} {apos cpos : Pos} {d1 d2 : DTE} (ho : PED X o d1) (he : PED X e d2)
    (mk : ∀ {to te : TE}, PE X o to → PE X e te → PE X (.Call (.Attribute o "index" apos) [e] [] cpos) (tBM X.K "list" (rIndex X.K) to (tCons te tNil)) := by
      intro _ _ a b; exact pe_bm PySem.F.plainAttrs_list PySem.F.slot_list_index PySem.F.type_list_index mt_index a (pa_cons b pa_nil)) : PED X (.Call (.Attribute o "index" apos) [e] [] cpos) (mIdx d1 d2) := by
  obtain ⟨t1, a1, a2⟩ := ho.ex
  obtain ⟨t2, b1, b2⟩ := he.ex
  refine ⟨_, mk a1 b1, fun α σ H ρ μ Qd Q S E h post => a2 α σ H ρ μ _ _ S E h fun v H1 α1 μ1 d g1 S1 r1 q1 => ?_⟩
  cases r1 with
  | @cell a k q =>
    obtain ⟨q1, q2⟩ := q1
    cases ex : μ1 k with
    | none =>
      rw [ex] at q1
      cases q1
    | some xs =>
      obtain ⟨b, vs, h1, h2, h3⟩ := S1.cell _ _ ex
      rw [q] at h1
      cases h1
      refine ⟨.inl ⟨rfl, vs, .of h2⟩, b2 α1 σ H1 ρ μ1 _ _ S1 (E.mono g1) q2 fun y H2 α2 μ2 dy g2 S2 r2 q2 => ?_⟩
      split at q2
      · rename_i i
        cases r2
        obtain ⟨ns, ey, hi, q2⟩ := q2
        obtain ⟨c, ws, k1, k2, k3⟩ := S2.cell _ _ ey
        have at2 := g2.pre _ _ q
        rw [at2] at k1
        cases k1
        have ew := k3.ints
        subst ew
        obtain ⟨f1, f2⟩ := idx_first hi
        refine ⟨_, _, .int i, ns.idxOf i, .int i, rfl, rfl, .of k2, rfl, flat_ints ns, by rw [List.getElem?_map, f1]; rfl, by simp [eqV], fun m z' hm hz => ?_, post _ _ _ _ _ (g1.trans g2) S2 (.int _) q2⟩
        rw [List.getElem?_map] at hz
        obtain ⟨z, hz2, rfl⟩ := Option.map_eq_some_iff.mp hz
        have := f2 m hm z hz2
        simp [eqV, this]
      · exact False.elim q2
  | _ => exact False.elim q1
end
end Dl
/-! So: sorted over a list of ints, too. -/
namespace Dl
open PySem PySem.Spec PyProof.Rows L2
def sSrt2 : List D → Mu → (List D → Mu → Prop) → Prop := fun xs μ Q => sSrt xs μ Q ∨ ∃ ns : List Int, xs = ns.map D.int ∧ ∀ out : List Int, out.Perm ns → out.Pairwise (· ≤ ·) → Q (out.map D.int) μ
theorem rl_int {K : PySem.W.Frag} {α : List Addr} {H : Hp} : ∀ ns : List Int, RlAll K α H (ns.map V.int) (ns.map D.int)
  | [] => .nil
  | n :: ns => .cons (.int n) (rl_int ns)
section
variable {X : Cx}
theorem s_srt2 (hu : X.A.units + 64 < cLine) : SeqLD X (.builtin "sorted") false sSrt2 := by
  obtain ⟨r1, c1, d1⟩ := (s_srt (X := X) hu).ex
  refine ⟨_, CallR.or c1 cr_sortedI, fun α H μ p vs xs Qd Q S q r h post => ?_⟩
  rcases h with h | ⟨ns, rfl, h⟩
  · exact .inl (d1 α H μ p vs xs Qd Q S q r h post)
  · refine .inr ⟨p, ns, rfl, ?_, fun out l hp ho hl => ?_⟩
    · rw [← RlAll.ints r]
      exact q.resolve_right fun z => nomatch z.1
    · exact post.here S (rl_int out) (h out hp ho) hl
end
theorem sort_uniq : ∀ {a b : List Int}, a.Perm b → a.Pairwise (· ≤ ·) → b.Pairwise (· ≤ ·) → a = b := fun h s t => List.Perm.eq_of_pairwise (fun _ _ _ _ x y => Int.le_antisymm x y) s t h
end Dl
/-! In3: x in a list or tuple of strings, too. -/
namespace Dl
open PySem PySem.Spec PyProof.Rows L2
def oIn3 (neg : Bool) : D → D → Mu → DK → Prop := fun x y μ Q => oIn2 neg x y μ Q ∨ ∃ (z : Str) (zs : List Str), x = .str z ∧ items μ y = some (zs.map D.str) ∧ Q (.bl (if neg then !decide (z ∈ zs) else decide (z ∈ zs))) μ
theorem RlAll.strs {K : PySem.W.Frag} {α : List Addr} {H : Hp} : ∀ {zs : List Str} {vs : List V}, RlAll K α H vs (zs.map D.str) → vs = zs.map V.str
  | [], _, h => by cases h; rfl
  | z :: zs, _, h => by
    cases h with
    | cons a b =>
      cases a
      rw [RlAll.strs b]
      rfl
theorem flat_strs (zs : List Str) : (zs.map V.str).all flatV = true := by
  rw [List.all_map, List.all_eq_true]
  intro x _
  rfl
theorem inV_strs (z : Str) (zs : List Str) : inV (.str z) (zs.map V.str) = decide (z ∈ zs) := by
  unfold inV
  rw [List.any_map, Bool.eq_iff_iff, List.any_eq_true, decide_eq_true_eq]
  constructor
  · rintro ⟨x, hx, e⟩
    have e : (x == z) = true := e
    rw [beq_iff_eq] at e
    rw [← e]
    exact hx
  · intro h
    exact ⟨z, h, (beq_iff_eq).mpr rfl⟩
section
variable {X : Cx}
theorem snd_in3 (neg : Bool) {K : PySem.W.Frag} {r : R2} (hr : ∀ x y H Q, (∃ d ds, Dp K H x d ∧ Dp K H y (.list ds) ∧ SeqAt.shaped d = true ∧ SeqAt.shaped (.list ds) = true ∧ Q (.bl (if neg then !(ds.any fun z => PyData.eqv z d) else ds.any fun z => PyData.eqv z d)) H) → r x y H Q) : SndR K (fun x y H Q => rIn K neg x y H Q ∨ r x y H Q) (oIn3 neg) := fun α H μ x y dx dy Qd Q S rx ry h post => by
  rcases h with h | ⟨z, zs, rfl, e, h⟩
  · exact snd_in2 neg hr α H μ x y dx dy Qd Q S rx ry h post
  · obtain ⟨a, vs, rfl, q, r⟩ := S.seq ry e
    have e2 := r.strs
    subst e2
    cases rx
    refine .inl ⟨a, _, rfl, q, rfl, flat_strs zs, ?_⟩
    rw [inV_strs]
    exact post.here S (.bl _) h
theorem o_in3 (hu : X.A.units + 200 < cLine) : OpD X (compareOp .In) (oIn3 false) := ⟨_, OpR.or op_in_seq (op_inD (by omega)), snd_in3 false fun x y H Q h => h⟩
theorem o_notIn3 (hu : X.A.units + 200 < cLine) : OpD X (compareOp .NotIn) (oIn3 true) := ⟨_, OpR.or op_notIn_seq (op_notInD (by omega)), snd_in3 true fun x y H Q h => h⟩
end
end Dl
/-! Rv: xs[::-1] of a list or a tuple; {}. -/
namespace Dl
open PySem PySem.Spec PyProof.Rows L2
section
variable {prog : Program} {w : World} {A : Around} {E : Value → Shared → Prop} {s : Shared}
theorem sliceApplied_rev {sl : Addr} {vs : Value} {n : Nat} {Q : Int × Int × Nat → Shared → Prop} (hs : s.heap.IsSliceOf sl .none .none vs) (ps : IsPart vs (some (-1)))
    (h : Q ((n : Int) - 1, -1, n) s) : wpAny (model prog w) A (Builtin.Slice.sliceApplied (.ref sl) (pure (n : Int))) Q E s := by
  obtain ⟨os, hos, hcs, hds⟩ := id hs
  unfold Builtin.Slice.sliceApplied Builtin.Slice.sliceFields
  refine wpAny_bind (wpAny_bind (wpAny_field hos hds (x := .none) rfl (wpAny_bind (wpAny_field hos hds (x := .none) rfl (wpAny_bind (wpAny_field hos hds (x := vs) rfl (wpAny_pure ?_)))))))
  refine wpAny_bind (HT.slicePart_ ps ?_)
  show wpAny _ _ (if ((-1 : Int) == 0) = true then _ else _) _ _ s
  rw [if_neg (by decide)]
  refine wpAny_bind (slicePart_none (wpAny_bind (slicePart_none (wpAny_bind (wpAny_pure ?_)))))
  show wpAny _ _ (match Builtin.Slice.sliceAdjust none none (-1) (n : Int) with | (lo, hi) => pure (lo, (-1 : Int), Builtin.Slice.slicePlaces lo hi (-1))) _ _ s
  have e1 : Builtin.Slice.sliceAdjust none none (-1) (n : Int) = ((n : Int) - 1, -1) := rfl
  rw [e1]
  show wpAny _ _ (pure ((n : Int) - 1, (-1 : Int), Builtin.Slice.slicePlaces ((n : Int) - 1) (-1) (-1))) _ _ s
  have e2 : Builtin.Slice.slicePlaces ((n : Int) - 1) (-1) (-1) = n := by
    unfold Builtin.Slice.slicePlaces
    rw [if_neg (by decide)]
    by_cases c : (n : Int) - 1 > -1
    · rw [if_pos c, show (-(-1) : Int) = 1 by decide, Int.ediv_one]
      omega
    · rw [if_neg c]
      omega
  rw [e2]
  exact wpAny_pure h
theorem pick_rev (xs : Array Value) : ((List.range xs.size).filterMap fun (m : Nat) => xs[(((xs.size : Int) - 1) + (m : Int) * (-1)).toNat]?).toArray = xs.toList.reverse.toArray := by
  refine congrArg List.toArray ?_
  have e : ∀ m ∈ List.range xs.size, xs[(((xs.size : Int) - 1) + (m : Int) * (-1)).toNat]? = some (xs.toList.reverse.getD m .none) := fun m hm => by
    have := List.mem_range.mp hm
    rw [show (((xs.size : Int) - 1) + (m : Int) * (-1)).toNat = xs.size - 1 - m by omega, List.getD_eq_getElem?_getD, List.getElem?_reverse (by rw [Array.length_toList]; exact this), Array.length_toList, ← Array.getElem?_toList, List.getElem?_eq_getElem (by rw [Array.length_toList]; omega)]
    rfl
  have : ∀ l : List Nat, (∀ m ∈ l, m ∈ List.range xs.size) → l.filterMap (fun (m : Nat) => xs[(((xs.size : Int) - 1) + (m : Int) * (-1)).toNat]?) = l.map fun m => xs.toList.reverse.getD m .none := by
    intro l
    induction l with
    | nil => exact fun _ => rfl
    | cons a l ih =>
      intro h
      rw [List.filterMap_cons, e a (h a (List.mem_cons_self ..)), List.map_cons, ih fun m hm => h m (List.mem_cons_of_mem _ hm)]
  rw [this _ fun _ h => h]
  refine List.ext_getElem? fun i => ?_
  rw [List.getElem?_map]
  by_cases hi : i < xs.size
  · rw [List.getElem?_range hi]
    show some (xs.toList.reverse.getD i .none) = _
    rw [List.getD_eq_getElem?_getD, List.getElem?_eq_getElem (by rw [List.length_reverse, Array.length_toList]; exact hi)]
    rfl
  · rw [List.getElem?_eq_none (by rw [List.length_range]; omega), List.getElem?_eq_none (by rw [List.length_reverse, Array.length_toList]; omega)]
    rfl
theorem getItem_tuple_rev {t sl : Addr} {items : Array Value} {vs : Value} {Q : Value → Shared → Prop} (ht : IsTup s.heap t items) (hs : s.heap.IsSliceOf sl .none .none vs) (ps : IsPart vs (some (-1)))
    (h : Q (.ref s.heap.objs.size) { s with heap := s.heap.push { cls := .type "tuple", data := .seq items.toList.reverse.toArray } })
    (hsz : items.size ≤ sizeLine) : wpAny (model prog w) A (getItem (.ref t) (.ref sl)) Q E s := by
  have htake : sizeOk (.seq items.toList.reverse.toArray) := by
    show items.toList.reverse.toArray.size ≤ sizeLine
    rw [List.size_toArray, List.length_reverse, Array.length_toList]
    exact hsz
  obtain ⟨os, hos, hcs, hds⟩ := id hs
  have hTs : s.TypeIs (.ref sl) "slice" := ⟨os, hos, hcs⟩
  unfold getItem
  try with_reducible refine wpAny_holding ?_
  first | refine wpAny_bind (wpAny_pure ?_) | skip
  refine wpAny_bind (wpAny_sequenceKey ht.typeIs (by decide) ?_)
  refine wpAny_bind (wpAny_callSpecial?_slot (name := Str.ofString "__getitem__") ht.typeIs PyProof.Rows.slot_tuple_getitem
    (wpAny_call_entry PyProof.Rows.slot_tuple_getitem ht.typeIs entry_tuple_getitem ?_ (args_tuple_getitem _ _)))
  show wpAny _ _ (Builtin.Tuple.tupleItemsOf (.ref t) >>= _) _ _ s
  refine wpAny_bind (tupleItemsOf_ ht ?_)
  refine wpAny_bind (wpAny_typeOf hTs ?_)
  rw [if_pos (by decide)]
  refine wpAny_bind (sliceApplied_rev hs ps ?_)
  have hno : ¬ ((((items.size : Int) - 1) == 0 && (-1 : Int) == 1 && items.size == items.size) = true) := by
    intro q
    rw [Bool.and_eq_true, Bool.and_eq_true] at q
    exact absurd (eq_of_beq q.1.2) (by decide)
  show wpAny _ _ (if ((((items.size : Int) - 1) == 0 && (-1 : Int) == 1 && items.size == items.size) = true) then _ else _) _ _ s
  rw [if_neg hno, pick_rev]
  first
    | exact wpAny_bind (m := Builtin.Tuple.tupleExact _) (wpAny_newObj_type (wpAny_pure ⟨_, rfl, wpAny_pure h⟩) htake)
    | exact wpAny_bind (m := Builtin.Tuple.tupleExact _) (wpAny_newObj_type (wpAny_bind (wpAny_pure (wpAny_pure ⟨_, rfl, wpAny_pure h⟩))) htake)
    | exact wpAny_bind (wpAny_bind (m := Builtin.Tuple.tupleExact _) (wpAny_newObj_type (wpAny_pure (wpAny_pure ⟨_, rfl, wpAny_pure h⟩)) htake))
    | exact wpAny_bind (wpAny_bind (m := Builtin.Tuple.tupleExact _) (wpAny_newObj_type (wpAny_pure ⟨_, rfl, wpAny_pure h⟩) htake))
end
def tRev (K : PySem.W.Frag) (te : TE) : TE := fun σ H Q => te σ H fun x H1 => ∃ a xs, x = .ref a ∧ ((SqL K H1 a xs ∧ ∀ p, H1 p = none → Q (.ref p) (upd H1 p (.lst xs.reverse))) ∨ (SqT K H1 a xs ∧ ∀ p, H1 p = none → Q (.ref p) (upd H1 p (.tup xs.reverse))))
section
variable {X : Cx}
theorem pe_rev {e : Expr} {te : TE} {k : Nat} {p1 p2 p3 pos : Pos} (he : PE X e te) : PE X (.Subscript e (.Slice none none (some (.UnaryOp .USub (.Constant (.int 1) k p1) p2)) p3) pos) (tRev X.K te) := by
  refine ⟨fun pins s σ H Q I h => ?_⟩
  refine Subscript_ (thn (he.run pins s σ H _ I h) fun v s1 ⟨x, H1, I1, r1, q1⟩ => ?_)
  obtain ⟨a, xs, ex, q⟩ := q1
  subst ex
  cases r1
  have hst : PO X (some (.UnaryOp .USub (.Constant (.int 1) k p1) p2)) (tPart (tUn (rU fun i => .int (-i)) (tC (.int 1)))) := po_some (pe_un un_neg pe_int)
  refine wpAny_Slice (thn (po_none.run pins s1 σ H1 (fun o H2 => o = none ∧ H2 = H1) I1 ⟨rfl, rfl⟩) fun vl s2 ⟨l, H2, I2, pl, el, e2⟩ => ?_)
  subst el e2
  refine thn (po_none.run pins s2 σ H2 (fun o H3 => o = none ∧ H3 = H2) I2 ⟨rfl, rfl⟩) fun vu s3 ⟨u, H3, I3, pu, eu, e3⟩ => ?_
  subst eu e3
  refine thn (hst.run pins s3 σ H3 (fun o H4 => o = some (-1) ∧ H4 = H3) I3 ⟨1, rfl, -1, rfl, rfl, rfl⟩) fun vs s4 ⟨o, H4, I4, ps, eo, e4⟩ => ?_
  subst eo e4
  have I5 : Inv X pins σ H4 { s4 with heap := s4.heap.push { cls := .type "slice", data := .fields #[vl, vu, vs] } } := I4.kept (t' := s4.toks) fun b ob q => Heap.get?_push_of_some _ q
  show wpAny (model X.prog X.w) X.A (subscriptTail e (.Slice none none (some (.UnaryOp .USub (.Constant (.int 1) k p1) p2)) p3) (.ref a) (.ref s4.heap.objs.size)) (EP X pins σ Q) X.xe { s4 with heap := s4.heap.push { cls := .type "slice", data := .fields #[vl, vu, vs] } }
  rcases q with ⟨hx, q⟩ | ⟨hx, q⟩
  · obtain ⟨its, r, ht, hz⟩ := I5.list hx
    have hlen := r.length
    refine tail_any (ops := [.ref a, .ref s4.heap.objs.size]) ht.isList.typeIs (PySem.slot_list_getitem.lookup) ?_ (by with_unfolding_all rfl)
    refine wpAny_getItem_list_slice ht.isList (Heap.IsSliceOf.new _ vl vu vs) pl pu ps (by decide) ?_ (by rw [List.size_toArray]; omega)
    rw [PySem.W.krv_pick]
    refine ⟨.ref _, _, I5.laid (t' := s4.toks) (o := .lst xs.reverse) (fun b ob q => Heap.get?_push_of_some _ q) (Nat.le_refl _) ?_, rfl, q _ (I5.hok.fresh (Nat.le_refl _))⟩
    exact ⟨by rw [List.length_reverse]; exact hz, _, 0, r.reverse, Heap.get?_push_size _ rfl⟩
  · obtain ⟨its, r, ht, hz⟩ := I5.tuple hx
    have hlen := r.length
    cases pl
    cases pu
    refine tail_any (ops := [.ref a, .ref s4.heap.objs.size]) ht.typeIs (PyProof.Rows.slot_tuple_getitem.lookup) ?_ (by with_unfolding_all rfl)
    refine getItem_tuple_rev ht (Heap.IsSliceOf.new _ .none .none vs) ps ?_ (by rw [List.size_toArray]; omega)
    refine ⟨.ref _, _, I5.laid (t' := s4.toks) (o := .tup xs.reverse) (fun b ob q => Heap.get?_push_of_some _ q) (Nat.le_refl _) ?_, rfl, q _ (I5.hok.fresh (Nat.le_refl _))⟩
    exact ⟨by rw [List.length_reverse]; exact hz, _, r.reverse, IsTup.new _ _⟩
def dRev (de : DTE) : DTE := fun ρ μ Q => de ρ μ fun x μ1 => match x with
  | .tup xs => Q (.tup xs.reverse) μ1
  | x => (match litems μ1 x with | some xs => ∀ n, μ1 n = none → Q (.cell n) (μ1.upd n xs.reverse) | none => False)
theorem de_rev {e : Expr} {de : DTE} {k : Nat} {p1 p2 p3 pos : Pos} (he : PED X e de) : PED X (.Subscript e (.Slice none none (some (.UnaryOp .USub (.Constant (.int 1) k p1) p2)) p3) pos) (dRev de) := by
  obtain ⟨te, a1, a2⟩ := he.ex
  refine ⟨_, pe_rev a1, fun α σ H ρ μ Qd Q S E h post => a2 α σ H ρ μ _ _ S E h fun v H1 α1 μ1 d g1 s1 r1 q1 => ?_⟩
  have post1 := post.mono g1
  have lists : ∀ {xs : List D}, litems μ1 d = some xs → (∀ n, μ1 n = none → Qd (.cell n) (μ1.upd n xs.reverse)) → ∃ a vs, v = .ref a ∧ SqL X.K H1 a vs ∧ ∀ p, H1 p = none → Q (.ref p) (upd H1 p (.lst vs.reverse)) := by
    intro xs ex q
    obtain ⟨a, vs, rfl, hq, r⟩ := s1.list r1 ex
    exact ⟨a, vs, rfl, hq, fun p hp => (PostL.of post1).here s1 r.rev q hp⟩
  cases r1 with
  | @tup a vs ds q r => exact ⟨a, vs, rfl, .inr ⟨q, fun p hp => post1.tup s1 r.rev q1 hp⟩⟩
  | frz q r =>
    dsimp only [litems] at q1
    obtain ⟨a, vs, h1, h2, h3⟩ := lists rfl q1
    exact ⟨a, vs, h1, .inl ⟨h2, h3⟩⟩
  | @cell a k q =>
    dsimp only [litems] at q1
    split at q1
    · rename_i xs ex
      obtain ⟨a, vs, h1, h2, h3⟩ := lists ex q1
      exact ⟨a, vs, h1, .inl ⟨h2, h3⟩⟩
    · exact False.elim q1
  | _ => exact False.elim q1
/-- {} that nobody changes -/
def dEmp : DTE := fun ρ μ Q => Q .emp μ
theorem de_emp {pos : Pos} : PED X (.Dict [] [] pos) dEmp := by
  refine ⟨_, pe_dnewK, fun α σ H ρ μ Qd Q S E h post => fun p hp => ?_⟩
  exact post _ _ _ _ _ (gr_new hp) (S.new hp) (.emp L2.upd_same) h
/-- f(): the def takes nothing -/
theorem de_fn0 {k : Nat} {x : Str} {st : Stmt} {ps : List Str} {sp : DSp} {p pos : Pos} (h : Has X.prog X.w X.K X.mg X.base k x st ps sp) (hr : Room k X.A) (hgd : X.A.guards = some [])
    (hb : BindK st x ps [] ps.length (fun as _ => as)) (hn : 0 = ps.length := by rfl) (hg : Gl X x := by rfl) (hdb : (x == ("__debug__" : Str)) = false := by decide) :
    PED X (.Call (.Name x p) [] [] pos) (dFn sp daNil) := by
  obtain ⟨f, fd, hm, F, G⟩ := h.ex
  refine ⟨fun σ H Q => ∃ α μ Qd, Sat X.K α H μ ∧ sp [] μ Qd ∧ PostE X.K α H Qd Q, ⟨fun pins s σ H Q I h => ?_⟩, fun α σ H ρ μ Qd Q S E h post => ⟨α, μ, Qd, S, h, post⟩⟩
  obtain ⟨α, μ, Qd, S, hs, post⟩ := h
  refine wpAny_Call_Name_kw (ld_glob I hg hm ?_ hdb)
  refine PySem.W.callWith_K0 I.kIn F.kp ?_
  obtain ⟨oc, od, kV, doc, pm, an, cdv, ct, osl, rfl, lk, hcd⟩ := F.ex
  exact run_g G hr hgd I (zs := []) hn (.of_eq (hb kV doc pm an cdv ct [] [] hn rfl).2) .nil S .nil hs post
end
end Dl
/-! Re: repr of data that hold an empty dict, too. -/
namespace Dl
open PySem PySem.Spec PyProof.Rows L2
mutual
inductive RdE (h : Heap) : Value → PyData → Prop
  | none : RdE h .none .none
  | bool (b : Bool) : RdE h (.bool b) (.bool b)
  | int (i : Int) (t : Tok) : RdE h (.int i t) (.int i)
  | str (x : Str) (t : Tok) : RdE h (.str x t) (.str x)
  | list {a : Addr} {o : Obj} {vs : Array Value} {n : Nat} {xs : List PyData} : h.get? a = some o → o.cls = .type "list" → o.data = .seq vs n → RdEAll h vs.toList xs → RdE h (.ref a) (.list xs)
  | tuple {a : Addr} {o : Obj} {vs : Array Value} {n : Nat} {xs : List PyData} : h.get? a = some o → o.cls = .type "tuple" → o.data = .seq vs n → RdEAll h vs.toList xs → RdE h (.ref a) (.tuple xs)
  | emp {a : Addr} {o : Obj} {n : Nat} : h.get? a = some o → o.cls = .type "dict" → o.data = .dict #[] n → (a == sysModules) = false → RdE h (.ref a) (.dict [])
inductive RdEAll (h : Heap) : List Value → List PyData → Prop
  | nil : RdEAll h [] []
  | cons {v : Value} {vs : List Value} {d : PyData} {ds : List PyData} : RdE h v d → RdEAll h vs ds → RdEAll h (v :: vs) (d :: ds)
end
section
variable {prog : Program} {w : World} {h₀ : Heap}
mutual
theorem RdE.reads : ∀ {v : Value} {d : PyData}, RdE h₀ v d → ∃ as, Reads h₀ v d as
  | _, _, .none => ⟨_, .none⟩
  | _, _, .bool b => ⟨_, .bool b⟩
  | _, _, .int i t => ⟨_, .int i t⟩
  | _, _, .str x t => ⟨_, .str x t⟩
  | _, _, .list h1 h2 h3 h4 => (RdEAll.reads h4).elim fun _ r => ⟨_, .list h1 h2 h3 r⟩
  | _, _, .tuple h1 h2 h3 h4 => (RdEAll.reads h4).elim fun _ r => ⟨_, .tuple h1 h2 h3 r⟩
  | _, _, .emp h1 h2 h3 _ => ⟨_, .dict h1 h2 h3 .nil .nil⟩
theorem RdEAll.reads : ∀ {vs : List Value} {ds : List PyData}, RdEAll h₀ vs ds → ∃ as, ReadsAll h₀ vs ds as
  | _, _, .nil => ⟨_, .nil⟩
  | _, _, .cons a b => (RdE.reads a).elim fun _ r => (RdEAll.reads b).elim fun _ r' => ⟨_, .cons r r'⟩
end
mutual
theorem reprK_e : ∀ {v : Value} {d : PyData}, RdE h₀ v d → d.showable = true → d.shown.length ≤ sizeLine → ∃ bs, ReadAtMost h₀ d.depth bs ∧ ReprK prog w bs h₀ d.depth v d.shown
  | _, _, .none, _, _ => ⟨[], (fun _ h => nomatch h), by simp only [PyData.shown]; exact .of_is ReprIs.none _ _ _⟩
  | _, _, .bool b, _, _ => ⟨[], (fun _ h => nomatch h), by simp only [PyData.shown]; exact .of_is (ReprIs.bool b) _ _ _⟩
  | _, _, .int i t, hs, _ => ⟨[], (fun _ h => nomatch h), by simp only [PyData.shown]; exact .of_is (ReprIs.int t (by simpa [PyData.showable] using hs)) _ _ _⟩
  | _, _, .str x t, _, hz => ⟨[], (fun _ h => nomatch h), by simp only [PyData.shown]; exact .of_is (ReprIs.str x t (by simpa only [PyData.shown] using hz)) _ _ _⟩
  | _, _, .list (a := a) (vs := vs) (xs := xs) h1 h2 h3 h4, hs, hz => by
    have hz' : (listText (PyData.shownAll xs)).length ≤ sizeLine := by simpa only [PyData.shown] using hz
    obtain ⟨bs, hb, hk⟩ := reprAllK_e h4 (by simpa [PyData.showable] using hs) (fun t ht => Nat.le_trans (listText_mem_le ht) hz')
    obtain ⟨as, ra⟩ := RdEAll.reads h4
    have r : Reads h₀ (.ref a) (.list xs) _ := .list h1 h2 h3 ra
    have hna : a ∉ bs := not_mem_of_deeper r (by simp only [PyData.depth]; omega) hb
    refine ⟨a :: bs, ReadAtMost.cons r (by simp only [PyData.depth]; omega) hb, ?_⟩
    simp only [PyData.depth, PyData.shown]
    obtain ⟨l⟩ := vs
    cases l with
    | nil =>
      have h4' : RdEAll h₀ [] xs := h4
      cases h4'
      simp only [PyData.shownAll, listText_nil]
      exact ReprK.listEmpty h1 h2 h3
    | cons x l => exact ReprK.list h1 h2 h3 hna (by simpa using hk.length_eq) (fun i y e => hk.item i y (by simpa using e))
  | _, _, .tuple (a := a) (xs := xs) h1 h2 h3 h4, hs, hz => by
    have hz' : (tupleText (PyData.shownAll xs)).length ≤ sizeLine := by simpa only [PyData.shown] using hz
    obtain ⟨bs, hb, hk⟩ := reprAllK_e h4 (by simpa [PyData.showable] using hs) (fun t ht => Nat.le_trans (tupleText_mem_le ht) hz')
    obtain ⟨as, ra⟩ := RdEAll.reads h4
    have r : Reads h₀ (.ref a) (.tuple xs) _ := .tuple h1 h2 h3 ra
    have hna : a ∉ bs := not_mem_of_deeper r (by simp only [PyData.depth]; omega) hb
    refine ⟨a :: bs, ReadAtMost.cons r (by simp only [PyData.depth]; omega) hb, ?_⟩
    simp only [PyData.depth, PyData.shown]
    exact ReprK.tuple h1 h2 h3 hna hk
  | _, _, .emp (a := a) h1 h2 h3 hsys, _, _ => by
    have r : Reads h₀ (.ref a) (.dict []) _ := .dict h1 h2 h3 .nil .nil
    refine ⟨[a], ReadAtMost.cons (n := 0) r (Nat.zero_le _) (fun _ h => nomatch h), ?_⟩
    simp only [PyData.depth, PyData.shown, PyData.shownKv_eq]
    exact ReprK.dict (as := []) h1 h2 h3 hsys (fun h => nomatch h) .nil
theorem reprAllK_e : ∀ {vs : List Value} {ds : List PyData}, RdEAll h₀ vs ds → PyData.showableAll ds = true → (∀ t ∈ PyData.shownAll ds, t.length ≤ sizeLine) →
    ∃ bs, ReadAtMost h₀ (PyData.depthAll ds) bs ∧ ReprAllK prog w bs h₀ (PyData.depthAll ds) vs (PyData.shownAll ds)
  | _, _, .nil, _, _ => ⟨[], (fun _ h => nomatch h), by simp only [PyData.shownAll]; exact .nil⟩
  | _, _, .cons (d := d) (ds := ds) r rs, hs, hz => by
    have hs' : d.showable = true ∧ PyData.showableAll ds = true := by simpa [PyData.showableAll] using hs
    obtain ⟨b1, hb1, k1⟩ := reprK_e r hs'.1 (hz _ (by simp only [PyData.shownAll]; exact List.mem_cons_self ..))
    obtain ⟨b2, hb2, k2⟩ := reprAllK_e rs hs'.2 (fun t ht => hz t (by simp only [PyData.shownAll]; exact List.mem_cons_of_mem _ ht))
    refine ⟨b1 ++ b2, ?_, ?_⟩
    · intro b hm
      simp only [PyData.depthAll]
      rcases List.mem_append.mp hm with hm | hm
      · obtain ⟨d', as', r', hd'⟩ := hb1 b hm
        exact ⟨d', as', r', Nat.le_trans hd' (Nat.le_max_left _ _)⟩
      · obtain ⟨d', as', r', hd'⟩ := hb2 b hm
        exact ⟨d', as', r', Nat.le_trans hd' (Nat.le_max_right _ _)⟩
    · simp only [PyData.depthAll, PyData.shownAll]
      exact .cons ((k1.more fun b hb => List.mem_append_left _ hb).level_le (Nat.le_max_left _ _)) (k2.more_le (fun b hb => List.mem_append_right _ hb) (Nat.le_max_right _ _))
end
theorem showsBy_e {a : Addr} {d : PyData} (r : RdE h₀ (.ref a) d) (hs : d.showable = true) (hsz : d.shown.length ≤ sizeLine) : ∃ T idr, ShowsBy prog w h₀ a d T idr := by
  cases r with
  | list h1 h2 h3 h4 =>
    rename_i o vs n xs
    have hz' : (listText (PyData.shownAll xs)).length ≤ sizeLine := by simpa only [PyData.shown] using hsz
    obtain ⟨bs, hb, hk⟩ := reprAllK_e (prog := prog) (w := w) h4 (by simpa [PyData.showable] using hs) (fun t ht => Nat.le_trans (listText_mem_le ht) hz')
    obtain ⟨as, ra⟩ := RdEAll.reads h4
    have hna : a ∉ bs := not_mem_of_deeper (.list h1 h2 h3 ra) (by simp only [PyData.depth]; omega) hb
    refine ⟨"list", "list.__repr__", F.slot_list_repr.toG, F.slot_list_str, F.slot_list_format, fun s hk0 => ⟨o, hk0 _ _ h1, h2⟩, fun A E s Q hg hu hk0 hQ => ?_⟩
    simp only [PyData.depth] at hu
    simp only [PyData.shown] at hQ
    obtain ⟨l⟩ := vs
    cases l with
    | nil =>
      have h4' : RdEAll h₀ [] xs := h4
      cases h4'
      simp only [PyData.shownAll, listText_nil] at hQ
      exact call_list_repr_empty ⟨o, hk0 _ _ h1, h2⟩ (hk0 _ _ h1) h3 (hQ s.heap _ _ fun _ _ e => e)
    | cons x l =>
      exact call_list_reprK h1 h2 h3 hna (by simpa using hk.length_eq) (fun i y e => hk.item i y (by simpa using e)) hg (fun b _ => Clear.nil b) hu hk0 hQ hz'
  | tuple h1 h2 h3 h4 =>
    rename_i o vs n xs
    have hz' : (tupleText (PyData.shownAll xs)).length ≤ sizeLine := by simpa only [PyData.shown] using hsz
    obtain ⟨bs, hb, hk⟩ := reprAllK_e (prog := prog) (w := w) h4 (by simpa [PyData.showable] using hs) (fun t ht => Nat.le_trans (tupleText_mem_le ht) hz')
    obtain ⟨as, ra⟩ := RdEAll.reads h4
    have hna : a ∉ bs := not_mem_of_deeper (.tuple h1 h2 h3 ra) (by simp only [PyData.depth]; omega) hb
    refine ⟨"tuple", "tuple.__repr__", F.slot_tuple_repr, F.slot_tuple_str, F.slot_tuple_format, fun s hk0 => ⟨o, hk0 _ _ h1, h2⟩, fun A E s Q hg hu hk0 hQ => ?_⟩
    simp only [PyData.depth] at hu
    simp only [PyData.shown] at hQ
    exact call_tuple_reprK h1 h2 h3 hna hk hg (fun b _ => Clear.nil b) hu hk0 hQ hz'
  | emp h1 h2 h3 hsys =>
    rename_i o n
    refine ⟨"dict", "dict.__repr__", F.slot_dict_repr, F.slot_dict_str, F.slot_dict_format, fun s hk0 => ⟨o, hk0 _ _ h1, h2⟩, fun A E s Q hg hu hk0 hQ => ?_⟩
    simp only [PyData.depth] at hu
    simp only [PyData.shown, PyData.shownKv_eq] at hQ
    exact call_dict_reprK (as := []) h1 h2 h3 hsys (fun h => nomatch h) .nil hg (fun b _ => Clear.nil b) hu hk0 hQ (by decide +kernel)
theorem repr_e {A : Around} {E : Value → Shared → Prop} {s : Shared} {Q : Value → Shared → Prop} {a : Addr} {d : PyData} (r : RdE h₀ (.ref a) d) (hs : d.showable = true) (hg : A.guards = some []) (hu : A.units + (d.depth + 1) < cLine) (hk0 : ∀ b o, h₀.get? b = some o → s.heap.get? b = some o)
    (hQ : ∀ h' u tk, (∀ b o, s.heap.get? b = some o → h'.get? b = some o) → Q (.str d.shown u) { s with heap := h', toks := tk }) (hsz : d.shown.length ≤ sizeLine) : wpAny (model prog w) A (call (.builtin "repr") [.ref a]) Q E s := by
  obtain ⟨T, idr, S⟩ := showsBy_e (prog := prog) (w := w) r hs hsz
  exact call_repr_slot (by omega) (S.typeIs s hk0) S.slotRepr (S.call A.in1 E s _ hg (by show A.units + 1 + d.depth < cLine; omega) hk0 fun h' u tk hk => ⟨_, _, rfl, hQ h' u tk hk⟩)
end
/-! ### plain data -/
mutual
inductive RsE (μ : Mu) : D → PyData → Prop
  | non : RsE μ .non .none
  | bl (b : Bool) : RsE μ (.bl b) (.bool b)
  | int (i : Int) : RsE μ (.int i) (.int i)
  | str (x : Str) : RsE μ (.str x) (.str x)
  | emp : RsE μ .emp (.dict [])
  | tup {ds : List D} {ps : List PyData} : RsEAll μ ds ps → RsE μ (.tup ds) (.tuple ps)
  | frz {ds : List D} {ps : List PyData} : RsEAll μ ds ps → RsE μ (.frz ds) (.list ps)
  | cell {k : Nat} {ds : List D} {ps : List PyData} : μ k = some ds → RsEAll μ ds ps → RsE μ (.cell k) (.list ps)
inductive RsEAll (μ : Mu) : List D → List PyData → Prop
  | nil : RsEAll μ [] []
  | cons {d : D} {ds : List D} {p : PyData} {ps : List PyData} : RsE μ d p → RsEAll μ ds ps → RsEAll μ (d :: ds) (p :: ps)
end
mutual
inductive DpE (K : PySem.W.Frag) (H : Hp) : V → PyData → Prop
  | non : DpE K H .non .none
  | bl (b : Bool) : DpE K H (.bl b) (.bool b)
  | int (i : Int) : DpE K H (.int i) (.int i)
  | str (x : Str) : DpE K H (.str x) (.str x)
  | emp {a : Addr} : H a = some (.dK []) → DpE K H (.ref a) (.dict [])
  | lst {a : Addr} {xs : List V} {ds : List PyData} : SqL K H a xs → DpEAll K H xs ds → DpE K H (.ref a) (.list ds)
  | tup {a : Addr} {xs : List V} {ds : List PyData} : SqT K H a xs → DpEAll K H xs ds → DpE K H (.ref a) (.tuple ds)
inductive DpEAll (K : PySem.W.Frag) (H : Hp) : List V → List PyData → Prop
  | nil : DpEAll K H [] []
  | cons {v : V} {vs : List V} {d : PyData} {ds : List PyData} : DpE K H v d → DpEAll K H vs ds → DpEAll K H (v :: vs) (d :: ds)
end
section
variable {K : PySem.W.Frag} {α : List Addr} {H : Hp}
mutual
theorem rl_dpE {μ : Mu} (S : Sat K α H μ) : ∀ {d : D} {p : PyData} {v : V}, RsE μ d p → Rl K α H v d → DpE K H v p
  | _, _, _, .non, .non => .non
  | _, _, _, .bl b, .bl _ => .bl b
  | _, _, _, .int i, .int _ => .int i
  | _, _, _, .str x, .str _ => .str x
  | _, _, _, .emp, .emp q => .emp q
  | _, _, _, .tup r, .tup q r' => .tup q (rl_dpEAll S r r')
  | _, _, _, .frz r, .frz q r' => .lst q.seq (rl_dpEAll S r r')
  | _, _, _, .cell e r, .cell q => by
    obtain ⟨a, vs, h1, h2, h3⟩ := S.cell _ _ e
    rw [q] at h1
    cases h1
    exact .lst (.inl (.inl h2)) (rl_dpEAll S r h3)
theorem rl_dpEAll {μ : Mu} (S : Sat K α H μ) : ∀ {ds : List D} {ps : List PyData} {vs : List V}, RsEAll μ ds ps → RlAll K α H vs ds → DpEAll K H vs ps
  | _, _, _, .nil, .nil => .nil
  | _, _, _, .cons a b, .cons a' b' => .cons (rl_dpE S a a') (rl_dpEAll S b b')
end
end
section
variable {X : Cx} {pins : List (Addr × Obj)} {σ : L2.St} {H : Hp} {s : Shared}
mutual
theorem DpE.rd (I : Inv X pins σ H s) : ∀ (d : PyData) (v : V) (u : Value), DpE X.K H v d → RelV v u → RdE s.heap u d
  | .none, _, _, h, r => by
    cases h
    cases r
    exact .none
  | .bool b, _, _, h, r => by
    cases h
    cases r
    exact .bool b
  | .int i, _, _, h, r => by
    cases h
    obtain ⟨t, rfl⟩ := r
    exact .int i t
  | .str x, _, _, h, r => by
    cases h
    obtain ⟨t, rfl⟩ := r
    exact .str x t
  | .list ds, _, _, h, r => by
    cases h with
    | lst hs ha =>
      cases r
      obtain ⟨its, rv, ⟨o, n, ho, hc, _, hd⟩, _⟩ := I.list hs
      exact .list ho hc hd (DpE.rdAll I ds _ its ha rv)
  | .tuple ds, _, _, h, r => by
    cases h with
    | tup hs ha =>
      cases r
      obtain ⟨its, rv, ⟨o, ho, hc, n, hd⟩, _⟩ := I.tuple hs
      exact .tuple ho hc hd (DpE.rdAll I ds _ its ha rv)
  | .dict _, _, _, h, r => by
    cases h with
    | emp e =>
      cases r
      obtain ⟨hz, hS, vs, kv, m⟩ := I.hok _ _ e
      cases kv
      obtain ⟨o, es, ep, ho, hx, hd, _, hp, _⟩ := m
      have e0 : es = #[] := by
        have hp : Pairs _ es.toList [] := hp
        obtain ⟨l⟩ := es
        cases l with
        | nil => rfl
        | cons x l => cases hp
      subst e0
      exact .emp ho hx.1 hd hS
theorem DpE.rdAll (I : Inv X pins σ H s) : ∀ (ds : List PyData) (vs : List V) (us : List Value), DpEAll X.K H vs ds → Vals vs us → RdEAll s.heap us ds
  | [], _, _, h, r => by
    cases h
    cases r
    exact .nil
  | d :: ds, _, _, h, r => by
    cases h with
    | cons h1 h2 =>
      cases r with
      | cons r1 r2 => exact .cons (DpE.rd I d _ _ h1 r1) (DpE.rdAll I ds _ _ h2 r2)
end
def cRepr3 : List D → Mu → DK → Prop := fun ds μ Q => cRepr2 ds μ Q ∨ ∃ x p, ds = [x] ∧ RsE μ x p ∧ p.showable = true ∧ p.depth ≤ 60 ∧ p.shown.length ≤ sizeLine ∧ Q (.str p.shown) μ
theorem c_repr3 (hgd : X.A.guards = some []) (hu : X.A.units + 64 < cLine) : CallD X (.builtin "repr") cRepr3 := by
  obtain ⟨r, h1, h2⟩ := (c_repr2 (X := X) hgd hu).ex
  refine ⟨fun xs H Q => (∃ v d, xs = [v] ∧ DpE X.K H v d ∧ d.showable = true ∧ d.depth ≤ 60 ∧ d.shown.length ≤ sizeLine ∧ Q (.str d.shown) H) ∨ r xs H Q, ?_, ?_⟩
  · intro pins s σ H xs us Q I vr h
    rcases h with ⟨v, d, rfl, hd, h2, h4, h5, q⟩ | h
    · obtain ⟨u, rfl, rv⟩ := vals1 vr
      have rd := hd.rd I d v u rv
      have big : ∀ a, u = .ref a → wpAny (model X.prog X.w) X.A (call (.builtin "repr") [u]) (EP X pins σ Q) X.xe s := fun a ea => by
        subst ea
        refine repr_e rd h2 hgd (by omega) (fun _ _ e => e) (fun h' t tk hk => ?_) h5
        exact ⟨.str d.shown, H, I.kept (t' := tk) hk, ⟨t, rfl⟩, q⟩
      cases rd with
      | none =>
        refine P.repr_of_none ?_
        exact ⟨.str _, H, I.kept (t' := s.toks + 1) (fun _ _ e => e), ⟨_, rfl⟩, by simp only [PyData.shown] at q; exact q⟩
      | bool b =>
        refine P.repr_of_bool ?_
        exact ⟨.str _, H, I.kept (t' := s.toks + 1) (fun _ _ e => e), ⟨_, rfl⟩, by simp only [PyData.shown] at q; cases b <;> exact q⟩
      | int i t =>
        refine P.repr_of_int (by simpa [PyData.showable] using h2) ?_
        exact ⟨.str _, H, I.kept (t' := s.toks + 1) (fun _ _ e => e), ⟨_, rfl⟩, by simp only [PyData.shown] at q; exact q⟩
      | str x t =>
        refine P.repr_of_str ?_ (by simpa only [PyData.shown] using h5)
        exact ⟨.str _, H, I.kept (t' := s.toks + 1) (fun _ _ e => e), ⟨_, rfl⟩, by simp only [PyData.shown] at q; exact q⟩
      | list => exact big _ rfl
      | tuple => exact big _ rfl
      | emp => exact big _ rfl
    · exact h1 pins s σ H xs us Q I vr h
  · intro α H μ xs dxs Qd Q S rx h post
    rcases h with h | ⟨x, p, rfl, h0, h2, h4, h5, q⟩
    · exact .inr (h2 α H μ xs _ Qd Q S rx h post)
    · obtain ⟨v, rfl, rv⟩ := rl1 rx
      exact .inl ⟨v, p, rfl, rl_dpE S h0 rv, h2, h4, h5, post.here S (.str _) q⟩
end
end Dl
/-! An: any values: nested tuples and lists of numbers, texts, True, False, None, {}. -/
namespace Dl
open PySem PySem.Spec PyProof.Rows L2
mutual
def good : PyData → Bool
  | .none | .bool _ => true
  | .int i => decide (i.natAbs < 10 ^ 21)
  | .str x => x.cps.toList.all fun c => decide (c < 16 ^ 8)
  | .list xs | .tuple xs => goodAll xs
  | .dict [] => true
  | .dict _ => false
def goodAll : List PyData → Bool
  | [] => true
  | x :: xs => good x && goodAll xs
end
mutual
theorem good_show : ∀ p : PyData, good p = true → p.showable = true
  | .none, _ => by simp [PyData.showable]
  | .bool _, _ => by simp [PyData.showable]
  | .int i, h => by
    simp only [good, decide_eq_true_eq] at h
    simp only [PyData.showable]
    exact decide_eq_true (log_of (by omega))
  | .str _, _ => by simp [PyData.showable]
  | .list xs, h => by simp only [PyData.showable]; exact good_showAll xs (by simpa only [good] using h)
  | .tuple xs, h => by simp only [PyData.showable]; exact good_showAll xs (by simpa only [good] using h)
  | .dict [], _ => by simp [PyData.showable, PyData.showableKv]
  | .dict (a :: l), h => by simp [good] at h
theorem good_showAll : ∀ ps : List PyData, goodAll ps = true → PyData.showableAll ps = true
  | [], _ => by simp [PyData.showableAll]
  | p :: ps, h => by
    simp only [goodAll, Bool.and_eq_true] at h
    simp only [PyData.showableAll, good_show p h.1, good_showAll ps h.2, Bool.and_self]
end
mutual
theorem good_short : ∀ p : PyData, good p = true → p.leavesShort 24 = true
  | .none, _ => by simp [PyData.leavesShort]
  | .bool _, _ => by simp [PyData.leavesShort]
  | .int i, h => by
    simp only [good, decide_eq_true_eq] at h
    simp only [PyData.leavesShort]
    refine decide_eq_true ?_
    have := PySem.int_text_length_le10 (a := i) (k := 22) (by decide) (by omega)
    have e := PySem.ofString_length (toString i)
    show (Str.ofString (toString i)).length ≤ 24
    omega
  | .str _, h => by simpa only [good, PyData.leavesShort] using h
  | .list xs, h => by simp only [PyData.leavesShort]; exact good_shortAll xs (by simpa only [good] using h)
  | .tuple xs, h => by simp only [PyData.leavesShort]; exact good_shortAll xs (by simpa only [good] using h)
  | .dict [], _ => by simp [PyData.leavesShort, PyData.leavesShortKv]
  | .dict (a :: l), h => by simp [good] at h
theorem good_shortAll : ∀ ps : List PyData, goodAll ps = true → PyData.leavesShortAll 24 ps = true
  | [], _ => by simp [PyData.leavesShortAll]
  | p :: ps, h => by
    simp only [goodAll, Bool.and_eq_true] at h
    simp only [PyData.leavesShortAll, good_short p h.1, good_shortAll ps h.2, Bool.and_self]
end
mutual
theorem RsE.mono {μ μ' : Mu} (s : Mu.Sub μ μ') : ∀ {d : D} {p : PyData}, RsE μ d p → RsE μ' d p
  | _, _, .non => .non
  | _, _, .bl b => .bl b
  | _, _, .int i => .int i
  | _, _, .str x => .str x
  | _, _, .emp => .emp
  | _, _, .tup r => .tup (RsEAll.mono s r)
  | _, _, .frz r => .frz (RsEAll.mono s r)
  | _, _, .cell e r => .cell (s _ _ e) (RsEAll.mono s r)
theorem RsEAll.mono {μ μ' : Mu} (s : Mu.Sub μ μ') : ∀ {ds : List D} {ps : List PyData}, RsEAll μ ds ps → RsEAll μ' ds ps
  | _, _, .nil => .nil
  | _, _, .cons a b => .cons (RsE.mono s a) (RsEAll.mono s b)
end
/-- any value of a size, of a depth -/
structure AvP (μ : Mu) (d : D) (p : PyData) (n k : Nat) : Prop where
  rs : RsE μ d p
  gd : good p = true
  bk : p.bulk ≤ n
  dp : p.depth ≤ k
structure AvPs (μ : Mu) (ds : List D) (ps : List PyData) (n k : Nat) : Prop where
  rs : RsEAll μ ds ps
  gd : goodAll ps = true
  bk : PyData.bulkAll ps ≤ n
  dp : PyData.depthAll ps ≤ k
def Av (μ : Mu) (d : D) (n k : Nat) : Prop := ∃ p, AvP μ d p n k
def Avs (μ : Mu) (ds : List D) (n k : Nat) : Prop := ∃ ps, AvPs μ ds ps n k
section
variable {μ μ' : Mu} {d : D} {ds es : List D} {n m k l : Nat}
theorem Av.mono (s : Mu.Sub μ μ') (h : Av μ d n k) : Av μ' d n k := by
  obtain ⟨p, a, b, c, e⟩ := h
  exact ⟨p, a.mono s, b, c, e⟩
theorem Avs.mono (s : Mu.Sub μ μ') (h : Avs μ ds n k) : Avs μ' ds n k := by
  obtain ⟨p, a, b, c, e⟩ := h
  exact ⟨p, a.mono s, b, c, e⟩
theorem Av.up (h : Av μ d n k) (hn : n ≤ m) (hk : k ≤ l) : Av μ d m l := by
  obtain ⟨p, a, b, c, e⟩ := h
  exact ⟨p, a, b, Nat.le_trans c hn, Nat.le_trans e hk⟩
theorem Avs.up (h : Avs μ ds n k) (hn : n ≤ m) (hk : k ≤ l) : Avs μ ds m l := by
  obtain ⟨p, a, b, c, e⟩ := h
  exact ⟨p, a, b, Nat.le_trans c hn, Nat.le_trans e hk⟩
theorem Av.non : Av μ .non 0 0 := ⟨_, .non, by simp [good], by simp [PyData.bulk], by simp [PyData.depth]⟩
theorem Av.bl (b : Bool) : Av μ (.bl b) 0 0 := ⟨_, .bl b, by simp [good], by simp [PyData.bulk], by simp [PyData.depth]⟩
theorem Av.emp : Av μ .emp 0 1 := ⟨_, .emp, by simp [good], by simp [PyData.bulk, PyData.bulkKv], by simp [PyData.depth, PyData.depthKv]⟩
theorem Av.int {i : Int} (h : i.natAbs < 10 ^ 21) : Av μ (.int i) 0 0 := ⟨_, .int i, by simp only [good]; exact decide_eq_true h, by simp [PyData.bulk], by simp [PyData.depth]⟩
theorem Av.str {x : Str} (h : (x.cps.toList.all fun c => decide (c < 16 ^ 8)) = true) : Av μ (.str x) x.cps.size 0 := ⟨_, .str x, by simp only [good]; exact h, by simp [PyData.bulk], by simp [PyData.depth]⟩
theorem Avs.nil : Avs μ [] 0 0 := ⟨_, .nil, by simp [goodAll], by simp [PyData.bulkAll], by simp [PyData.depthAll]⟩
theorem Avs.cons (h : Av μ d n k) (t : Avs μ ds m k) : Avs μ (d :: ds) (n + 1 + m) k := by
  obtain ⟨p, a, b, c, e⟩ := h
  obtain ⟨ps, a', b', c', e'⟩ := t
  refine ⟨p :: ps, .cons a a', by simp only [goodAll, b, b', Bool.and_self], ?_, ?_⟩
  · simp only [PyData.bulkAll]
    omega
  · simp only [PyData.depthAll]
    omega
theorem Av.tup (h : Avs μ ds n k) : Av μ (.tup ds) n (k + 1) := by
  obtain ⟨ps, a, b, c, e⟩ := h
  refine ⟨.tuple ps, .tup a, by simpa only [good] using b, by simpa only [PyData.bulk] using c, ?_⟩
  simp only [PyData.depth]
  omega
theorem Av.cell {j : Nat} (e : μ j = some ds) (h : Avs μ ds n k) : Av μ (.cell j) n (k + 1) := by
  obtain ⟨ps, a, b, c, e'⟩ := h
  refine ⟨.list ps, .cell e a, by simpa only [good] using b, by simpa only [PyData.bulk] using c, ?_⟩
  simp only [PyData.depth]
  omega
theorem Av.untup (h : Av μ (.tup ds) n k) : Avs μ ds n (k - 1) ∧ 1 ≤ k := by
  obtain ⟨p, a, b, c, e⟩ := h
  cases a with
  | @tup _ ps a =>
    simp only [good] at b
    simp only [PyData.bulk] at c
    simp only [PyData.depth] at e
    exact ⟨⟨ps, a, b, c, by omega⟩, by omega⟩
theorem Avs.head (h : Avs μ (d :: ds) n k) : Av μ d n k ∧ Avs μ ds n k ∧ 1 ≤ n := by
  obtain ⟨p, a, b, c, e⟩ := h
  cases a with
  | @cons _ _ q qs a a' =>
    simp only [goodAll, Bool.and_eq_true] at b
    simp only [PyData.bulkAll] at c
    simp only [PyData.depthAll] at e
    exact ⟨⟨q, a, b.1, by omega, by omega⟩, ⟨qs, a', b.2, by omega, by omega⟩, by omega⟩
theorem Avs.get : ∀ {ds : List D} {n : Nat}, Avs μ ds n k → ∀ x ∈ ds, Av μ x n k
  | [], _, _, x, hx => nomatch hx
  | d :: ds, n, h, x, hx => by
    cases hx with
    | head => exact h.head.1
    | tail _ hx => exact Avs.get h.head.2.1 x hx
theorem Avs.len : ∀ {ds : List D} {n : Nat}, Avs μ ds n k → ds.length ≤ n
  | [], _, _ => Nat.zero_le _
  | d :: ds, n, h => by
    obtain ⟨p, a, b, c, e⟩ := h
    cases a with
    | @cons _ _ q qs a a' =>
      simp only [goodAll, Bool.and_eq_true] at b
      simp only [PyData.bulkAll] at c
      simp only [PyData.depthAll] at e
      have := Avs.len (ds := ds) (n := PyData.bulkAll qs) ⟨qs, a', b.2, Nat.le_refl _, by omega⟩
      rw [List.length_cons]
      omega
theorem Avs.app : ∀ {ds : List D} {n : Nat}, Avs μ ds n k → Avs μ es m k → Avs μ (ds ++ es) (n + m) k
  | [], _, _, h => h.up (by omega) (Nat.le_refl _)
  | d :: ds, n, h, h' => by
    obtain ⟨p, a, b, c, e⟩ := h
    cases a with
    | @cons _ _ q qs a a' =>
      simp only [goodAll, Bool.and_eq_true] at b
      simp only [PyData.bulkAll] at c
      simp only [PyData.depthAll] at e
      have h1 : Av μ d (PyData.bulk q) k := ⟨q, a, b.1, Nat.le_refl _, by omega⟩
      have h2 := Avs.app (ds := ds) (n := PyData.bulkAll qs) ⟨qs, a', b.2, Nat.le_refl _, by omega⟩ h'
      exact (Avs.cons h1 h2).up (by omega) (Nat.le_refl _)
theorem Avs.take : ∀ {ds : List D} {n : Nat} (j : Nat), Avs μ ds n k → Avs μ (ds.take j) n k
  | ds, n, 0, h => by
    rw [List.take_zero]
    exact Avs.nil.up (Nat.zero_le _) (Nat.zero_le _)
  | [], n, j + 1, h => by
    rw [List.take_nil]
    exact h
  | d :: ds, n, j + 1, h => by
    obtain ⟨p, a, b, c, e⟩ := h
    cases a with
    | @cons _ _ q qs a a' =>
      simp only [goodAll, Bool.and_eq_true] at b
      simp only [PyData.bulkAll] at c
      simp only [PyData.depthAll] at e
      have h1 : Av μ d (PyData.bulk q) k := ⟨q, a, b.1, Nat.le_refl _, by omega⟩
      have h2 := Avs.take (ds := ds) (n := PyData.bulkAll qs) j ⟨qs, a', b.2, Nat.le_refl _, by omega⟩
      rw [List.take_succ_cons]
      exact (Avs.cons h1 h2).up (by omega) (Nat.le_refl _)
theorem Avs.drop : ∀ {ds : List D} {n : Nat} (j : Nat), Avs μ ds n k → Avs μ (ds.drop j) n k
  | ds, n, 0, h => h
  | [], n, j + 1, h => by
    rw [List.drop_nil]
    exact h
  | d :: ds, n, j + 1, h => by
    rw [List.drop_succ_cons]
    exact Avs.drop j h.head.2.1
theorem Avs.rev : ∀ {ds : List D} {n : Nat}, Avs μ ds n k → Avs μ ds.reverse n k
  | [], n, h => h
  | d :: ds, n, h => by
    obtain ⟨p, a, b, c, e⟩ := h
    cases a with
    | @cons _ _ q qs a a' =>
      simp only [goodAll, Bool.and_eq_true] at b
      simp only [PyData.bulkAll] at c
      simp only [PyData.depthAll] at e
      have h1 : Av μ d (PyData.bulk q) k := ⟨q, a, b.1, Nat.le_refl _, by omega⟩
      have h2 := Avs.rev (ds := ds) (n := PyData.bulkAll qs) ⟨qs, a', b.2, Nat.le_refl _, by omega⟩
      rw [List.reverse_cons]
      exact (h2.app (Avs.cons h1 (Avs.nil.up (Nat.le_refl _) (Nat.zero_le _)))).up (by omega) (Nat.le_refl _)
theorem Avs.ints : ∀ {ns : List Int}, (∀ x ∈ ns, x.natAbs < 10 ^ 21) → Avs μ (ns.map D.int) ns.length 0
  | [], _ => Avs.nil
  | x :: ns, h => (Avs.cons (Av.int (h x (List.mem_cons_self ..))) (Avs.ints fun y hy => h y (List.mem_cons_of_mem _ hy))).up (by rw [List.length_cons]; omega) (Nat.le_refl _)
/-- what it is -/
theorem Av.shape (h : Av μ d n k) : d = .non ∨ (∃ b, d = .bl b) ∨ (∃ i : Int, d = .int i ∧ i.natAbs < 10 ^ 21) ∨ (∃ x, d = .str x) ∨ d = .emp ∨ (∃ ds, d = .tup ds ∧ Avs μ ds n (k - 1)) ∨ (∃ ds, d = .frz ds) ∨ ∃ j ds, d = .cell j ∧ μ j = some ds := by
  obtain ⟨p, a, b, c, e⟩ := h
  cases a with
  | non => exact .inl rfl
  | bl b2 => exact .inr (.inl ⟨b2, rfl⟩)
  | int i => exact .inr (.inr (.inl ⟨i, rfl, by simpa only [good, decide_eq_true_eq] using b⟩))
  | str x => exact .inr (.inr (.inr (.inl ⟨x, rfl⟩)))
  | emp => exact .inr (.inr (.inr (.inr (.inl rfl))))
  | @tup ds ps a => exact .inr (.inr (.inr (.inr (.inr (.inl ⟨ds, rfl, (Av.untup ⟨_, .tup a, b, c, e⟩).1⟩)))))
  | frz a => exact .inr (.inr (.inr (.inr (.inr (.inr (.inl ⟨_, rfl⟩))))))
  | cell q a => exact .inr (.inr (.inr (.inr (.inr (.inr (.inr ⟨_, _, rfl, q⟩))))))
/-- shown: a text, the same each time -/
theorem ask_any {p : PyData} {Q : DK} (h : AvP μ d p n k) (h1 : n ≤ 100000) (h2 : k ≤ 60) (q : Q (.str p.shown) μ) : cRepr3 [d] μ Q := by
  refine .inr ⟨d, p, rfl, h.rs, good_show p h.gd, Nat.le_trans h.dp h2, ?_, q⟩
  have a := PyData.shown_le_bulk 24 (by decide) p (good_short p h.gd)
  have b := h.bk
  have s : 13000024 ≤ sizeLine := by decide
  omega
end
end Dl
namespace K10
open PySem PySem.Spec PyProof.Rows L2 Dl
local macro_rules | `(tactic| walk_at "ev") => `(tactic| try simp -dsimp only [↓dSeq_at, cInt2, oIs2, oNot2, dRet, dRetN, dNext, dIfS, dAsg, dDrop, dPar, dNever, dVar, dC, dOp, dUn, dTest, dChain, dAnd, dOr, dNot, dIf, dtAnd, dtOr, dtNot, dTup, daNil, daCons, dCall, dFn, dFnK, dNew, dLst, dOf,
  gdName, gdTup, gdCons, gdNil, gdSub, rdI, rdI0, oPlus, oSub, oTimes, oDiv, oMod, oPow, oLt, oLe, oGt, oGe, oIx, oEq, oNe, uNeg, oIsN, oNotN, D.isNon, cAbs, cMax, cMin, cInt, cDivmod, cLen, cIsi, tyD, items, litems, retD, sTup, mApp, dYes,
  atI_0, atI_1, atI_2, atI_3, atI_4, ixN_20, ixN_21, kit_ii, kit_ib, kit_is, kit_it, kit_il, kit_bi, kit_bb, kit_bs, kit_bt, kit_bl, kit_si, kit_sb, kit_ss, kit_st, kit_sl, kit_ti, kit_tb, kit_ts, kit_tt, kit_tl, kit_li, kit_lb, kit_ls, kit_lt, kit_ll,
  List.getElem?_cons_zero, List.getElem?_cons_succ, List.set_cons_zero, List.set_cons_succ, List.length_cons, List.length_nil, Mu.upd_same, Mu.upd_upd, Nat.zero_add, Nat.reduceAdd, Nat.reduceLeDiff, natlit, Int.reduceEq, Int.reduceLT, Int.reduceLE, Int.reduceAdd, Int.reduceSub, Int.reduceMul, Int.reducePow, Int.reduceNeg, permG2_10, permG3_210, zl_0, zl_1, zl_2, zl_3, zl_4, zl_5, zl_6, zl_7, zl_8, zl_9, zl_10, zl_11, zl_12, zl_13, zl_14, zl_15, zl_16, zl_17, zl_18, zl_19, zl_20, true_and, and_true, eq_self, not_true_eq_false, not_false_eq_true, decide_true, decide_false, if_true, Bool.false_eq_true, if_false, Bool.not_true, Bool.not_false, decide_eq_true_eq, Bool.not_eq_true', decide_eq_false_iff_not, Option.isSome, Option.map])
/-! ## numbers -/
theorem gcd_step (a b : Int) (hb : 0 < b) : Int.gcd b (a % b) = Int.gcd a b := by
  have h := Int.gcd_add_mul_right_right b (a % b) (a / b)
  rw [Int.mul_comm (a / b) b, Int.emod_add_mul_ediv] at h
  rw [← h, Int.gcd_comm]
/-- in lowest terms -/
def low (t b : Int) : Int × Int := (t / (Int.gcd t b : Int), b / (Int.gcd t b : Int))
def fr (p : Int × Int) : D := .tup [.int p.1, .int p.2]
theorem gcd_pos {t b : Int} (hb : 0 < b) : 0 < (Int.gcd t b : Int) := by
  have h : 0 < Int.gcd t b := Int.gcd_pos_of_ne_zero_right t (by omega)
  omega
theorem gcd_le {t b : Int} (hb : 0 < b) : (Int.gcd t b : Int) ≤ b := Int.le_of_dvd hb (Int.gcd_dvd_right t b)
theorem max_gcd {t b : Int} (hb : 0 < b) : max 1 (Int.gcd t b : Int) = Int.gcd t b := by
  have := gcd_pos (t := t) hb
  omega
/-! ## the divisor -/
def sp_common : DSp := fun ds μ Q => match ds with | [.int a, .int b] => (0 ≤ a ∧ 0 ≤ b) ∧ Q (.int (max 1 (Int.gcd a b : Int))) μ | _ => False
theorem len_common : ∀ ds μ Q, sp_common ds μ Q → ds.length = (["near", "far"] : List Str).length := by
  intro ds μ Q h
  unfold sp_common at h
  split at h <;> first | rfl | exact h.elim
def db_common : DTS := (dSeq (dWhile (dTest (dOp oGt (dVar 1) (dC (.int 0)))) (dPar 0 1 (daCons (dVar 1) (daCons (dOp oMod (dCall cInt2 (daCons (dVar 0) daNil)) (dVar 1)) daNil)))) (dRet (dCall cMax (daCons (dC (.int 1)) (daCons (dVar 0) daNil)))))
theorem gcd_while (a b : Int) (ha : 0 ≤ a) (hb : 0 ≤ b) (μ : Mu) (dc : DTT) (db : DTS) (D : DEnds)
    (hc : ∀ x y : Int, ∀ Q, Q (decide (0 < y)) μ → dc [some (.int x), some (.int y)] μ Q)
    (hbd : ∀ (x y : Int) (D : DEnds), 0 < y → D.nx [some (.int y), some (.int (x % y))] μ → db D [some (.int x), some (.int y)] μ)
    (h : D.nx [some (.int (Int.gcd a b : Int)), some (.int 0)] μ) : dWhile dc db D [some (.int a), some (.int b)] μ := by
  refine ⟨fun ρ' μ' => μ' = μ ∧ ∃ x y : Int, ρ' = [some (.int x), some (.int y)] ∧ 0 ≤ x ∧ 0 ≤ y ∧ Int.gcd x y = Int.gcd a b,
    fun ρ' _ => match ρ' with | [_, some (.int y)] => y.toNat | _ => 0, ⟨rfl, a, b, rfl, ha, hb, rfl⟩, fun ρ' μ' w => ?_⟩
  obtain ⟨rfl, x, y, rfl, hx, hy, hg⟩ := w
  refine hc x y _ ?_
  by_cases h0 : 0 < y
  · rw [decide_eq_true h0, if_pos rfl]
    refine hbd x y _ h0 ?_
    have h1 := Int.emod_nonneg x (show y ≠ 0 by omega)
    have h2 := Int.emod_lt_of_pos x h0
    refine ⟨⟨rfl, y, x % y, rfl, by omega, h1, ?_⟩, ?_⟩
    · rw [gcd_step x y h0, hg]
    · show (x % y).toNat < y.toNat
      omega
  · rw [decide_eq_false h0, if_neg (by decide)]
    have e : y = 0 := by omega
    subst e
    rw [Int.gcd_zero_right] at hg
    have e2 : x = (Int.gcd a b : Int) := by omega
    rw [e2]
    exact h
theorem pf_common : ∀ ds μ Q, sp_common ds μ Q → db_common (retD Q) (startD ["near", "far"] ds) μ := by
  intro ds μ Q h
  unfold sp_common at h
  split at h
  · rename_i a b
    obtain ⟨⟨ha, hb⟩, h⟩ := h
    refine gcd_while a b ha hb μ _ _ _ (fun x y Q q => ?_) (fun x y D hy q => ?_) ?_
    · walk_at "ev"
      exact q
    · walk_at "ev"
      exact ⟨hy, q⟩
    · refine ⟨_, Mu.Sub.refl _, ?_⟩
      walk_at "ev"
      exact ⟨_, Mu.Sub.refl _, h⟩
  · exact h.elim
def sp_law_divisor : DSp := fun ds μ Q => match ds with | [.int a, .int b] => (0 ≤ a ∧ 0 ≤ b) ∧ Q (.int (max 1 (Int.gcd a b : Int))) μ | _ => False
theorem len_law_divisor : ∀ ds μ Q, sp_law_divisor ds μ Q → ds.length = (["near", "far"] : List Str).length := by
  intro ds μ Q h
  unfold sp_law_divisor at h
  split at h <;> first | rfl | exact h.elim
def db_law_divisor : DTS := (dSeq (dWhile (dTest (dOp oGt (dVar 1) (dC (.int 0)))) (dPar 0 1 (daCons (dVar 1) (daCons (dCall cInt2 (daCons (dOp oMod (dVar 0) (dVar 1)) daNil)) daNil)))) (dRet (dCall cMax (daCons (dC (.int 1)) (daCons (dVar 0) daNil)))))
theorem pf_law_divisor : ∀ ds μ Q, sp_law_divisor ds μ Q → db_law_divisor (retD Q) (startD ["near", "far"] ds) μ := by
  intro ds μ Q h
  unfold sp_law_divisor at h
  split at h
  · rename_i a b
    obtain ⟨⟨ha, hb⟩, h⟩ := h
    refine gcd_while a b ha hb μ _ _ _ (fun x y Q q => ?_) (fun x y D hy q => ?_) ?_
    · walk_at "ev"
      exact q
    · walk_at "ev"
      exact ⟨hy, q⟩
    · refine ⟨_, Mu.Sub.refl _, ?_⟩
      walk_at "ev"
      exact ⟨_, Mu.Sub.refl _, h⟩
  · exact h.elim
/-! ## lowest terms -/
theorem gcd_abs (t b : Int) : Int.gcd (t.natAbs : Int) b = Int.gcd t b := by
  show Nat.gcd (Int.natAbs (t.natAbs : Int)) b.natAbs = Nat.gcd t.natAbs b.natAbs
  rw [Int.natAbs_natCast]
def sp_lowest : DSp := fun ds μ Q => match ds with | [.int t, .int b] => (0 < b ∧ b < 2 ^ 200) ∧ Q (fr (low t b)) μ | _ => False
theorem len_lowest : ∀ ds μ Q, sp_lowest ds μ Q → ds.length = (["top", "bottom"] : List Str).length := by
  intro ds μ Q h
  unfold sp_lowest at h
  split at h <;> first | rfl | exact h.elim
def db_lowest : DTS := (dSeq (dAsg (dFn sp_common (daCons (dCall cAbs (daCons (dVar 0) daNil)) (daCons (dVar 1) daNil))) (gdName 2)) (dRet (dTup (daCons (dOp oDiv (dVar 0) (dVar 2)) (daCons (dOp oDiv (dVar 1) (dVar 2)) daNil)))))
theorem pf_lowest : ∀ ds μ Q, sp_lowest ds μ Q → db_lowest (retD Q) (startD ["top", "bottom", "many"] ds) μ := by
  intro ds μ Q h
  unfold sp_lowest at h
  split at h
  · rename_i t b
    obtain ⟨⟨h0, h1⟩, h⟩ := h
    show db_lowest (retD Q) [some (.int t), some (.int b), none] μ
    unfold db_lowest
    refine sq fun U hU => ?_
    walk_at "ev"
    refine ⟨⟨by omega, by omega⟩, ?_⟩
    refine hU.go ?_
    walk_at "ev"
    have e : Int.gcd (t.natAbs : Int) b = Int.gcd t b := by
      show Nat.gcd (Int.natAbs (t.natAbs : Int)) b.natAbs = Nat.gcd t.natAbs b.natAbs
      rw [Int.natAbs_natCast]
    have hp := gcd_pos (t := t) h0
    have hl := gcd_le (t := t) h0
    rw [e, max_gcd h0]
    exact ⟨div_ok hp (by omega), div_ok hp (by omega), μ, Mu.Sub.refl _, h⟩
  · exact h.elim
def sp_law_lowest : DSp := fun ds μ Q => match ds with | [.int t, .int b] => (0 ≤ t ∧ 0 < b ∧ b < 2 ^ 200) ∧ Q (fr (low t b)) μ | _ => False
theorem len_law_lowest : ∀ ds μ Q, sp_law_lowest ds μ Q → ds.length = (["top", "bottom"] : List Str).length := by
  intro ds μ Q h
  unfold sp_law_lowest at h
  split at h <;> first | rfl | exact h.elim
def db_law_lowest : DTS := (dSeq (dAsg (dFn sp_law_divisor (daCons (dVar 0) (daCons (dVar 1) daNil))) (gdName 2)) (dRet (dTup (daCons (dOp oDiv (dVar 0) (dVar 2)) (daCons (dOp oDiv (dVar 1) (dVar 2)) daNil)))))
theorem pf_law_lowest : ∀ ds μ Q, sp_law_lowest ds μ Q → db_law_lowest (retD Q) (startD ["top", "bottom", "many"] ds) μ := by
  intro ds μ Q h
  unfold sp_law_lowest at h
  split at h
  · rename_i t b
    obtain ⟨⟨ht, h0, h1⟩, h⟩ := h
    show db_law_lowest (retD Q) [some (.int t), some (.int b), none] μ
    unfold db_law_lowest
    refine sq fun U hU => ?_
    walk_at "ev"
    refine ⟨⟨by omega, by omega⟩, ?_⟩
    refine hU.go ?_
    walk_at "ev"
    have hp := gcd_pos (t := t) h0
    have hl := gcd_le (t := t) h0
    rw [max_gcd h0]
    exact ⟨div_ok hp (by omega), div_ok hp (by omega), μ, Mu.Sub.refl _, h⟩
  · exact h.elim
/-! ## kinds -/

theorem kit_ni : kitB "NoneType" "int" = some false := by rfl
theorem kit_nb : kitB "NoneType" "bool" = some false := by rfl
theorem kit_ns : kitB "NoneType" "str" = some false := by rfl
theorem kit_nt : kitB "NoneType" "tuple" = some false := by rfl
theorem kit_di : kitB "dict" "int" = some false := by rfl
theorem kit_db : kitB "dict" "bool" = some false := by rfl
theorem kit_ds : kitB "dict" "str" = some false := by rfl
theorem kit_dt : kitB "dict" "tuple" = some false := by rfl
def isI : D → Bool := fun d => match d with | .int _ => true | _ => false
def isS : D → Bool := fun d => match d with | .str _ => true | _ => false
def isT : D → Bool := fun d => match d with | .tup _ => true | _ => false
/-- isinstance of any value -/
theorem isi_tup {μ : Mu} {d : D} {n k : Nat} {Q : DK} (h : Av μ d n k) (q : Q (.bl (isT d)) μ) : cIsi [d, .ty "tuple"] μ Q := by
  rcases h.shape with rfl | ⟨b, rfl⟩ | ⟨i, rfl, _⟩ | ⟨x, rfl⟩ | rfl | ⟨ds, rfl, _⟩ | ⟨ds, rfl⟩ | ⟨j, ds, rfl, e⟩
  all_goals simp only [cIsi, tyD]
  case inr.inr.inr.inr.inr.inr.inr => rw [e]; exact q
  all_goals exact q
theorem isi_str {μ : Mu} {d : D} {n k : Nat} {Q : DK} (h : Av μ d n k) (q : Q (.bl (isS d)) μ) : cIsi [d, .ty "str"] μ Q := by
  rcases h.shape with rfl | ⟨b, rfl⟩ | ⟨i, rfl, _⟩ | ⟨x, rfl⟩ | rfl | ⟨ds, rfl, _⟩ | ⟨ds, rfl⟩ | ⟨j, ds, rfl, e⟩
  all_goals simp only [cIsi, tyD]
  case inr.inr.inr.inr.inr.inr.inr => rw [e]; exact q
  all_goals exact q
/-! ## fractions -/
def lt (p q : Int × Int) : Prop := p.1 * q.2 < q.1 * p.2
def le (p q : Int × Int) : Prop := p.1 * q.2 ≤ q.1 * p.2
instance (p q : Int × Int) : Decidable (lt p q) := inferInstanceAs (Decidable (_ < _))
instance (p q : Int × Int) : Decidable (le p q) := inferInstanceAs (Decidable (_ ≤ _))
def Sz (i : Int) : Prop := -(2 ^ 200) < i ∧ i < 2 ^ 200
def sp_is_less : DSp := fun ds μ Q => match ds with | [.tup [.int a, .int b], .tup [.int c, .int d]] => (Sz a ∧ Sz b ∧ Sz c ∧ Sz d) ∧ Q (.bl (decide (a * d < c * b))) μ | _ => False
theorem len_is_less : ∀ ds μ Q, sp_is_less ds μ Q → ds.length = (["near", "far"] : List Str).length := by
  intro ds μ Q h
  unfold sp_is_less at h
  split at h <;> first | rfl | exact h.elim
def db_is_less : DTS := (dRet (dOp oLt (dOp oTimes (dOp oIx (dVar 0) (dC (.int 0))) (dOp oIx (dVar 1) (dC (.int 1)))) (dOp oTimes (dOp oIx (dVar 1) (dC (.int 0))) (dOp oIx (dVar 0) (dC (.int 1))))))
theorem pf_is_less : ∀ ds μ Q, sp_is_less ds μ Q → db_is_less (retD Q) (startD ["near", "far"] ds) μ := by
  intro ds μ Q h
  unfold sp_is_less at h
  split at h
  · rename_i a b c d
    obtain ⟨⟨ha, hb, hc, hd⟩, h⟩ := h
    show db_is_less (retD Q) [some (.tup [.int a, .int b]), some (.tup [.int c, .int d])] μ
    unfold db_is_less
    walk_at "ev"
    exact ⟨mul_ok ha.1 ha.2 hd.1 hd.2, mul_ok hc.1 hc.2 hb.1 hb.2, μ, Mu.Sub.refl _, h⟩
  · exact h.elim
def sp_law_below : DSp := fun ds μ Q => match ds with | [.tup [.int a, .int b], .tup [.int c, .int d]] => (Sz a ∧ Sz b ∧ Sz c ∧ Sz d) ∧ Q (.bl (decide (a * d < c * b))) μ | _ => False
theorem len_law_below : ∀ ds μ Q, sp_law_below ds μ Q → ds.length = (["near", "far"] : List Str).length := by
  intro ds μ Q h
  unfold sp_law_below at h
  split at h <;> first | rfl | exact h.elim
def db_law_below : DTS := (dRet (dOp oLt (dOp oTimes (dOp oIx (dVar 0) (dC (.int 0))) (dOp oIx (dVar 1) (dC (.int 1)))) (dOp oTimes (dOp oIx (dVar 1) (dC (.int 0))) (dOp oIx (dVar 0) (dC (.int 1))))))
theorem pf_law_below : ∀ ds μ Q, sp_law_below ds μ Q → db_law_below (retD Q) (startD ["near", "far"] ds) μ := by
  intro ds μ Q h
  unfold sp_law_below at h
  split at h
  · rename_i a b c d
    obtain ⟨⟨ha, hb, hc, hd⟩, h⟩ := h
    show db_law_below (retD Q) [some (.tup [.int a, .int b]), some (.tup [.int c, .int d])] μ
    unfold db_law_below
    walk_at "ev"
    exact ⟨mul_ok ha.1 ha.2 hd.1 hd.2, mul_ok hc.1 hc.2 hb.1 hb.2, μ, Mu.Sub.refl _, h⟩
  · exact h.elim
def sp_is_at_most : DSp := fun ds μ Q => match ds with | [.tup [.int a, .int b], .tup [.int c, .int d]] => (Sz a ∧ Sz b ∧ Sz c ∧ Sz d) ∧ Q (.bl (decide (a * d ≤ c * b))) μ | _ => False
theorem len_is_at_most : ∀ ds μ Q, sp_is_at_most ds μ Q → ds.length = (["near", "far"] : List Str).length := by
  intro ds μ Q h
  unfold sp_is_at_most at h
  split at h <;> first | rfl | exact h.elim
def db_is_at_most : DTS := (dRet (dOp oLe (dOp oTimes (dOp oIx (dVar 0) (dC (.int 0))) (dOp oIx (dVar 1) (dC (.int 1)))) (dOp oTimes (dOp oIx (dVar 1) (dC (.int 0))) (dOp oIx (dVar 0) (dC (.int 1))))))
theorem pf_is_at_most : ∀ ds μ Q, sp_is_at_most ds μ Q → db_is_at_most (retD Q) (startD ["near", "far"] ds) μ := by
  intro ds μ Q h
  unfold sp_is_at_most at h
  split at h
  · rename_i a b c d
    obtain ⟨⟨ha, hb, hc, hd⟩, h⟩ := h
    show db_is_at_most (retD Q) [some (.tup [.int a, .int b]), some (.tup [.int c, .int d])] μ
    unfold db_is_at_most
    walk_at "ev"
    exact ⟨mul_ok ha.1 ha.2 hd.1 hd.2, mul_ok hc.1 hc.2 hb.1 hb.2, μ, Mu.Sub.refl _, h⟩
  · exact h.elim
end K10
namespace K10
open PySem PySem.Spec PyProof.Rows L2 Dl
local macro_rules | `(tactic| walk_at "ev") => `(tactic| try simp -dsimp only [↓dSeq_at, cInt2, oIs2, oNot2, kit_ni, kit_nb, kit_ns, kit_nt, kit_di, kit_db, kit_ds, kit_dt, dRet, dRetN, dNext, dIfS, dAsg, dDrop, dPar, dNever, dVar, dC, dOp, dUn, dTest, dChain, dAnd, dOr, dNot, dIf, dtAnd, dtOr, dtNot, dTup, daNil, daCons, dCall, dFn, dFnK, dNew, dLst, dOf,
  gdName, gdTup, gdCons, gdNil, gdSub, rdI, rdI0, oPlus, oSub, oTimes, oDiv, oMod, oPow, oLt, oLe, oGt, oGe, oIx, oEq, oNe, uNeg, oIsN, oNotN, D.isNon, cAbs, cMax, cMin, cInt, cDivmod, cLen, cIsi, tyD, items, litems, retD, sTup, mApp, dYes,
  atI_0, atI_1, atI_2, atI_3, atI_4, ixN_20, ixN_21, kit_ii, kit_ib, kit_is, kit_it, kit_il, kit_bi, kit_bb, kit_bs, kit_bt, kit_bl, kit_si, kit_sb, kit_ss, kit_st, kit_sl, kit_ti, kit_tb, kit_ts, kit_tt, kit_tl, kit_li, kit_lb, kit_ls, kit_lt, kit_ll,
  List.getElem?_cons_zero, List.getElem?_cons_succ, List.set_cons_zero, List.set_cons_succ, List.length_cons, List.length_nil, Mu.upd_same, Mu.upd_upd, Nat.zero_add, Nat.reduceAdd, Nat.reduceLeDiff, natlit, Int.reduceEq, Int.reduceLT, Int.reduceLE, Int.reduceAdd, Int.reduceSub, Int.reduceMul, Int.reducePow, Int.reduceNeg, permG2_10, permG3_210, zl_0, zl_1, zl_2, zl_3, zl_4, zl_5, zl_6, zl_7, zl_8, zl_9, zl_10, zl_11, zl_12, zl_13, zl_14, zl_15, zl_16, zl_17, zl_18, zl_19, zl_20, true_and, and_true, eq_self, not_true_eq_false, not_false_eq_true, decide_true, decide_false, if_true, Bool.false_eq_true, if_false, Bool.not_true, Bool.not_false, decide_eq_true_eq, Bool.not_eq_true', decide_eq_false_iff_not, Option.isSome, Option.map])
/-! ## kinds of any values -/
def inR (l m : Int) (d : D) : Bool := match d with | .int v => decide (l ≤ v ∧ v ≤ m) | _ => false
def nnB (d : D) : Bool := match d with | .int v => decide (0 ≤ v) | _ => false
def tl (m : Int) (d : D) : Bool := match d with | .tup ds => decide ((ds.length : Int) = m) | _ => false
def sp_is_integer : DSp := fun ds μ Q => ∃ d n k, ds = [d] ∧ Av μ d n k ∧ Q (.bl (isI d)) μ
theorem len_is_integer : ∀ ds μ Q, sp_is_integer ds μ Q → ds.length = (["value"] : List Str).length := by
  rintro ds μ Q ⟨d, n, k, rfl, _⟩
  rfl
def db_is_integer : DTS := (dRet (dAnd (dCall cIsi (daCons (dVar 0) (daCons (dC (.ty "int")) daNil))) (dNot (dCall cIsi (daCons (dVar 0) (daCons (dC (.ty "bool")) daNil))))))
theorem pf_is_integer : ∀ ds μ Q, sp_is_integer ds μ Q → db_is_integer (retD Q) (startD ["value"] ds) μ := by
  rintro ds μ Q ⟨d, n, k, rfl, h, q⟩
  show db_is_integer (retD Q) [some d] μ
  unfold db_is_integer
  rcases h.shape with rfl | ⟨b, rfl⟩ | ⟨i, rfl, _⟩ | ⟨x, rfl⟩ | rfl | ⟨ds, rfl, _⟩ | ⟨ds, rfl⟩ | ⟨j, ds, rfl, e⟩
  all_goals walk_at "ev"
  case inr.inr.inr.inr.inr.inr.inr =>
    rw [e]
    walk_at "ev"
    exact ⟨_, Mu.Sub.refl _, q⟩
  all_goals exact ⟨_, Mu.Sub.refl _, q⟩
theorem ask_int {d : D} {μ : Mu} {n k : Nat} {Q : DK} (h : Av μ d n k) (q : Q (.bl (isI d)) μ) : sp_is_integer [d] μ Q := ⟨d, n, k, rfl, h, q⟩
def sp_is_within : DSp := fun ds μ Q => ∃ d n k l m, ds = [d, .int l, .int m] ∧ Av μ d n k ∧ Q (.bl (inR l m d)) μ
theorem len_is_within : ∀ ds μ Q, sp_is_within ds μ Q → ds.length = (["value", "least", "most"] : List Str).length := by
  rintro ds μ Q ⟨d, n, k, l, m, rfl, _⟩
  rfl
def db_is_within : DTS := (dRet (dAnd (dFn sp_is_integer (daCons (dVar 0) daNil)) (dChain oLe oLe (dVar 1) (dVar 0) (dVar 2))))
theorem pf_is_within : ∀ ds μ Q, sp_is_within ds μ Q → db_is_within (retD Q) (startD ["value", "least", "most"] ds) μ := by
  rintro ds μ Q ⟨d, n, k, l, m, rfl, h, q⟩
  show db_is_within (retD Q) [some d, some (.int l), some (.int m)] μ
  unfold db_is_within
  walk_at "ev"
  refine ask_int h ?_
  rcases h.shape with rfl | ⟨b, rfl⟩ | ⟨i, rfl, _⟩ | ⟨x, rfl⟩ | rfl | ⟨ds, rfl, _⟩ | ⟨ds, rfl⟩ | ⟨j, ds, rfl, e⟩
  case inr.inr.inl =>
    have q : Q (.bl (decide (l ≤ i ∧ i ≤ m))) μ := q
    show if true = true then _ else _
    rw [if_pos rfl]
    walk_at "ev"
    by_cases h1 : l ≤ i
    · rw [if_pos h1]
      refine ⟨μ, Mu.Sub.refl _, ?_⟩
      rw [show decide (i ≤ m) = decide (l ≤ i ∧ i ≤ m) by simp [h1]]
      exact q
    · rw [if_neg h1]
      refine ⟨μ, Mu.Sub.refl _, ?_⟩
      rw [show decide (l ≤ i ∧ i ≤ m) = false by simp [h1]] at q
      exact q
  all_goals exact ⟨_, Mu.Sub.refl _, q⟩
theorem ask_within {d : D} {μ : Mu} {n k : Nat} {l m : Int} {Q : DK} (h : Av μ d n k) (q : Q (.bl (inR l m d)) μ) : sp_is_within [d, .int l, .int m] μ Q := ⟨d, n, k, l, m, rfl, h, q⟩
def sp_law_is_whole : DSp := fun ds μ Q => ∃ d n k l m, ds = [d, .int l, .int m] ∧ Av μ d n k ∧ Q (.bl (inR l m d)) μ
theorem len_law_is_whole : ∀ ds μ Q, sp_law_is_whole ds μ Q → ds.length = (["value", "least", "most"] : List Str).length := by
  rintro ds μ Q ⟨d, n, k, l, m, rfl, _⟩
  rfl
def db_law_is_whole : DTS := (dRet (dAnd (dCall cIsi (daCons (dVar 0) (daCons (dC (.ty "int")) daNil))) (dAnd (dNot (dCall cIsi (daCons (dVar 0) (daCons (dC (.ty "bool")) daNil)))) (dChain oLe oLe (dVar 1) (dVar 0) (dVar 2)))))
theorem pf_law_is_whole : ∀ ds μ Q, sp_law_is_whole ds μ Q → db_law_is_whole (retD Q) (startD ["value", "least", "most"] ds) μ := by
  rintro ds μ Q ⟨d, n, k, l, m, rfl, h, q⟩
  show db_law_is_whole (retD Q) [some d, some (.int l), some (.int m)] μ
  unfold db_law_is_whole
  rcases h.shape with rfl | ⟨b, rfl⟩ | ⟨i, rfl, _⟩ | ⟨x, rfl⟩ | rfl | ⟨ds, rfl, _⟩ | ⟨ds, rfl⟩ | ⟨j, ds, rfl, e⟩
  all_goals walk_at "ev"
  case inr.inr.inl =>
    have q : Q (.bl (decide (l ≤ i ∧ i ≤ m))) μ := q
    by_cases h1 : l ≤ i
    · rw [if_pos h1]
      refine ⟨μ, Mu.Sub.refl _, ?_⟩
      rw [show decide (i ≤ m) = decide (l ≤ i ∧ i ≤ m) by simp [h1]]
      exact q
    · rw [if_neg h1]
      refine ⟨μ, Mu.Sub.refl _, ?_⟩
      rw [show decide (l ≤ i ∧ i ≤ m) = false by simp [h1]] at q
      exact q
  case inr.inr.inr.inr.inr.inr.inr =>
    rw [e]
    walk_at "ev"
    exact ⟨_, Mu.Sub.refl _, q⟩
  all_goals exact ⟨_, Mu.Sub.refl _, q⟩
theorem ask_whole {d : D} {μ : Mu} {n k : Nat} {l m : Int} {Q : DK} (h : Av μ d n k) (q : Q (.bl (inR l m d)) μ) : sp_law_is_whole [d, .int l, .int m] μ Q := ⟨d, n, k, l, m, rfl, h, q⟩
def sp_is_count : DSp := fun ds μ Q => ∃ d n k, ds = [d] ∧ Av μ d n k ∧ Q (.bl (nnB d)) μ
theorem len_is_count : ∀ ds μ Q, sp_is_count ds μ Q → ds.length = (["value"] : List Str).length := by
  rintro ds μ Q ⟨d, n, k, rfl, _⟩
  rfl
def db_is_count : DTS := (dRet (dAnd (dFn sp_is_integer (daCons (dVar 0) daNil)) (dOp oGe (dVar 0) (dC (.int 0)))))
theorem pf_is_count : ∀ ds μ Q, sp_is_count ds μ Q → db_is_count (retD Q) (startD ["value"] ds) μ := by
  rintro ds μ Q ⟨d, n, k, rfl, h, q⟩
  show db_is_count (retD Q) [some d] μ
  unfold db_is_count
  walk_at "ev"
  refine ask_int h ?_
  rcases h.shape with rfl | ⟨b, rfl⟩ | ⟨i, rfl, _⟩ | ⟨x, rfl⟩ | rfl | ⟨ds, rfl, _⟩ | ⟨ds, rfl⟩ | ⟨j, ds, rfl, e⟩
  case inr.inr.inl =>
    show if true = true then _ else _
    rw [if_pos rfl]
    walk_at "ev"
    exact ⟨_, Mu.Sub.refl _, q⟩
  all_goals exact ⟨_, Mu.Sub.refl _, q⟩
theorem ask_count {d : D} {μ : Mu} {n k : Nat} {Q : DK} (h : Av μ d n k) (q : Q (.bl (nnB d)) μ) : sp_is_count [d] μ Q := ⟨d, n, k, rfl, h, q⟩
def sp_is_tuple : DSp := fun ds μ Q => ∃ d n k m, ds = [d, .int m] ∧ Av μ d n k ∧ Q (.bl (tl m d)) μ
theorem len_is_tuple : ∀ ds μ Q, sp_is_tuple ds μ Q → ds.length = (["value", "many"] : List Str).length := by
  rintro ds μ Q ⟨d, n, k, m, rfl, _⟩
  rfl
def db_is_tuple : DTS := (dRet (dAnd (dCall cIsi (daCons (dVar 0) (daCons (dC (.ty "tuple")) daNil))) (dOp oEq (dCall cLen (daCons (dVar 0) daNil)) (dVar 1))))
theorem pf_is_tuple : ∀ ds μ Q, sp_is_tuple ds μ Q → db_is_tuple (retD Q) (startD ["value", "many"] ds) μ := by
  rintro ds μ Q ⟨d, n, k, m, rfl, h, q⟩
  show db_is_tuple (retD Q) [some d, some (.int m)] μ
  unfold db_is_tuple
  rcases h.shape with rfl | ⟨b, rfl⟩ | ⟨i, rfl, _⟩ | ⟨x, rfl⟩ | rfl | ⟨ds, rfl, _⟩ | ⟨ds, rfl⟩ | ⟨j, ds, rfl, e⟩
  all_goals walk_at "ev"
  case inr.inr.inr.inr.inr.inr.inr =>
    rw [e]
    walk_at "ev"
    exact ⟨_, Mu.Sub.refl _, q⟩
  all_goals exact ⟨_, Mu.Sub.refl _, q⟩
theorem ask_tuple {d : D} {μ : Mu} {n k : Nat} {m : Int} {Q : DK} (h : Av μ d n k) (q : Q (.bl (tl m d)) μ) : sp_is_tuple [d, .int m] μ Q := ⟨d, n, k, m, rfl, h, q⟩
end K10
namespace K10
open PySem PySem.Spec PyProof.Rows L2 Dl
local macro_rules | `(tactic| walk_at "ev") => `(tactic| try simp -dsimp only [↓dSeq_at, cInt2, oIs2, oNot2, dRet, dRetN, dNext, dIfS, dAsg, dDrop, dPar, dNever, dVar, dC, dOp, dUn, dTest, dChain, dAnd, dOr, dNot, dIf, dtAnd, dtOr, dtNot, dTup, daNil, daCons, dCall, dFn, dFnK, dNew, dLst, dOf,
  gdName, gdTup, gdCons, gdNil, gdSub, rdI, rdI0, oPlus, oSub, oTimes, oDiv, oMod, oPow, oLt, oLe, oGt, oGe, oIx, oEq, oNe, uNeg, oIsN, oNotN, D.isNon, cAbs, cMax, cMin, cInt, cDivmod, cLen, tyD, items, litems, retD, sTup, mApp, dYes,
  atI_0, atI_1, atI_2, atI_3, atI_4, ixN_20, ixN_21, kit_ii, kit_ib, kit_is, kit_it, kit_il, kit_bi, kit_bb, kit_bs, kit_bt, kit_bl, kit_si, kit_sb, kit_ss, kit_st, kit_sl, kit_ti, kit_tb, kit_ts, kit_tt, kit_tl, kit_li, kit_lb, kit_ls, kit_lt, kit_ll,
  List.getElem?_cons_zero, List.getElem?_cons_succ, List.set_cons_zero, List.set_cons_succ, List.length_cons, List.length_nil, Mu.upd_same, Mu.upd_upd, Nat.zero_add, Nat.reduceAdd, Nat.reduceLeDiff, natlit, Int.reduceEq, Int.reduceLT, Int.reduceLE, Int.reduceAdd, Int.reduceSub, Int.reduceMul, Int.reducePow, Int.reduceNeg, permG2_10, permG3_210, zl_0, zl_1, zl_2, zl_3, zl_4, zl_5, zl_6, zl_7, zl_8, zl_9, zl_10, zl_11, zl_12, zl_13, zl_14, zl_15, zl_16, zl_17, zl_18, zl_19, zl_20, true_and, and_true, eq_self, not_true_eq_false, not_false_eq_true, decide_true, decide_false, if_true, Bool.false_eq_true, if_false, Bool.not_true, Bool.not_false, decide_eq_true_eq, Bool.not_eq_true', decide_eq_false_iff_not, Option.isSome, Option.map])
/-! ## fractions, votes, deals: any values -/
theorem lc_sub {its : List D} {kp : List (Nat × List D)} {g : DTG} {de : DTE} {ρ : Rho} {Q : List D → Mu → Prop} {μ : Mu} (f : D → D) (hh : (⟨its, kp⟩ : Src).held μ) (hs : its.length ≤ 100000)
    (hb : ∀ x, x ∈ its → ∀ μ' (Qy : DK), Mu.Sub μ μ' → Qy (f x) μ' → g x ρ μ' fun ρ2 μ2 => de ρ2 μ2 Qy) (hq : Q (its.map f) μ) : lcIn ⟨its, kp⟩ g dYes de ρ Q μ := by
  have := lc_tm (l := its) (e := fun d => d) (kp := kp) (g := g) (de := de) (ρ := ρ) (Q := Q) (μ := μ) f (by rw [List.map_id']; exact hh) hs hb hq
  rw [List.map_id'] at this
  exact this
theorem isi_int2 {μ : Mu} {d : D} {n k : Nat} {Q : DK} (h : Av μ d n k) (q : Q (.bl (isI d)) μ) : cIsi [d, .ty "int"] μ (fun x μ1 => match x with | .bl b => if b = true then cIsi [d, .ty "bool"] μ1 (fun y μ2 => match y with | .bl c => Q (.bl (!c)) μ2 | _ => False) else Q (.bl false) μ1 | _ => False) := by
  rcases h.shape with rfl | ⟨b, rfl⟩ | ⟨i, rfl, _⟩ | ⟨x, rfl⟩ | rfl | ⟨ds, rfl, _⟩ | ⟨ds, rfl⟩ | ⟨j, ds, rfl, e⟩
  all_goals simp only [cIsi, tyD]
  case inr.inr.inr.inr.inr.inr.inr =>
    rw [e]
    exact q
  all_goals exact q
def fracA (d : D) : Bool := match d with | .tup [.int a, .int b] => decide (1 ≤ b) && decide (max 1 (Int.gcd a b : Int) = 1) | _ => false
def fracB (d : D) : Bool := match d with | .tup [.int a, .int b] => decide (1 ≤ b ∧ b ≤ 999) && decide (max 1 (Int.gcd a b : Int) = 1) | _ => false
theorem tl_2 {d : D} (h : tl 2 d = true) : ∃ x y, d = .tup [x, y] := by
  unfold tl at h
  split at h
  · rename_i ds
    have h := of_decide_eq_true h
    match ds, h with
    | [x, y], _ => exact ⟨x, y, rfl⟩
    | [], h => simp at h
    | [x], h => simp at h
    | x :: y :: z :: l, h => simp at h; omega
  · cases h
theorem fracA_tl {d : D} (h : tl 2 d ≠ true) : fracA d = false := by
  unfold fracA
  split
  · exact absurd rfl h
  · rfl
theorem fracB_tl {d : D} (h : tl 2 d ≠ true) : fracB d = false := by
  unfold fracB
  split
  · exact absurd rfl h
  · rfl
theorem isI_int {d : D} (h : isI d = true) : ∃ i, d = .int i := by
  unfold isI at h
  split at h
  · exact ⟨_, rfl⟩
  · cases h
theorem frac_isI {x y : D} (h : ([x, y].all isI) ≠ true) : fracA (.tup [x, y]) = false ∧ fracB (.tup [x, y]) = false := by
  unfold fracA fracB
  constructor
  all_goals
    split
    · rename_i e
      cases e
      exact absurd rfl h
    · rfl
def sp_is_fraction_any : DSp := fun ds μ Q => ∃ d n k, ds = [d] ∧ Av μ d n k ∧ Q (.bl (fracA d)) μ
theorem len_is_fraction_any : ∀ ds μ Q, sp_is_fraction_any ds μ Q → ds.length = (["value"] : List Str).length := by
  rintro ds μ Q ⟨d, n, k, rfl, _⟩
  rfl
def db_is_fraction_any : DTS := (dSeq (dIfS (dtOr (dtNot (dTest (dFn sp_is_tuple (daCons (dVar 0) (daCons (dC (.int 2)) daNil))))) (dtOr (dtNot (dTest (dOf sAll (dLc (diSeq (dVar 0)) (gdName 1) dYes (dFn sp_is_integer (daCons (dVar 1) daNil)) [1])))) (dTest (dOp oLt (dOp oIx (dVar 0) (dC (.int 1))) (dC (.int 1)))))) (dRet (dC (.bl false))) dNext) (dRet (dOp oEq (dFn sp_common (daCons (dCall cAbs (daCons (dOp oIx (dVar 0) (dC (.int 0))) daNil)) (daCons (dOp oIx (dVar 0) (dC (.int 1))) daNil))) (dC (.int 1)))))
theorem pf_is_fraction_any : ∀ ds μ Q, sp_is_fraction_any ds μ Q → db_is_fraction_any (retD Q) (startD ["value", "one"] ds) μ := by
  rintro ds μ Q ⟨d, n, k, rfl, h, q⟩
  show db_is_fraction_any (retD Q) [some d, none] μ
  unfold db_is_fraction_any
  refine sq fun U hU => ?_
  walk_at "ev"
  refine ask_tuple h ?_
  walk_at "ev"
  by_cases t : tl 2 d = true
  · rw [if_neg (by rw [t]; decide)]
    obtain ⟨x, y, rfl⟩ := tl_2 t
    have hs := (Av.untup h).1
    simp -dsimp only [dLc, diSeq]
    walk_at "ev"
    refine lc_sub (fun d => .bl (isI d)) held_nil (show 2 ≤ 100000 by decide) (fun z hz μ' Qy sb q2 => ?_) ?_
    · simp -dsimp only [wipeD]
      walk_at "ev"
      exact ask_int ((hs.get z hz).mono sb) q2
    · refine sAll_map (b := isI) ?_
      walk_at "ev"
      by_cases a : [x, y].all isI = true
      · rw [if_neg (by rw [a]; decide)]
        rw [List.all_eq_true] at a
        obtain ⟨i, rfl⟩ := isI_int (a x (by simp))
        obtain ⟨j, rfl⟩ := isI_int (a y (by simp))
        have q : Q (.bl (decide (1 ≤ j) && decide (max 1 (Int.gcd i j : Int) = 1))) μ := q
        walk_at "ev"
        by_cases c : j < 1
        · rw [if_pos c]
          rw [decide_eq_false (by omega), Bool.false_and] at q
          exact ⟨_, Mu.Sub.refl _, q⟩
        · rw [if_neg c]
          rw [decide_eq_true (show 1 ≤ j by omega), Bool.true_and] at q
          refine hU.go ?_
          walk_at "ev"
          refine ⟨⟨by omega, by omega⟩, ?_⟩
          rw [gcd_abs]
          walk_at "ev"
          exact ⟨_, Mu.Sub.refl _, q⟩
      · rw [if_pos (Bool.eq_false_iff.mpr a)]
        rw [(frac_isI a).1] at q
        exact ⟨_, Mu.Sub.refl _, q⟩
  · rw [if_pos (Bool.eq_false_iff.mpr t)]
    rw [fracA_tl t] at q
    exact ⟨_, Mu.Sub.refl _, q⟩
theorem ask_fracA {d : D} {μ : Mu} {n k : Nat} {Q : DK} (h : Av μ d n k) (q : Q (.bl (fracA d)) μ) : sp_is_fraction_any [d] μ Q := ⟨d, n, k, rfl, h, q⟩
def sp_is_small : DSp := fun ds μ Q => ∃ d n k, ds = [d] ∧ Av μ d n k ∧ Q (.bl (fracB d)) μ
theorem len_is_small : ∀ ds μ Q, sp_is_small ds μ Q → ds.length = (["value"] : List Str).length := by
  rintro ds μ Q ⟨d, n, k, rfl, _⟩
  rfl
theorem fracA_sh {d : D} (h : fracA d = true) : ∃ a b, d = .tup [.int a, .int b] ∧ 1 ≤ b ∧ max 1 (Int.gcd a b : Int) = 1 := by
  unfold fracA at h
  split at h
  · rw [Bool.and_eq_true, decide_eq_true_eq, decide_eq_true_eq] at h
    exact ⟨_, _, rfl, h.1, h.2⟩
  · cases h
theorem fracB_sh {d : D} (h : fracB d = true) : ∃ a b, d = .tup [.int a, .int b] ∧ (1 ≤ b ∧ b ≤ 999) ∧ max 1 (Int.gcd a b : Int) = 1 := by
  unfold fracB at h
  split at h
  · rw [Bool.and_eq_true, decide_eq_true_eq, decide_eq_true_eq] at h
    exact ⟨_, _, rfl, h.1, h.2⟩
  · cases h
theorem fracB_A {d : D} (h : fracA d ≠ true) : fracB d = false := Bool.eq_false_iff.mpr fun z => by
  obtain ⟨a, b, rfl, c, e⟩ := fracB_sh z
  refine h ?_
  show (decide (1 ≤ b) && decide (max 1 (Int.gcd a b : Int) = 1)) = true
  rw [decide_eq_true c.1, decide_eq_true e]
  rfl
def db_is_small : DTS := (dRet (dAnd (dFn sp_is_fraction_any (daCons (dVar 0) daNil)) (dOp oLe (dOp oIx (dVar 0) (dC (.int 1))) (dC (.int 999)))))
theorem pf_is_small : ∀ ds μ Q, sp_is_small ds μ Q → db_is_small (retD Q) (startD ["value"] ds) μ := by
  rintro ds μ Q ⟨d, n, k, rfl, h, q⟩
  show db_is_small (retD Q) [some d] μ
  unfold db_is_small
  walk_at "ev"
  refine ask_fracA h ?_
  walk_at "ev"
  by_cases t : fracA d = true
  · rw [if_pos t]
    obtain ⟨a, b, rfl, c, e⟩ := fracA_sh t
    walk_at "ev"
    have : fracB (.tup [.int a, .int b]) = decide (b ≤ 999) := by
      show (decide (1 ≤ b ∧ b ≤ 999) && decide (max 1 (Int.gcd a b : Int) = 1)) = _
      rw [decide_eq_true e, Bool.and_true]
      exact decide_eq_decide.mpr ⟨fun z => z.2, fun z => ⟨c, z⟩⟩
    rw [this] at q
    exact ⟨_, Mu.Sub.refl _, q⟩
  · rw [if_neg t]
    rw [fracB_A t] at q
    exact ⟨_, Mu.Sub.refl _, q⟩
theorem ask_small {d : D} {μ : Mu} {n k : Nat} {Q : DK} (h : Av μ d n k) (q : Q (.bl (fracB d)) μ) : sp_is_small [d] μ Q := ⟨d, n, k, rfl, h, q⟩
def sp_law_is_fraction : DSp := fun ds μ Q => ∃ d n k, ds = [d] ∧ Av μ d n k ∧ Q (.bl (fracB d)) μ
theorem len_law_is_fraction : ∀ ds μ Q, sp_law_is_fraction ds μ Q → ds.length = (["value"] : List Str).length := by
  rintro ds μ Q ⟨d, n, k, rfl, _⟩
  rfl
theorem isT_tup {d : D} (h : isT d = true) : ∃ ds, d = .tup ds := by
  unfold isT at h
  split at h
  · exact ⟨_, rfl⟩
  · cases h
theorem tl_isT {d : D} {m : Int} (h : isT d ≠ true) : tl m d ≠ true := fun z => by
  unfold tl at z
  split at z
  · exact h rfl
  · cases z
def db_law_is_fraction : DTS := (dSeq (dIfS (dtOr (dtNot (dTest (dCall cIsi (daCons (dVar 0) (daCons (dC (.ty "tuple")) daNil))))) (dtOr (dTest (dOp oNe (dCall cLen (daCons (dVar 0) daNil)) (dC (.int 2)))) (dtNot (dTest (dOf sAll (dLc (diSeq (dVar 0)) (gdName 1) dYes (dAnd (dCall cIsi (daCons (dVar 1) (daCons (dC (.ty "int")) daNil))) (dNot (dCall cIsi (daCons (dVar 1) (daCons (dC (.ty "bool")) daNil))))) [1])))))) (dRet (dC (.bl false))) dNext) (dRet (dAnd (dChain oLt oLt (dC (.int 0)) (dOp oIx (dVar 0) (dC (.int 1))) (dC (.int 1000))) (dOp oEq (dFn sp_law_divisor (daCons (dCall cAbs (daCons (dOp oIx (dVar 0) (dC (.int 0))) daNil)) (daCons (dOp oIx (dVar 0) (dC (.int 1))) daNil))) (dC (.int 1))))))
theorem pf_law_is_fraction : ∀ ds μ Q, sp_law_is_fraction ds μ Q → db_law_is_fraction (retD Q) (startD ["value", "one"] ds) μ := by
  rintro ds μ Q ⟨d, n, k, rfl, h, q⟩
  show db_law_is_fraction (retD Q) [some d, none] μ
  unfold db_law_is_fraction
  refine sq fun U hU => ?_
  walk_at "ev"
  refine isi_tup h ?_
  walk_at "ev"
  by_cases t : isT d = true
  · rw [if_neg (by rw [t]; decide)]
    obtain ⟨ds, rfl⟩ := isT_tup t
    walk_at "ev"
    by_cases t2 : (ds.length : Int) = 2
    · rw [if_neg (fun z => z t2)]
      obtain ⟨x, y, e⟩ := tl_2 (d := .tup ds) (decide_eq_true t2)
      cases e
      have hs := (Av.untup h).1
      simp -dsimp only [dLc, diSeq]
      walk_at "ev"
      refine lc_sub (fun d => .bl (isI d)) held_nil (show 2 ≤ 100000 by decide) (fun z hz μ' Qy sb q2 => ?_) ?_
      · simp -dsimp only [wipeD]
        walk_at "ev"
        exact isi_int2 ((hs.get z hz).mono sb) q2
      · refine sAll_map (b := isI) ?_
        walk_at "ev"
        by_cases a : [x, y].all isI = true
        · rw [if_neg (by rw [a]; decide)]
          rw [List.all_eq_true] at a
          obtain ⟨i, rfl⟩ := isI_int (a x (by simp))
          obtain ⟨j, rfl⟩ := isI_int (a y (by simp))
          have q : Q (.bl (decide (1 ≤ j ∧ j ≤ 999) && decide (max 1 (Int.gcd i j : Int) = 1))) μ := q
          refine hU.go ?_
          walk_at "ev"
          by_cases c0 : 0 < j
          · rw [if_pos c0]
            by_cases c1 : j < 1000
            · rw [if_pos c1]
              rw [decide_eq_true (show 1 ≤ j ∧ j ≤ 999 by omega), Bool.true_and] at q
              refine ⟨⟨by omega, by omega⟩, ?_⟩
              rw [gcd_abs]
              walk_at "ev"
              exact ⟨_, Mu.Sub.refl _, q⟩
            · rw [if_neg c1]
              rw [decide_eq_false (show ¬ (1 ≤ j ∧ j ≤ 999) by omega), Bool.false_and] at q
              exact ⟨_, Mu.Sub.refl _, q⟩
          · rw [if_neg c0]
            rw [decide_eq_false (show ¬ (1 ≤ j ∧ j ≤ 999) by omega), Bool.false_and] at q
            exact ⟨_, Mu.Sub.refl _, q⟩
        · rw [if_pos (Bool.eq_false_iff.mpr a)]
          rw [(frac_isI a).2] at q
          exact ⟨_, Mu.Sub.refl _, q⟩
    · rw [if_pos t2]
      rw [fracB_tl (d := .tup ds) fun z => t2 (of_decide_eq_true z)] at q
      exact ⟨_, Mu.Sub.refl _, q⟩
  · rw [if_pos (Bool.eq_false_iff.mpr t)]
    rw [fracB_tl (tl_isT t)] at q
    exact ⟨_, Mu.Sub.refl _, q⟩
theorem ask_fracB {d : D} {μ : Mu} {n k : Nat} {Q : DK} (h : Av μ d n k) (q : Q (.bl (fracB d)) μ) : sp_law_is_fraction [d] μ Q := ⟨d, n, k, rfl, h, q⟩
/-! ## votes -/
def votesB (d : D) : Bool := match d with | .tup ds => decide (1 ≤ ds.length ∧ ds.length ≤ 12) && ds.all (inR 0 1000000000) | _ => false
theorem votesB_T {d : D} (h : isT d ≠ true) : votesB d = false := by
  unfold votesB
  split
  · exact absurd rfl h
  · rfl
def sp_is_row_of_votes : DSp := fun ds μ Q => ∃ d n k, ds = [d] ∧ (Av μ d n k ∧ n ≤ 100000) ∧ Q (.bl (votesB d)) μ
theorem len_is_row_of_votes : ∀ ds μ Q, sp_is_row_of_votes ds μ Q → ds.length = (["value"] : List Str).length := by
  rintro ds μ Q ⟨d, n, k, rfl, _⟩
  rfl
def db_is_row_of_votes : DTS := (dSeq (dIfS (dtOr (dtNot (dTest (dCall cIsi (daCons (dVar 0) (daCons (dC (.ty "tuple")) daNil))))) (dtNot (dTest (dChain oLe oLe (dC (.int 1)) (dCall cLen (daCons (dVar 0) daNil)) (dC (.int 12)))))) (dRet (dC (.bl false))) dNext) (dRet (dOf sAll (dLc (diSeq (dVar 0)) (gdName 1) dYes (dFn sp_is_within (daCons (dVar 1) (daCons (dC (.int 0)) (daCons (dC (.int 1000000000)) daNil)))) [1]))))
theorem pf_is_row_of_votes : ∀ ds μ Q, sp_is_row_of_votes ds μ Q → db_is_row_of_votes (retD Q) (startD ["value", "one"] ds) μ := by
  rintro ds μ Q ⟨d, n, k, rfl, ⟨h, hn⟩, q⟩
  show db_is_row_of_votes (retD Q) [some d, none] μ
  unfold db_is_row_of_votes
  refine sq fun U hU => ?_
  walk_at "ev"
  refine isi_tup h ?_
  walk_at "ev"
  by_cases t : isT d = true
  · rw [if_neg (by rw [t]; decide)]
    obtain ⟨ds, rfl⟩ := isT_tup t
    have hs := (Av.untup h).1
    have hl := hs.len
    have q : Q (.bl (decide (1 ≤ ds.length ∧ ds.length ≤ 12) && ds.all (inR 0 1000000000))) μ := q
    have go : 1 ≤ ds.length ∧ ds.length ≤ 12 → U [some (.tup ds), none] μ := fun c => by
      rw [decide_eq_true c, Bool.true_and] at q
      refine hU.go ?_
      walk_at "ev"
      simp -dsimp only [dLc, diSeq]
      walk_at "ev"
      refine lc_sub (fun d => .bl (inR 0 1000000000 d)) held_nil (show ds.length ≤ 100000 by omega) (fun z hz μ' Qy sb q2 => ?_) ?_
      · simp -dsimp only [wipeD]
        walk_at "ev"
        exact ask_within ((hs.get z hz).mono sb) q2
      · refine sAll_map (b := inR 0 1000000000) ?_
        walk_at "ev"
        exact ⟨_, Mu.Sub.refl _, q⟩
    have stop : ¬ (1 ≤ ds.length ∧ ds.length ≤ 12) → ∃ μ', Mu.Sub μ' μ ∧ Q (.bl false) μ' := fun c => by
      rw [decide_eq_false c, Bool.false_and] at q
      exact ⟨_, Mu.Sub.refl _, q⟩
    walk_at "ev"
    by_cases c0 : (1 : Int) ≤ (ds.length : Int)
    · rw [if_pos c0]
      by_cases c1 : (ds.length : Int) ≤ 12
      · rw [if_neg (fun z => z c1)]
        exact go ⟨by omega, by omega⟩
      · rw [if_pos c1]
        exact stop (by omega)
    · rw [if_neg c0]
      exact stop (by omega)
  · rw [if_pos (Bool.eq_false_iff.mpr t)]
    rw [votesB_T t] at q
    exact ⟨_, Mu.Sub.refl _, q⟩
theorem ask_rowv {d : D} {μ : Mu} {n k : Nat} {Q : DK} (h : Av μ d n k) (hn : n ≤ 100000) (q : Q (.bl (votesB d)) μ) : sp_is_row_of_votes [d] μ Q := ⟨d, n, k, rfl, ⟨h, hn⟩, q⟩
def sp_law_is_votes : DSp := fun ds μ Q => ∃ d n k, ds = [d] ∧ (Av μ d n k ∧ n ≤ 100000) ∧ Q (.bl (votesB d)) μ
theorem len_law_is_votes : ∀ ds μ Q, sp_law_is_votes ds μ Q → ds.length = (["value"] : List Str).length := by
  rintro ds μ Q ⟨d, n, k, rfl, _⟩
  rfl
def db_law_is_votes : DTS := (dRet (dAnd (dCall cIsi (daCons (dVar 0) (daCons (dC (.ty "tuple")) daNil))) (dAnd (dChain oLt oLt (dC (.int 0)) (dCall cLen (daCons (dVar 0) daNil)) (dC (.int 13))) (dOf sAll (dLc (diSeq (dVar 0)) (gdName 1) dYes (dFn sp_law_is_whole (daCons (dVar 1) (daCons (dC (.int 0)) (daCons (dOp oPow (dC (.int 10)) (dC (.int 9))) daNil)))) [1])))))
theorem pf_law_is_votes : ∀ ds μ Q, sp_law_is_votes ds μ Q → db_law_is_votes (retD Q) (startD ["value", "one"] ds) μ := by
  rintro ds μ Q ⟨d, n, k, rfl, ⟨h, hn⟩, q⟩
  show db_law_is_votes (retD Q) [some d, none] μ
  unfold db_law_is_votes
  walk_at "ev"
  refine isi_tup h ?_
  walk_at "ev"
  by_cases t : isT d = true
  · rw [if_pos t]
    obtain ⟨ds, rfl⟩ := isT_tup t
    have hs := (Av.untup h).1
    have hl := hs.len
    have q : Q (.bl (decide (1 ≤ ds.length ∧ ds.length ≤ 12) && ds.all (inR 0 1000000000))) μ := q
    have stop : ¬ (1 ≤ ds.length ∧ ds.length ≤ 12) → ∃ μ', Mu.Sub μ' μ ∧ Q (.bl false) μ' := fun c => by
      rw [decide_eq_false c, Bool.false_and] at q
      exact ⟨_, Mu.Sub.refl _, q⟩
    walk_at "ev"
    by_cases c0 : (0 : Int) < (ds.length : Int)
    · rw [if_pos c0]
      by_cases c1 : (ds.length : Int) < 13
      · rw [if_pos c1]
        rw [decide_eq_true (show 1 ≤ ds.length ∧ ds.length ≤ 12 by omega), Bool.true_and] at q
        simp -dsimp only [dLc, diSeq]
        walk_at "ev"
        refine lc_sub (fun d => .bl (inR 0 1000000000 d)) held_nil (show ds.length ≤ 100000 by omega) (fun z hz μ' Qy sb q2 => ?_) ?_
        · simp -dsimp only [wipeD]
          walk_at "ev"
          refine ⟨⟨by decide, by decide, by decide⟩, ?_⟩
          exact ask_whole ((hs.get z hz).mono sb) q2
        · refine sAll_map (b := inR 0 1000000000) ?_
          walk_at "ev"
          exact ⟨_, Mu.Sub.refl _, q⟩
      · rw [if_neg c1]
        exact stop (by omega)
    · rw [if_neg c0]
      exact stop (by omega)
  · rw [if_neg t]
    rw [votesB_T t] at q
    exact ⟨_, Mu.Sub.refl _, q⟩
theorem ask_lvotes {d : D} {μ : Mu} {n k : Nat} {Q : DK} (h : Av μ d n k) (hn : n ≤ 100000) (q : Q (.bl (votesB d)) μ) : sp_law_is_votes [d] μ Q := ⟨d, n, k, rfl, ⟨h, hn⟩, q⟩
end K10
namespace K10
open PySem PySem.Spec PyProof.Rows L2 Dl
local macro_rules | `(tactic| walk_at "ev") => `(tactic| try simp -dsimp only [↓dSeq_at, cInt2, oIs2, oNot2, dRet, dRetN, dNext, dIfS, dAsg, dDrop, dPar, dNever, dVar, dC, dOp, dUn, dTest, dChain, dAnd, dOr, dNot, dIf, dtAnd, dtOr, dtNot, dTup, daNil, daCons, dCall, dFn, dFnK, dNew, dLst, dOf,
  gdName, gdTup, gdCons, gdNil, gdSub, rdI, rdI0, oPlus, oSub, oTimes, oDiv, oMod, oPow, oLt, oLe, oGt, oGe, oIx, oEq, oNe, uNeg, oIsN, oNotN, D.isNon, cAbs, cMax, cMin, cInt, cDivmod, cLen, tyD, items, litems, retD, sTup, mApp, dYes,
  atI_0, atI_1, atI_2, atI_3, atI_4, ixN_20, ixN_21, kit_ii, kit_ib, kit_is, kit_it, kit_il, kit_bi, kit_bb, kit_bs, kit_bt, kit_bl, kit_si, kit_sb, kit_ss, kit_st, kit_sl, kit_ti, kit_tb, kit_ts, kit_tt, kit_tl, kit_li, kit_lb, kit_ls, kit_lt, kit_ll,
  List.getElem?_cons_zero, List.getElem?_cons_succ, List.set_cons_zero, List.set_cons_succ, List.length_cons, List.length_nil, Mu.upd_same, Mu.upd_upd, Nat.zero_add, Nat.reduceAdd, Nat.reduceLeDiff, natlit, Int.reduceEq, Int.reduceLT, Int.reduceLE, Int.reduceAdd, Int.reduceSub, Int.reduceMul, Int.reducePow, Int.reduceNeg, permG2_10, permG3_210, zl_0, zl_1, zl_2, zl_3, zl_4, zl_5, zl_6, zl_7, zl_8, zl_9, zl_10, zl_11, zl_12, zl_13, zl_14, zl_15, zl_16, zl_17, zl_18, zl_19, zl_20, true_and, and_true, eq_self, not_true_eq_false, not_false_eq_true, decide_true, decide_false, if_true, Bool.false_eq_true, if_false, Bool.not_true, Bool.not_false, decide_eq_true_eq, Bool.not_eq_true', decide_eq_false_iff_not, Option.isSome, Option.map])
/-! ## rules -/
structure R where
  fs : List (Int × Int)
  top : Int
  bot : Int
def enc (r : R) : D := .tup [.str "rule", .tup (r.fs.map fr), .int r.top, .int r.bot]
def post (r : R) (k : Int) : Int × Int := if k = 0 then (0, 1) else if k ≤ r.fs.length then r.fs.getD (k - 1).toNat (0, 1) else low ((k - 1) * r.bot + r.top) r.bot
structure Gw (r : R) : Prop where
  len : r.fs.length ≤ 4
  fsok : ∀ p ∈ r.fs, p.1.natAbs < 10 ^ 21 ∧ 1 ≤ p.2 ∧ p.2 ≤ 999
  bot : 1 ≤ r.bot ∧ r.bot ≤ 999
  top : 0 ≤ r.top ∧ r.top ≤ r.bot
theorem post_0 (r : R) : post r 0 = (0, 1) := rfl
theorem post_in {r : R} {k : Int} (h0 : 0 < k) (h1 : k ≤ r.fs.length) : ∃ p ∈ r.fs, post r k = p ∧ atI r.fs (k - 1) = some p := by
  have hl : (k - 1).toNat < r.fs.length := by omega
  refine ⟨r.fs[(k - 1).toNat], List.getElem_mem hl, ?_, ?_⟩
  · unfold post
    rw [if_neg (by omega), if_pos h1, List.getD_eq_getElem?_getD, List.getElem?_eq_getElem hl]
    rfl
  · have := atI_nat (xs := r.fs) (j := (k - 1).toNat) (List.getElem?_eq_getElem hl)
    rw [show (((k - 1).toNat : Nat) : Int) = k - 1 by omega] at this
    exact this
theorem post_out {r : R} {k : Int} (h1 : (r.fs.length : Int) < k) : post r k = low ((k - 1) * r.bot + r.top) r.bot := by
  unfold post
  rw [if_neg (by omega), if_neg (by omega)]
theorem low_sz {t b : Int} (h0 : 0 < b) : 0 < (low t b).2 ∧ (low t b).2 ≤ b ∧ (low t b).1.natAbs ≤ t.natAbs ∧ (0 ≤ t → 0 ≤ (low t b).1) := by
  have hp := gcd_pos (t := t) h0
  have hd := Int.gcd_dvd_right t b
  refine ⟨?_, ?_, ?_, ?_⟩
  · show 0 < b / (Int.gcd t b : Int)
    exact Int.ediv_pos_of_pos_of_dvd h0 (by omega) hd
  · exact Int.ediv_le_self _ (by omega)
  · exact Int.natAbs_ediv_le_natAbs _ _
  · intro ht
    exact Int.ediv_nonneg ht (by omega)
theorem mul_le_of {x y a b : Int} (hx : 0 ≤ x) (hy : 0 ≤ y) (h1 : x ≤ a) (h2 : y ≤ b) : x * y ≤ a * b := Int.mul_le_mul h1 h2 hy (by omega)
theorem mulL {i j : Int} (h0 : -(2 ^ 64) < i) (h1 : i < 2 ^ 64) : Dl.MulOk i j := .inl ⟨h0, h1⟩
theorem mulR {i j : Int} (h0 : -(2 ^ 64) < j) (h1 : j < 2 ^ 64) : Dl.MulOk i j := .inr (.inl ⟨h0, h1⟩)
theorem post_sz {r : R} (g : Gw r) {k : Int} (h0 : 0 ≤ k) (h1 : k ≤ 300) : (post r k).1.natAbs < 10 ^ 22 ∧ 0 < (post r k).2 ∧ (post r k).2 ≤ 999 := by
  by_cases e : k = 0
  · subst e
    rw [post_0]
    decide
  · by_cases e2 : k ≤ r.fs.length
    · obtain ⟨p, hp, ep, _⟩ := post_in (by omega) e2
      rw [ep]
      have := g.fsok p hp
      omega
    · rw [post_out (by omega)]
      have hb := g.bot
      have ht := g.top
      have hs := low_sz (t := (k - 1) * r.bot + r.top) (b := r.bot) (by omega)
      have hm : (k - 1) * r.bot ≤ 300 * 999 := mul_le_of (by omega) (by omega) (by omega) (by omega)
      have hm0 : 0 ≤ (k - 1) * r.bot := Int.mul_nonneg (by omega) (by omega)
      omega
def sp_signpost : DSp := fun ds μ Q => ∃ r k, ds = [enc r, .int k] ∧ (Gw r ∧ 0 ≤ k ∧ k ≤ 300) ∧ Q (fr (post r k)) μ
theorem len_signpost : ∀ ds μ Q, sp_signpost ds μ Q → ds.length = (["rule", "many"] : List Str).length := by
  rintro ds μ Q ⟨r, k, rfl, _⟩
  rfl
theorem atI_map {β γ : Type} {f : β → γ} {xs : List β} {i : Int} : atI (xs.map f) i = (atI xs i).map f := Dl.atI_map ..
def db_signpost : DTS := (dSeq (dAsg (dVar 0) (gdTup 4 (gdCons (gdName 2) (gdCons (gdName 3) (gdCons (gdName 4) (gdCons (gdName 5) gdNil)))))) (dSeq (dIfS (dTest (dOp oEq (dVar 1) (dC (.int 0)))) (dRet (dTup (daCons (dC (.int 0)) (daCons (dC (.int 1)) daNil)))) dNext) (dRet (dIf (dTest (dOp oLe (dVar 1) (dCall cLen (daCons (dVar 3) daNil)))) (dOp oIx (dVar 3) (dOp oSub (dVar 1) (dC (.int 1)))) (dFn sp_lowest (daCons (dOp oPlus (dOp oTimes (dOp oSub (dVar 1) (dC (.int 1))) (dVar 5)) (dVar 4)) (daCons (dVar 5) daNil)))))))
theorem pf_signpost : ∀ ds μ Q, sp_signpost ds μ Q → db_signpost (retD Q) (startD ["rule", "many", "word", "firsts", "top", "bottom"] ds) μ := by
  rintro ds μ Q ⟨r, k, rfl, ⟨g, h0, h1⟩, h⟩
  show db_signpost (retD Q) [some (enc r), some (.int k), none, none, none, none] μ
  unfold db_signpost enc
  refine sq fun U hU => ?_
  walk_at "ev"
  refine hU.go ?_
  refine sq fun U hU => ?_
  walk_at "ev"
  by_cases e : k = 0
  · rw [if_pos e]
    subst e
    exact ⟨μ, Mu.Sub.refl _, h⟩
  · rw [if_neg e]
    refine hU.go ?_
    walk_at "ev"
    rw [List.length_map]
    by_cases e2 : k ≤ r.fs.length
    · rw [if_pos e2, Dl.atI_map]
      obtain ⟨p, hp, ep, ea⟩ := post_in (by omega) e2
      rw [ea]
      rw [ep] at h
      exact ⟨μ, Mu.Sub.refl _, h⟩
    · rw [if_neg e2]
      have hb := g.bot
      refine ⟨mulR (by omega) (by omega), ⟨by omega, by omega⟩, μ, Mu.Sub.refl _, ?_⟩
      rw [post_out (by omega)] at h
      exact h
theorem ask_signpost {r : R} {k : Int} {μ : Mu} {Q : DK} (g : Gw r) (h0 : 0 ≤ k) (h1 : k ≤ 300) (q : Q (fr (post r k)) μ) : sp_signpost [enc r, .int k] μ Q := ⟨r, k, rfl, ⟨g, h0, h1⟩, q⟩
def sp_law_post : DSp := fun ds μ Q => ∃ r k, ds = [enc r, .int k] ∧ (Gw r ∧ 0 ≤ k ∧ k ≤ 300) ∧ Q (fr (post r k)) μ
theorem len_law_post : ∀ ds μ Q, sp_law_post ds μ Q → ds.length = (["rule", "many"] : List Str).length := by
  rintro ds μ Q ⟨r, k, rfl, _⟩
  rfl
def db_law_post : DTS := (dSeq (dIfS (dTest (dOp oEq (dVar 1) (dC (.int 0)))) (dRet (dTup (daCons (dC (.int 0)) (daCons (dC (.int 1)) daNil)))) dNext) (dSeq (dIfS (dTest (dOp oLe (dVar 1) (dCall cLen (daCons (dOp oIx (dVar 0) (dC (.int 1))) daNil)))) (dRet (dOp oIx (dOp oIx (dVar 0) (dC (.int 1))) (dOp oSub (dVar 1) (dC (.int 1))))) dNext) (dRet (dFn sp_law_lowest (daCons (dOp oPlus (dOp oTimes (dOp oSub (dVar 1) (dC (.int 1))) (dOp oIx (dVar 0) (dC (.int 3)))) (dOp oIx (dVar 0) (dC (.int 2)))) (daCons (dOp oIx (dVar 0) (dC (.int 3))) daNil))))))
theorem pf_law_post : ∀ ds μ Q, sp_law_post ds μ Q → db_law_post (retD Q) (startD ["rule", "many"] ds) μ := by
  rintro ds μ Q ⟨r, k, rfl, ⟨g, h0, h1⟩, h⟩
  show db_law_post (retD Q) [some (enc r), some (.int k)] μ
  unfold db_law_post enc
  refine sq fun U hU => ?_
  walk_at "ev"
  by_cases e : k = 0
  · rw [if_pos e]
    subst e
    exact ⟨μ, Mu.Sub.refl _, h⟩
  · rw [if_neg e]
    refine hU.go ?_
    clear hU
    refine sq fun U hU => ?_
    walk_at "ev"
    rw [List.length_map]
    by_cases e2 : k ≤ r.fs.length
    · rw [if_pos e2, Dl.atI_map]
      obtain ⟨p, hp, ep, ea⟩ := post_in (by omega) e2
      rw [ea]
      rw [ep] at h
      exact ⟨μ, Mu.Sub.refl _, h⟩
    · rw [if_neg e2]
      refine hU.go ?_
      walk_at "ev"
      have hb := g.bot
      have ht := g.top
      have hm0 : 0 ≤ (k - 1) * r.bot := Int.mul_nonneg (by omega) (by omega)
      refine ⟨mulR (by omega) (by omega), ⟨by omega, by omega, by omega⟩, μ, Mu.Sub.refl _, ?_⟩
      rw [post_out (by omega)] at h
      exact h
theorem ask_lpost {r : R} {k : Int} {μ : Mu} {Q : DK} (g : Gw r) (h0 : 0 ≤ k) (h1 : k ≤ 300) (q : Q (fr (post r k)) μ) : sp_law_post [enc r, .int k] μ Q := ⟨r, k, rfl, ⟨g, h0, h1⟩, q⟩
end K10
namespace K10
open PySem PySem.Spec PyProof.Rows L2 Dl
local macro_rules | `(tactic| walk_at "ev") => `(tactic| try simp -dsimp only [↓dSeq_at, cInt2, oIs2, oNot2, dRet, dRetN, dNext, dIfS, dAsg, dDrop, dPar, dNever, dVar, dC, dOp, dUn, dTest, dChain, dAnd, dOr, dNot, dIf, dtAnd, dtOr, dtNot, dTup, daNil, daCons, dCall, dFn, dFnK, dNew, dLst, dOf,
  gdName, gdTup, gdCons, gdNil, gdSub, rdI, rdI0, oPlus, oSub, oTimes, oDiv, oMod, oPow, oLt, oLe, oGt, oGe, oIx, oEq, oNe, uNeg, oIsN, oNotN, D.isNon, cAbs, cMax, cMin, cInt, cDivmod, cLen, tyD, items, litems, retD, sTup, mApp, dYes,
  atI_0, atI_1, atI_2, atI_3, atI_4, ixN_20, ixN_21, kit_ii, kit_ib, kit_is, kit_it, kit_il, kit_bi, kit_bb, kit_bs, kit_bt, kit_bl, kit_si, kit_sb, kit_ss, kit_st, kit_sl, kit_ti, kit_tb, kit_ts, kit_tt, kit_tl, kit_li, kit_lb, kit_ls, kit_lt, kit_ll,
  List.getElem?_cons_zero, List.getElem?_cons_succ, List.set_cons_zero, List.set_cons_succ, List.length_cons, List.length_nil, Mu.upd_same, Mu.upd_upd, Nat.zero_add, Nat.reduceAdd, Nat.reduceLeDiff, natlit, Int.reduceEq, Int.reduceLT, Int.reduceLE, Int.reduceAdd, Int.reduceSub, Int.reduceMul, Int.reducePow, Int.reduceNeg, permG2_10, permG3_210, zl_0, zl_1, zl_2, zl_3, zl_4, zl_5, zl_6, zl_7, zl_8, zl_9, zl_10, zl_11, zl_12, zl_13, zl_14, zl_15, zl_16, zl_17, zl_18, zl_19, zl_20, true_and, and_true, eq_self, not_true_eq_false, not_false_eq_true, decide_true, decide_false, if_true, Bool.false_eq_true, if_false, Bool.not_true, Bool.not_false, decide_eq_true_eq, Bool.not_eq_true', decide_eq_false_iff_not, Option.isSome, Option.map])
theorem range_nat (n : Nat) : rangeD 0 (n : Int) = (List.range n).map fun (a : Nat) => D.int (a : Int) := by
  unfold rangeD
  rw [Int.sub_zero, Int.toNat_natCast]
  refine List.map_congr_left fun a _ => ?_
  show D.int (0 + (a : Int)) = D.int a
  rw [Int.zero_add]
theorem cut_1' (xs : List D) : Dl.cutD xs (some 1) none = xs.drop 1 := by
  unfold Dl.cutD
  cases xs with
  | nil => simp
  | cons x l =>
    rw [show (some (1 : Int)) = some ((1 : Nat) : Int) from rfl, HT.sIx_nat, HT.sIx_none, Nat.min_eq_left (by rw [List.length_cons]; omega)]
    exact List.take_of_length_le (by rw [List.length_drop]; exact Nat.le_refl _)
theorem r_get {f : Nat → D} {n i : Nat} : ((List.range n).map f)[i]? = if i < n then some (f i) else none := by
  by_cases h : i < n
  · rw [if_pos h, List.getElem?_map, List.getElem?_range h]
    rfl
  · rw [if_neg h, List.getElem?_eq_none (by rw [List.length_map, List.length_range]; omega)]
theorem zip_posts (f : Nat → D) (m : Nat) : zipD ((List.range (m + 1)).map f) (((List.range (m + 1)).map f).drop 1) = (List.range m).map fun k => .tup [f k, f (k + 1)] := by
  refine List.ext_getElem? fun i => ?_
  unfold zipD
  rw [List.getElem?_zipWith, List.getElem?_drop, r_get, r_get, r_get]
  by_cases h : i < m
  · rw [if_pos (by omega), if_pos (by omega), if_pos h, Nat.add_comm]
  · rw [if_neg h]
    by_cases h2 : i < m + 1
    · rw [if_pos h2, if_neg (by omega)]
    · rw [if_neg h2]
theorem enum_posts (f : Nat → D) (m : Nat) : enumD (((List.range (m + 1)).map f).drop 1) = (List.range m).map fun (k : Nat) => .tup [.int (k : Int), f (k + 1)] := by
  refine List.ext_getElem? fun i => ?_
  unfold enumD
  rw [List.getElem?_map, List.getElem?_zipIdx, List.getElem?_drop, r_get, r_get]
  by_cases h : i < m
  · rw [if_pos (by omega), if_pos h]
    simp [Nat.add_comm]
  · rw [if_neg (by omega), if_neg h]
    rfl
def upR (r : R) : Bool := (List.range (r.fs.length + 1)).all fun (k : Nat) => decide ((post r (k : Int)).1 * (post r ((k + 1 : Nat) : Int)).2 < (post r ((k + 1 : Nat) : Int)).1 * (post r (k : Int)).2)
def nearR (r : R) : Bool := (List.range (r.fs.length + 1)).all fun (k : Nat) => decide ((k : Int) * (post r ((k + 1 : Nat) : Int)).2 ≤ (post r ((k + 1 : Nat) : Int)).1) && decide ((post r ((k + 1 : Nat) : Int)).1 ≤ ((k : Int) + 1) * (post r ((k + 1 : Nat) : Int)).2)
def unfr (d : D) : Int × Int := match d with | .tup [.int a, .int b] => (a, b) | _ => (0, 1)
def ruleB (d : D) : Bool := match d with
  | .tup [.str w, .tup fs, .int t, .int b] => decide (w = "rule") && ((decide (fs.length ≤ 4) && fs.all fracB) && ((decide (1 ≤ b ∧ b ≤ 999) && (decide (0 ≤ t ∧ t ≤ b) && decide (max 1 (Int.gcd t b : Int) = 1))) && (upR ⟨fs.map unfr, t, b⟩ && nearR ⟨fs.map unfr, t, b⟩)))
  | _ => false
theorem fs_fr : ∀ {fs : List D}, fs.all fracB = true → fs = (fs.map unfr).map fr
  | [], _ => rfl
  | x :: fs, h => by
    rw [List.all_cons, Bool.and_eq_true] at h
    obtain ⟨a, b, rfl, _⟩ := fracB_sh h.1
    rw [List.map_cons, List.map_cons, ← fs_fr h.2]
    rfl
/-- what is wrong ahead of the signposts -/
theorem rule_no {d : D} (h : ∀ w fs t b, d = .tup [.str w, .tup fs, .int t, .int b] → ¬ (w = "rule" ∧ fs.length ≤ 4 ∧ fs.all fracB = true ∧ (1 ≤ b ∧ b ≤ 999) ∧ (0 ≤ t ∧ t ≤ b) ∧ max 1 (Int.gcd t b : Int) = 1)) : ruleB d = false := by
  refine Bool.eq_false_iff.mpr fun z => ?_
  unfold ruleB at z
  split at z
  · rename_i w fs t b
    simp only [Bool.and_eq_true, decide_eq_true_eq] at z
    exact h w fs t b rfl ⟨z.1, z.2.1.1, z.2.1.2, z.2.2.1.1, z.2.2.1.2.1, z.2.2.1.2.2⟩
  · cases z
theorem tl_4 {d : D} (h : tl 4 d = true) : ∃ x y z u, d = .tup [x, y, z, u] := by
  unfold tl at h
  split at h
  · rename_i ds
    have h := of_decide_eq_true h
    match ds, h with
    | [x, y, z, u], _ => exact ⟨x, y, z, u, rfl⟩
    | [], h => simp at h
    | [x], h => simp at h
    | [x, y], h => simp at h
    | [x, y, z], h => simp at h
    | x :: y :: z :: u :: v :: l, h => simp at h; omega
  · cases h
theorem isS_str {d : D} (h : isS d = true) : ∃ w, d = .str w := by
  unfold isS at h
  split at h
  · exact ⟨_, rfl⟩
  · cases h
theorem inR_int {d : D} {l m : Int} (h : inR l m d = true) : ∃ i, d = .int i ∧ l ≤ i ∧ i ≤ m := by
  unfold inR at h
  split at h
  · exact ⟨_, rfl, of_decide_eq_true h⟩
  · cases h
theorem gw_of {fs : List D} {t b : Int} {μ : Mu} {n k : Nat} (hs : Avs μ fs n k) (h4 : fs.length ≤ 4) (a : fs.all fracB = true) (hb : 1 ≤ b ∧ b ≤ 999) (ht : 0 ≤ t ∧ t ≤ b) : Gw ⟨fs.map unfr, t, b⟩ := by
  refine ⟨by rw [List.length_map]; exact h4, fun p hp => ?_, hb, ht⟩
  obtain ⟨d, hd, rfl⟩ := List.mem_map.mp hp
  obtain ⟨x, y, rfl, hy, _⟩ := fracB_sh (List.all_eq_true.mp a d hd)
  have av := hs.get _ hd
  have sh := (Av.untup av).1.head.1.shape
  have : x.natAbs < 10 ^ 21 := by
    rcases sh with h | ⟨_, h⟩ | ⟨i, h, e⟩ | ⟨_, h⟩ | h | ⟨_, h, _⟩ | ⟨_, h⟩ | ⟨_, _, h, _⟩
    all_goals cases h
    exact e
  exact ⟨this, hy.1, hy.2⟩
theorem held2 {its : List D} {a b : Nat} {xs ys : List D} {μ : Mu} (h1 : μ a = some xs) (h2 : μ b = some ys) : Src.held ⟨its, [(a, xs), (b, ys)]⟩ μ := by
  intro p hp
  cases hp with
  | head => exact h1
  | tail _ hp =>
    cases hp with
    | head => exact h2
    | tail _ hp => cases hp
theorem sz_of {i : Int} (h : i.natAbs < 10 ^ 22) : Sz i := by
  unfold Sz
  omega
def sp_is_rule_any : DSp := fun ds μ Q => ∃ d n k, ds = [d] ∧ (Av μ d n k ∧ n ≤ 100000) ∧ Q (.bl (ruleB d)) μ
theorem len_is_rule_any : ∀ ds μ Q, sp_is_rule_any ds μ Q → ds.length = (["value"] : List Str).length := by
  rintro ds μ Q ⟨d, n, k, rfl, _⟩
  rfl
def db_is_rule_any : DTS := (dSeq (dIfS (dtOr (dtNot (dTest (dFn sp_is_tuple (daCons (dVar 0) (daCons (dC (.int 4)) daNil))))) (dtOr (dtNot (dTest (dCall cIsi (daCons (dOp oIx (dVar 0) (dC (.int 0))) (daCons (dC (.ty "str")) daNil))))) (dTest (dOp oNe (dOp oIx (dVar 0) (dC (.int 0))) (dC (.str "rule")))))) (dRet (dC (.bl false))) dNext) (dSeq (dAsg (dVar 0) (gdTup 4 (gdCons (gdName 1) (gdCons (gdName 2) (gdCons (gdName 3) (gdCons (gdName 4) gdNil)))))) (dSeq (dIfS (dtOr (dtNot (dTest (dCall cIsi (daCons (dVar 2) (daCons (dC (.ty "tuple")) daNil))))) (dtOr (dTest (dOp oGt (dCall cLen (daCons (dVar 2) daNil)) (dC (.int 4)))) (dtNot (dTest (dOf sAll (dLc (diSeq (dVar 2)) (gdName 5) dYes (dFn sp_is_small (daCons (dVar 5) daNil)) [5])))))) (dRet (dC (.bl false))) dNext) (dSeq (dIfS (dtOr (dtNot (dTest (dFn sp_is_within (daCons (dVar 4) (daCons (dC (.int 1)) (daCons (dC (.int 999)) daNil)))))) (dtOr (dtNot (dTest (dFn sp_is_within (daCons (dVar 3) (daCons (dC (.int 0)) (daCons (dVar 4) daNil)))))) (dTest (dOp oNe (dFn sp_common (daCons (dVar 3) (daCons (dVar 4) daNil))) (dC (.int 1)))))) (dRet (dC (.bl false))) dNext) (dSeq (dAsg (dNew (dLc (diR1 (daCons (dOp oPlus (dCall cLen (daCons (dVar 2) daNil)) (dC (.int 2))) daNil)) (gdName 7) dYes (dFn sp_signpost (daCons (dVar 0) (daCons (dVar 7) daNil))) [7])) (gdName 6)) (dSeq (dIfS (dtNot (dTest (dOf sAll (dLc (diZ2 (dVar 6) (dSl (dVar 6) (doSome (dC (.int 1))) doNone)) (gdTup 2 (gdCons (gdName 8) (gdCons (gdName 9) gdNil))) dYes (dFn sp_is_less (daCons (dVar 8) (daCons (dVar 9) daNil))) [8, 9])))) (dRet (dC (.bl false))) dNext) (dRet (dOf sAll (dLc (diEnum2 (dSl (dVar 6) (doSome (dC (.int 1))) doNone)) (gdTup 2 (gdCons (gdName 7) (gdCons (gdName 10) gdNil))) dYes (dAnd (dFn sp_is_at_most (daCons (dTup (daCons (dVar 7) (daCons (dC (.int 1)) daNil))) (daCons (dVar 10) daNil))) (dFn sp_is_at_most (daCons (dVar 10) (daCons (dTup (daCons (dOp oPlus (dVar 7) (dC (.int 1))) (daCons (dC (.int 1)) daNil))) daNil)))) [7, 10])))))))))
theorem pf_is_rule_any : ∀ ds μ Q, sp_is_rule_any ds μ Q → db_is_rule_any (retD Q) (startD ["value", "word", "firsts", "top", "bottom", "one", "posts", "many", "near", "far", "post"] ds) μ := by
  rintro ds μ Q ⟨d, n, k, rfl, ⟨h, hn⟩, q⟩
  show db_is_rule_any (retD Q) [some d, none, none, none, none, none, none, none, none, none, none] μ
  have stop : (∀ w fs t b, d = .tup [.str w, .tup fs, .int t, .int b] → ¬ (w = "rule" ∧ fs.length ≤ 4 ∧ fs.all fracB = true ∧ (1 ≤ b ∧ b ≤ 999) ∧ (0 ≤ t ∧ t ≤ b) ∧ max 1 (Int.gcd t b : Int) = 1)) → ∃ μ', Mu.Sub μ' μ ∧ Q (.bl false) μ' := fun z => by
    rw [rule_no z] at q
    exact ⟨_, Mu.Sub.refl _, q⟩
  unfold db_is_rule_any
  refine sq fun U hU => ?_
  walk_at "ev"
  refine ask_tuple h ?_
  walk_at "ev"
  by_cases t4 : tl 4 d = true
  · rw [if_neg (by rw [t4]; decide)]
    obtain ⟨x, y, z, u, rfl⟩ := tl_4 t4
    have hs := (Av.untup h).1
    have ax := hs.get x (by simp)
    have ay := hs.get y (by simp)
    have az := hs.get z (by simp)
    have au := hs.get u (by simp)
    walk_at "ev"
    refine isi_str ax ?_
    walk_at "ev"
    by_cases sx : isS x = true
    · rw [if_neg (by rw [sx]; decide)]
      obtain ⟨w, rfl⟩ := isS_str sx
      walk_at "ev"
      by_cases ew : w = "rule"
      · subst ew
        rw [if_neg (fun z => z rfl)]
        refine hU.go ?_
        clear hU
        refine sq fun U hU => ?_
        walk_at "ev"
        refine hU.go ?_
        clear hU
        refine sq fun U hU => ?_
        walk_at "ev"
        refine isi_tup ay ?_
        walk_at "ev"
        by_cases ty : isT y = true
        · rw [if_neg (by rw [ty]; decide)]
          obtain ⟨fs, rfl⟩ := isT_tup ty
          have hf := (Av.untup ay).1
          walk_at "ev"
          by_cases l4 : 4 < (fs.length : Int)
          · rw [if_pos l4]
            exact stop fun w' fs' t b e z => by cases e; omega
          · rw [if_neg l4]
            simp -dsimp only [dLc, diSeq]
            walk_at "ev"
            refine lc_sub (fun d => .bl (fracB d)) held_nil (show fs.length ≤ 100000 by omega) (fun v hv μ' Qy sb q2 => ?_) ?_
            · simp -dsimp only [wipeD]
              walk_at "ev"
              exact ask_small ((hf.get v hv).mono sb) q2
            · refine sAll_map (b := fracB) ?_
              walk_at "ev"
              by_cases af : fs.all fracB = true
              · rw [if_neg (by rw [af]; decide)]
                refine hU.go ?_
                clear hU
                refine sq fun U hU => ?_
                walk_at "ev"
                refine ask_within au ?_
                walk_at "ev"
                by_cases bu : inR 1 999 u = true
                · rw [if_neg (by rw [bu]; decide)]
                  obtain ⟨b, rfl, b0, b1⟩ := inR_int bu
                  walk_at "ev"
                  refine ask_within az ?_
                  walk_at "ev"
                  by_cases bz : inR 0 b z = true
                  · rw [if_neg (by rw [bz]; decide)]
                    obtain ⟨t, rfl, t0, t1⟩ := inR_int bz
                    walk_at "ev"
                    refine ⟨⟨by omega, by omega⟩, ?_⟩
                    walk_at "ev"
                    by_cases gc : max 1 (Int.gcd t b : Int) = 1
                    · rw [if_neg (fun z => z gc)]
                      clear stop
                      have gw : Gw ⟨fs.map unfr, t, b⟩ := gw_of hf (by omega) af ⟨b0, b1⟩ ⟨t0, t1⟩
                      have er : ruleB (.tup [.str "rule", .tup fs, .int t, .int b]) = (upR ⟨fs.map unfr, t, b⟩ && nearR ⟨fs.map unfr, t, b⟩) := by
                        unfold ruleB
                        simp only [af, decide_eq_true (show fs.length ≤ 4 by omega), decide_eq_true (show 1 ≤ b ∧ b ≤ 999 from ⟨b0, b1⟩), decide_eq_true (show 0 ≤ t ∧ t ≤ b from ⟨t0, t1⟩), decide_eq_true gc, decide_true, Bool.true_and]
                      rw [er] at q
                      have ef := fs_fr af
                      have ee : D.tup [.str "rule", .tup fs, .int t, .int b] = enc ⟨fs.map unfr, t, b⟩ := by
                        unfold enc
                        rw [← ef]
                      have et : D.tup fs = .tup ((⟨fs.map unfr, t, b⟩ : R).fs.map fr) := by rw [← ef]
                      have rt : t = (⟨fs.map unfr, t, b⟩ : R).top := rfl
                      have rb : b = (⟨fs.map unfr, t, b⟩ : R).bot := rfl
                      rw [ee, et]
                      clear er ef ee h hs ax ay az au t4 sx ty hf l4 af bu bz gc et
                      refine hU.go ?_
                      clear hU
                      revert q
                      generalize (⟨fs.map unfr, t, b⟩ : R) = r at gw
                      intro q
                      have hl := gw.len
                      refine sq fun U hU => ?_
                      walk_at "ev"
                      simp -dsimp only [dLc, diR1]
                      walk_at "ev"
                      rw [List.length_map]
                      refine ⟨⟨by omega, by omega⟩, ?_⟩
                      rw [show (r.fs.length : Int) + 2 = ((r.fs.length + 2 : Nat) : Int) by omega, range_nat]
                      refine lc_tm (l := List.range (r.fs.length + 2)) (e := fun (a : Nat) => D.int (a : Int)) (fun (k : Nat) => fr (post r (k : Int))) held_nil (by rw [List.length_range]; omega) (fun k hk μ' Qy sb q2 => ?_) ?_
                      · have hk := List.mem_range.mp hk
                        simp -dsimp only [wipeD]
                        walk_at "ev"
                        exact ask_signpost gw (by omega) (by omega) q2
                      intro k hk
                      refine hU.go ?_
                      clear hU
                      refine sq fun U hU => ?_
                      walk_at "ev"
                      simp -dsimp only [dLc, diZ2, dSl, doSome, doNone, lsrc]
                      walk_at "ev"
                      intro n hn
                      have hkn : k ≠ n := Mu.ne_of Mu.upd_same hn
                      simp -dsimp only [src2, lsrc]
                      rw [Mu.upd_ne hkn, Mu.upd_same, Mu.upd_same, cut_1']
                      show lcIn ⟨zipD _ _, [(k, _), (n, _)]⟩ _ _ _ _ _ _
                      rw [zip_posts (fun (k : Nat) => fr (post r (k : Int))) (r.fs.length + 1)]
                      have hk2 := held2 (h1 := (Mu.upd_ne (μ := μ.upd k (List.map (fun (k : Nat) => fr (post r (k : Int))) (List.range (r.fs.length + 2)))) (xs := List.drop 1 (List.map (fun (k : Nat) => fr (post r (k : Int))) (List.range (r.fs.length + 2)))) hkn).trans Mu.upd_same) (h2 := Mu.upd_same) (its := (List.range (r.fs.length + 1)).map fun (k : Nat) => D.tup [fr (post r (k : Int)), fr (post r ((k + 1 : Nat) : Int))])
                      refine lc_tm (l := List.range (r.fs.length + 1)) (e := fun (k : Nat) => D.tup [fr (post r (k : Int)), fr (post r ((k + 1 : Nat) : Int))]) (fun (k : Nat) => D.bl (decide ((post r (k : Int)).1 * (post r ((k + 1 : Nat) : Int)).2 < (post r ((k + 1 : Nat) : Int)).1 * (post r (k : Int)).2))) hk2 (by rw [List.length_range]; omega) (fun k hk μ' Qy sb q2 => ?_) ?_
                      · have hk := List.mem_range.mp hk
                        simp -dsimp only [wipeD, fr]
                        walk_at "ev"
                        have s1 := post_sz gw (k := (k : Int)) (by omega) (by omega)
                        have s2 := post_sz gw (k := ((k + 1 : Nat) : Int)) (by omega) (by omega)
                        exact ⟨⟨sz_of s1.1, sz_of (by omega), sz_of s2.1, sz_of (by omega)⟩, q2⟩
                      refine sAll_ty (b := fun (k : Nat) => decide ((post r (k : Int)).1 * (post r ((k + 1 : Nat) : Int)).2 < (post r ((k + 1 : Nat) : Int)).1 * (post r (k : Int)).2)) ?_
                      walk_at "ev"
                      by_cases up : upR r = true
                      · rw [if_neg (by intro z; rw [← upR, up] at z; cases z)]
                        rw [up, Bool.true_and] at q
                        refine hU.go ?_
                        clear hU
                        walk_at "ev"
                        simp -dsimp only [dLc, diEnum2, dSl, doSome, doNone, lsrc]
                        walk_at "ev"
                        rw [Mu.upd_ne hkn, Mu.upd_same]
                        intro m hm
                        rw [cut_1', enum_posts (fun (k : Nat) => fr (post r (k : Int))) (r.fs.length + 1)]
                        refine lc_tm (l := List.range (r.fs.length + 1)) (e := fun (k : Nat) => D.tup [.int (k : Int), fr (post r ((k + 1 : Nat) : Int))]) (fun (k : Nat) => D.bl (decide ((k : Int) * (post r ((k + 1 : Nat) : Int)).2 ≤ (post r ((k + 1 : Nat) : Int)).1) && decide ((post r ((k + 1 : Nat) : Int)).1 ≤ ((k : Int) + 1) * (post r ((k + 1 : Nat) : Int)).2))) (held_one Mu.upd_same) (by rw [List.length_range]; omega) (fun k hk μ' Qy sb q2 => ?_) ?_
                        · have hk := List.mem_range.mp hk
                          simp -dsimp only [wipeD, fr]
                          walk_at "ev"
                          have s2 := post_sz gw (k := ((k + 1 : Nat) : Int)) (by omega) (by omega)
                          refine ⟨⟨sz_of (by omega), sz_of (by omega), sz_of s2.1, sz_of (by omega)⟩, ?_⟩
                          rw [Int.mul_one]
                          by_cases c : (k : Int) * (post r ((k + 1 : Nat) : Int)).2 ≤ (post r ((k + 1 : Nat) : Int)).1
                          · rw [decide_eq_true c]
                            refine ⟨⟨sz_of s2.1, sz_of (by omega), sz_of (by omega), sz_of (by omega)⟩, ?_⟩
                            rw [decide_eq_true c, Bool.true_and] at q2
                            rw [Int.mul_one]
                            exact q2
                          · rw [decide_eq_false c]
                            rw [decide_eq_false c, Bool.false_and] at q2
                            exact q2
                        refine sAll_ty (b := fun (k : Nat) => decide ((k : Int) * (post r ((k + 1 : Nat) : Int)).2 ≤ (post r ((k + 1 : Nat) : Int)).1) && decide ((post r ((k + 1 : Nat) : Int)).1 ≤ ((k : Int) + 1) * (post r ((k + 1 : Nat) : Int)).2)) ?_
                        exact ⟨μ, (Mu.sub_upd hk).trans ((Mu.sub_upd hn).trans (Mu.sub_upd hm)), q⟩
                      · have up' := Bool.eq_false_iff.mpr up
                        rw [up', Bool.false_and] at q
                        unfold upR at up'
                        rw [if_pos up']
                        exact ⟨μ, (Mu.sub_upd hk).trans (Mu.sub_upd hn), q⟩
                    · rw [if_pos gc]
                      exact stop fun w' fs' t' b' e z => by cases e; exact gc z.2.2.2.2.2
                  · rw [if_pos (Bool.eq_false_iff.mpr bz)]
                    exact stop fun w' fs' t' b' e z => by cases e; exact bz (decide_eq_true z.2.2.2.2.1)
                · rw [if_pos (Bool.eq_false_iff.mpr bu)]
                  exact stop fun w' fs' t' b' e z => by cases e; exact bu (decide_eq_true z.2.2.2.1)
              · rw [if_pos (Bool.eq_false_iff.mpr af)]
                exact stop fun w' fs' t b e z => by cases e; exact af z.2.2.1
        · rw [if_pos (Bool.eq_false_iff.mpr ty)]
          exact stop fun w' fs' t b e z => by cases e; exact ty rfl
      · rw [if_pos ew]
        exact stop fun w' fs t b e z => by cases e; exact ew z.1
    · rw [if_pos (Bool.eq_false_iff.mpr sx)]
      exact stop fun w fs t b e _ => by cases e; exact sx rfl
  · rw [if_pos (Bool.eq_false_iff.mpr t4)]
    exact stop fun w fs t b e _ => by subst e; exact t4 rfl
theorem ask_ruleany {d : D} {μ : Mu} {n k : Nat} {Q : DK} (h : Av μ d n k) (hn : n ≤ 100000) (q : Q (.bl (ruleB d)) μ) : sp_is_rule_any [d] μ Q := ⟨d, n, k, rfl, ⟨h, hn⟩, q⟩
end K10
namespace K10
open PySem PySem.Spec PyProof.Rows L2 Dl
local macro_rules | `(tactic| walk_at "ev") => `(tactic| try simp -dsimp only [↓dSeq_at, cInt2, oIs2, oNot2, dRet, dRetN, dNext, dIfS, dAsg, dDrop, dPar, dNever, dVar, dC, dOp, dUn, dTest, dChain, dAnd, dOr, dNot, dIf, dtAnd, dtOr, dtNot, dTup, daNil, daCons, dCall, dFn, dFnK, dNew, dLst, dOf,
  gdName, gdTup, gdCons, gdNil, gdSub, rdI, rdI0, oPlus, oSub, oTimes, oDiv, oMod, oPow, oLt, oLe, oGt, oGe, oIx, oEq, oNe, uNeg, oIsN, oNotN, D.isNon, cAbs, cMax, cMin, cInt, cDivmod, cLen, tyD, items, litems, retD, sTup, mApp, dYes,
  atI_0, atI_1, atI_2, atI_3, atI_4, ixN_20, ixN_21, kit_ii, kit_ib, kit_is, kit_it, kit_il, kit_bi, kit_bb, kit_bs, kit_bt, kit_bl, kit_si, kit_sb, kit_ss, kit_st, kit_sl, kit_ti, kit_tb, kit_ts, kit_tt, kit_tl, kit_li, kit_lb, kit_ls, kit_lt, kit_ll,
  List.getElem?_cons_zero, List.getElem?_cons_succ, List.set_cons_zero, List.set_cons_succ, List.length_cons, List.length_nil, Mu.upd_same, Mu.upd_upd, Nat.zero_add, Nat.reduceAdd, Nat.reduceLeDiff, natlit, Int.reduceEq, Int.reduceLT, Int.reduceLE, Int.reduceAdd, Int.reduceSub, Int.reduceMul, Int.reducePow, Int.reduceNeg, permG2_10, permG3_210, zl_0, zl_1, zl_2, zl_3, zl_4, zl_5, zl_6, zl_7, zl_8, zl_9, zl_10, zl_11, zl_12, zl_13, zl_14, zl_15, zl_16, zl_17, zl_18, zl_19, zl_20, true_and, and_true, eq_self, not_true_eq_false, not_false_eq_true, decide_true, decide_false, if_true, Bool.false_eq_true, if_false, Bool.not_true, Bool.not_false, decide_eq_true_eq, Bool.not_eq_true', decide_eq_false_iff_not, Option.isSome, Option.map])
def sp_law_is_rule : DSp := fun ds μ Q => ∃ d n k, ds = [d] ∧ (Av μ d n k ∧ n ≤ 100000) ∧ Q (.bl (ruleB d)) μ
theorem len_law_is_rule : ∀ ds μ Q, sp_law_is_rule ds μ Q → ds.length = (["value"] : List Str).length := by
  rintro ds μ Q ⟨d, n, k, rfl, _⟩
  rfl
def db_law_is_rule : DTS := (dSeq (dIfS (dtOr (dtNot (dTest (dCall cIsi (daCons (dVar 0) (daCons (dC (.ty "tuple")) daNil))))) (dtOr (dTest (dOp oNe (dCall cLen (daCons (dVar 0) daNil)) (dC (.int 4)))) (dtOr (dtNot (dTest (dCall cIsi (daCons (dOp oIx (dVar 0) (dC (.int 0))) (daCons (dC (.ty "str")) daNil))))) (dtOr (dTest (dOp oNe (dOp oIx (dVar 0) (dC (.int 0))) (dC (.str "rule")))) (dtNot (dTest (dCall cIsi (daCons (dOp oIx (dVar 0) (dC (.int 1))) (daCons (dC (.ty "tuple")) daNil))))))))) (dRet (dC (.bl false))) dNext) (dSeq (dIfS (dtOr (dTest (dOp oGt (dCall cLen (daCons (dOp oIx (dVar 0) (dC (.int 1))) daNil)) (dC (.int 4)))) (dtNot (dTest (dOf sAll (dLc (diSeq (dOp oIx (dVar 0) (dC (.int 1)))) (gdName 1) dYes (dFn sp_law_is_fraction (daCons (dVar 1) daNil)) [1]))))) (dRet (dC (.bl false))) dNext) (dSeq (dIfS (dtOr (dtNot (dTest (dFn sp_law_is_whole (daCons (dOp oIx (dVar 0) (dC (.int 3))) (daCons (dC (.int 1)) (daCons (dC (.int 999)) daNil)))))) (dtOr (dtNot (dTest (dFn sp_law_is_whole (daCons (dOp oIx (dVar 0) (dC (.int 2))) (daCons (dC (.int 0)) (daCons (dOp oIx (dVar 0) (dC (.int 3))) daNil)))))) (dTest (dOp oNe (dFn sp_law_divisor (daCons (dOp oIx (dVar 0) (dC (.int 2))) (daCons (dOp oIx (dVar 0) (dC (.int 3))) daNil))) (dC (.int 1)))))) (dRet (dC (.bl false))) dNext) (dSeq (dAsg (dNew (dLc (diR1 (daCons (dOp oPlus (dCall cLen (daCons (dOp oIx (dVar 0) (dC (.int 1))) daNil)) (dC (.int 2))) daNil)) (gdName 3) dYes (dFn sp_law_post (daCons (dVar 0) (daCons (dVar 3) daNil))) [3])) (gdName 2)) (dSeq (dIfS (dtNot (dTest (dOf sAll (dLc (diZ2 (dVar 2) (dSl (dVar 2) (doSome (dC (.int 1))) doNone)) (gdTup 2 (gdCons (gdName 4) (gdCons (gdName 5) gdNil))) dYes (dFn sp_law_below (daCons (dVar 4) (daCons (dVar 5) daNil))) [4, 5])))) (dRet (dC (.bl false))) dNext) (dRet (dOf sAll (dLc (diEnum2 (dSl (dVar 2) (doSome (dC (.int 1))) doNone)) (gdTup 2 (gdCons (gdName 3) (gdCons (gdName 6) gdNil))) dYes (dChain oLe oLe (dOp oTimes (dVar 3) (dOp oIx (dVar 6) (dC (.int 1)))) (dOp oIx (dVar 6) (dC (.int 0))) (dOp oTimes (dOp oPlus (dVar 3) (dC (.int 1))) (dOp oIx (dVar 6) (dC (.int 1))))) [3, 6]))))))))
theorem pf_law_is_rule : ∀ ds μ Q, sp_law_is_rule ds μ Q → db_law_is_rule (retD Q) (startD ["value", "one", "posts", "many", "near", "far", "post"] ds) μ := by
  rintro ds μ Q ⟨d, n, k, rfl, ⟨h, hn⟩, q⟩
  show db_law_is_rule (retD Q) [some d, none, none, none, none, none, none] μ
  have stop : (∀ w fs t b, d = .tup [.str w, .tup fs, .int t, .int b] → ¬ (w = "rule" ∧ fs.length ≤ 4 ∧ fs.all fracB = true ∧ (1 ≤ b ∧ b ≤ 999) ∧ (0 ≤ t ∧ t ≤ b) ∧ max 1 (Int.gcd t b : Int) = 1)) → ∃ μ', Mu.Sub μ' μ ∧ Q (.bl false) μ' := fun z => by
    rw [rule_no z] at q
    exact ⟨_, Mu.Sub.refl _, q⟩
  unfold db_law_is_rule
  refine sq fun U hU => ?_
  walk_at "ev"
  refine isi_tup h ?_
  walk_at "ev"
  by_cases tt : isT d = true
  · rw [if_neg (by rw [tt]; decide)]
    obtain ⟨vs, rfl⟩ := isT_tup tt
    walk_at "ev"
    by_cases t4 : (vs.length : Int) = 4
    · rw [if_neg (fun z => z t4)]
      obtain ⟨x, y, z, u, e⟩ := tl_4 (d := .tup vs) (decide_eq_true t4)
      cases e
      clear tt t4
      have hs := (Av.untup h).1
      have ax := hs.get x (by simp)
      have ay := hs.get y (by simp)
      have az := hs.get z (by simp)
      have au := hs.get u (by simp)
      walk_at "ev"
      refine isi_str ax ?_
      walk_at "ev"
      by_cases sx : isS x = true
      · rw [if_neg (by rw [sx]; decide)]
        obtain ⟨w, rfl⟩ := isS_str sx
        walk_at "ev"
        by_cases ew : w = "rule"
        · subst ew
          rw [if_neg (fun z => z rfl)]
          walk_at "ev"
          refine isi_tup ay ?_
          walk_at "ev"
          by_cases ty : isT y = true
          · rw [if_neg (by rw [ty]; decide)]
            obtain ⟨fs, rfl⟩ := isT_tup ty
            have hf := (Av.untup ay).1
            refine hU.go ?_
            clear hU
            refine sq fun U hU => ?_
            walk_at "ev"
            by_cases l4 : 4 < (fs.length : Int)
            · rw [if_pos l4]
              exact stop fun w' fs' t b e z => by cases e; omega
            · rw [if_neg l4]
              simp -dsimp only [dLc, diSeq]
              walk_at "ev"
              refine lc_sub (fun d => .bl (fracB d)) held_nil (show fs.length ≤ 100000 by omega) (fun v hv μ' Qy sb q2 => ?_) ?_
              · simp -dsimp only [wipeD]
                walk_at "ev"
                exact ask_fracB ((hf.get v hv).mono sb) q2
              · refine sAll_map (b := fracB) ?_
                walk_at "ev"
                by_cases af : fs.all fracB = true
                · rw [if_neg (by rw [af]; decide)]
                  refine hU.go ?_
                  clear hU
                  refine sq fun U hU => ?_
                  walk_at "ev"
                  refine ask_whole au ?_
                  walk_at "ev"
                  by_cases bu : inR 1 999 u = true
                  · rw [if_neg (by rw [bu]; decide)]
                    obtain ⟨b, rfl, b0, b1⟩ := inR_int bu
                    walk_at "ev"
                    refine ask_whole az ?_
                    walk_at "ev"
                    by_cases bz : inR 0 b z = true
                    · rw [if_neg (by rw [bz]; decide)]
                      obtain ⟨t, rfl, t0, t1⟩ := inR_int bz
                      walk_at "ev"
                      refine ⟨⟨by omega, by omega⟩, ?_⟩
                      walk_at "ev"
                      by_cases gc : max 1 (Int.gcd t b : Int) = 1
                      · rw [if_neg (fun z => z gc)]
                        clear stop
                        have gw : Gw ⟨fs.map unfr, t, b⟩ := gw_of hf (by omega) af ⟨b0, b1⟩ ⟨t0, t1⟩
                        have er : ruleB (.tup [.str "rule", .tup fs, .int t, .int b]) = (upR ⟨fs.map unfr, t, b⟩ && nearR ⟨fs.map unfr, t, b⟩) := by
                          unfold ruleB
                          simp only [af, decide_eq_true (show fs.length ≤ 4 by omega), decide_eq_true (show 1 ≤ b ∧ b ≤ 999 from ⟨b0, b1⟩), decide_eq_true (show 0 ≤ t ∧ t ≤ b from ⟨t0, t1⟩), decide_eq_true gc, decide_true, Bool.true_and]
                        rw [er] at q
                        have ef := fs_fr af
                        have ee : D.tup [.str "rule", .tup fs, .int t, .int b] = enc ⟨fs.map unfr, t, b⟩ := by
                          unfold enc
                          rw [← ef]
                        rw [ee]
                        clear er ef ee h hs ax ay az au sx ty hf l4 af bu bz gc
                        refine hU.go ?_
                        clear hU
                        revert q
                        generalize (⟨fs.map unfr, t, b⟩ : R) = r at gw
                        intro q
                        have hl := gw.len
                        refine sq fun U hU => ?_
                        unfold enc
                        walk_at "ev"
                        simp -dsimp only [dLc, diR1]
                        walk_at "ev"
                        rw [List.length_map]
                        refine ⟨⟨by omega, by omega⟩, ?_⟩
                        rw [show (r.fs.length : Int) + 2 = ((r.fs.length + 2 : Nat) : Int) by omega, range_nat]
                        refine lc_tm (l := List.range (r.fs.length + 2)) (e := fun (a : Nat) => D.int (a : Int)) (fun (k : Nat) => fr (post r (k : Int))) held_nil (by rw [List.length_range]; omega) (fun k hk μ' Qy sb q2 => ?_) ?_
                        · have hk := List.mem_range.mp hk
                          simp -dsimp only [wipeD]
                          walk_at "ev"
                          exact ask_lpost gw (by omega) (by omega) q2
                        intro k hk
                        refine hU.go ?_
                        clear hU
                        refine sq fun U hU => ?_
                        walk_at "ev"
                        simp -dsimp only [dLc, diZ2, dSl, doSome, doNone, lsrc]
                        walk_at "ev"
                        intro n hn
                        have hkn : k ≠ n := Mu.ne_of Mu.upd_same hn
                        simp -dsimp only [src2, lsrc]
                        rw [Mu.upd_ne hkn, Mu.upd_same, Mu.upd_same, cut_1']
                        show lcIn ⟨zipD _ _, [(k, _), (n, _)]⟩ _ _ _ _ _ _
                        rw [zip_posts (fun (k : Nat) => fr (post r (k : Int))) (r.fs.length + 1)]
                        have hk2 := held2 (h1 := (Mu.upd_ne (μ := μ.upd k (List.map (fun (k : Nat) => fr (post r (k : Int))) (List.range (r.fs.length + 2)))) (xs := List.drop 1 (List.map (fun (k : Nat) => fr (post r (k : Int))) (List.range (r.fs.length + 2)))) hkn).trans Mu.upd_same) (h2 := Mu.upd_same) (its := (List.range (r.fs.length + 1)).map fun (k : Nat) => D.tup [fr (post r (k : Int)), fr (post r ((k + 1 : Nat) : Int))])
                        refine lc_tm (l := List.range (r.fs.length + 1)) (e := fun (k : Nat) => D.tup [fr (post r (k : Int)), fr (post r ((k + 1 : Nat) : Int))]) (fun (k : Nat) => D.bl (decide ((post r (k : Int)).1 * (post r ((k + 1 : Nat) : Int)).2 < (post r ((k + 1 : Nat) : Int)).1 * (post r (k : Int)).2))) hk2 (by rw [List.length_range]; omega) (fun k hk μ' Qy sb q2 => ?_) ?_
                        · have hk := List.mem_range.mp hk
                          simp -dsimp only [wipeD, fr]
                          walk_at "ev"
                          have s1 := post_sz gw (k := (k : Int)) (by omega) (by omega)
                          have s2 := post_sz gw (k := ((k + 1 : Nat) : Int)) (by omega) (by omega)
                          exact ⟨⟨sz_of s1.1, sz_of (by omega), sz_of s2.1, sz_of (by omega)⟩, q2⟩
                        refine sAll_ty (b := fun (k : Nat) => decide ((post r (k : Int)).1 * (post r ((k + 1 : Nat) : Int)).2 < (post r ((k + 1 : Nat) : Int)).1 * (post r (k : Int)).2)) ?_
                        walk_at "ev"
                        by_cases up : upR r = true
                        · rw [if_neg (by intro z; rw [← upR, up] at z; cases z)]
                          rw [up, Bool.true_and] at q
                          refine hU.go ?_
                          clear hU
                          walk_at "ev"
                          simp -dsimp only [dLc, diEnum2, dSl, doSome, doNone, lsrc]
                          walk_at "ev"
                          rw [Mu.upd_ne hkn, Mu.upd_same]
                          intro m hm
                          rw [cut_1', enum_posts (fun (k : Nat) => fr (post r (k : Int))) (r.fs.length + 1)]
                          refine lc_tm (l := List.range (r.fs.length + 1)) (e := fun (k : Nat) => D.tup [.int (k : Int), fr (post r ((k + 1 : Nat) : Int))]) (fun (k : Nat) => D.bl (decide ((k : Int) * (post r ((k + 1 : Nat) : Int)).2 ≤ (post r ((k + 1 : Nat) : Int)).1) && decide ((post r ((k + 1 : Nat) : Int)).1 ≤ ((k : Int) + 1) * (post r ((k + 1 : Nat) : Int)).2))) (held_one Mu.upd_same) (by rw [List.length_range]; omega) (fun k hk μ' Qy sb q2 => ?_) ?_
                          · have hk := List.mem_range.mp hk
                            simp -dsimp only [wipeD, fr]
                            walk_at "ev"
                            have s2 := post_sz gw (k := ((k + 1 : Nat) : Int)) (by omega) (by omega)
                            refine ⟨mulR (by omega) (by omega), ?_⟩
                            by_cases c : (k : Int) * (post r ((k + 1 : Nat) : Int)).2 ≤ (post r ((k + 1 : Nat) : Int)).1
                            · rw [if_pos c]
                              rw [decide_eq_true c, Bool.true_and] at q2
                              exact ⟨mulR (by omega) (by omega), q2⟩
                            · rw [if_neg c]
                              rw [decide_eq_false c, Bool.false_and] at q2
                              exact q2
                          refine sAll_ty (b := fun (k : Nat) => decide ((k : Int) * (post r ((k + 1 : Nat) : Int)).2 ≤ (post r ((k + 1 : Nat) : Int)).1) && decide ((post r ((k + 1 : Nat) : Int)).1 ≤ ((k : Int) + 1) * (post r ((k + 1 : Nat) : Int)).2)) ?_
                          exact ⟨μ, (Mu.sub_upd hk).trans ((Mu.sub_upd hn).trans (Mu.sub_upd hm)), q⟩
                        · have up' := Bool.eq_false_iff.mpr up
                          rw [up', Bool.false_and] at q
                          unfold upR at up'
                          rw [if_pos up']
                          exact ⟨μ, (Mu.sub_upd hk).trans (Mu.sub_upd hn), q⟩
                      · rw [if_pos gc]
                        exact stop fun w' fs' t' b' e z => by cases e; exact gc z.2.2.2.2.2
                    · rw [if_pos (Bool.eq_false_iff.mpr bz)]
                      exact stop fun w' fs' t' b' e z => by cases e; exact bz (decide_eq_true z.2.2.2.2.1)
                  · rw [if_pos (Bool.eq_false_iff.mpr bu)]
                    exact stop fun w' fs' t' b' e z => by cases e; exact bu (decide_eq_true z.2.2.2.1)
                · rw [if_pos (Bool.eq_false_iff.mpr af)]
                  exact stop fun w' fs' t b e z => by cases e; exact af z.2.2.1
          · rw [if_pos (Bool.eq_false_iff.mpr ty)]
            exact stop fun w' fs' t b e z => by cases e; exact ty rfl
        · rw [if_pos ew]
          exact stop fun w' fs t b e z => by cases e; exact ew z.1
      · rw [if_pos (Bool.eq_false_iff.mpr sx)]
        exact stop fun w fs t b e _ => by cases e; exact sx rfl
    · rw [if_pos t4]
      exact stop fun w fs t b e _ => by cases e; exact t4 rfl
  · rw [if_pos (Bool.eq_false_iff.mpr tt)]
    exact stop fun w fs t b e _ => by subst e; exact tt rfl
theorem ask_lrule {d : D} {μ : Mu} {n k : Nat} {Q : DK} (h : Av μ d n k) (hn : n ≤ 100000) (q : Q (.bl (ruleB d)) μ) : sp_law_is_rule [d] μ Q := ⟨d, n, k, rfl, ⟨h, hn⟩, q⟩
end K10
namespace K10
open PySem PySem.Spec PyProof.Rows L2 Dl
local macro_rules | `(tactic| walk_at "ev") => `(tactic| try simp -dsimp only [↓dSeq_at, cInt2, oIs2, oNot2, dRet, dRetN, dNext, dIfS, dAsg, dDrop, dPar, dNever, dVar, dC, dOp, dUn, dTest, dChain, dAnd, dOr, dNot, dIf, dtAnd, dtOr, dtNot, dTup, daNil, daCons, dCall, dFn, dFnK, dNew, dLst, dOf,
  gdName, gdTup, gdCons, gdNil, gdSub, rdI, rdI0, oPlus, oSub, oTimes, oDiv, oMod, oPow, oLt, oLe, oGt, oGe, oIx, oEq, oNe, uNeg, oIsN, oNotN, D.isNon, cAbs, cMax, cMin, cInt, cDivmod, cLen, tyD, items, litems, retD, sTup, mApp, dYes,
  atI_0, atI_1, atI_2, atI_3, atI_4, ixN_20, ixN_21, kit_ii, kit_ib, kit_is, kit_it, kit_il, kit_bi, kit_bb, kit_bs, kit_bt, kit_bl, kit_si, kit_sb, kit_ss, kit_st, kit_sl, kit_ti, kit_tb, kit_ts, kit_tt, kit_tl, kit_li, kit_lb, kit_ls, kit_lt, kit_ll,
  List.getElem?_cons_zero, List.getElem?_cons_succ, List.set_cons_zero, List.set_cons_succ, List.length_cons, List.length_nil, Mu.upd_same, Mu.upd_upd, Nat.zero_add, Nat.reduceAdd, Nat.reduceLeDiff, natlit, Int.reduceEq, Int.reduceLT, Int.reduceLE, Int.reduceAdd, Int.reduceSub, Int.reduceMul, Int.reducePow, Int.reduceNeg, permG2_10, permG3_210, zl_0, zl_1, zl_2, zl_3, zl_4, zl_5, zl_6, zl_7, zl_8, zl_9, zl_10, zl_11, zl_12, zl_13, zl_14, zl_15, zl_16, zl_17, zl_18, zl_19, zl_20, true_and, and_true, eq_self, not_true_eq_false, not_false_eq_true, decide_true, decide_false, if_true, Bool.false_eq_true, if_false, Bool.not_true, Bool.not_false, decide_eq_true_eq, Bool.not_eq_true', decide_eq_false_iff_not, Option.isSome, Option.map])
def raceB (d : D) : Bool := match d with
  | .tup [.str w, r, vs, h] => decide (w = "race") && (ruleB r && (votesB vs && inR 0 200 h))
  | _ => false
theorem race_no {d : D} (h : ∀ w r vs h, d = .tup [.str w, r, vs, h] → ¬ (w = "race" ∧ ruleB r = true)) : raceB d = false := by
  refine Bool.eq_false_iff.mpr fun z => ?_
  unfold raceB at z
  split at z
  · rename_i w r vs h2
    simp only [Bool.and_eq_true, decide_eq_true_eq] at z
    exact h w r vs h2 rfl ⟨z.1, z.2.1⟩
  · cases z
def sp_is_race_any : DSp := fun ds μ Q => ∃ d n k, ds = [d] ∧ (Av μ d n k ∧ n ≤ 100000) ∧ Q (.bl (raceB d)) μ
theorem len_is_race_any : ∀ ds μ Q, sp_is_race_any ds μ Q → ds.length = (["value"] : List Str).length := by
  rintro ds μ Q ⟨d, n, k, rfl, _⟩
  rfl
def db_is_race_any : DTS := (dSeq (dIfS (dtOr (dtNot (dTest (dFn sp_is_tuple (daCons (dVar 0) (daCons (dC (.int 4)) daNil))))) (dtOr (dtNot (dTest (dCall cIsi (daCons (dOp oIx (dVar 0) (dC (.int 0))) (daCons (dC (.ty "str")) daNil))))) (dtOr (dTest (dOp oNe (dOp oIx (dVar 0) (dC (.int 0))) (dC (.str "race")))) (dtNot (dTest (dFn sp_is_rule_any (daCons (dOp oIx (dVar 0) (dC (.int 1))) daNil))))))) (dRet (dC (.bl false))) dNext) (dRet (dAnd (dFn sp_is_row_of_votes (daCons (dOp oIx (dVar 0) (dC (.int 2))) daNil)) (dFn sp_is_within (daCons (dOp oIx (dVar 0) (dC (.int 3))) (daCons (dC (.int 0)) (daCons (dC (.int 200)) daNil)))))))
theorem pf_is_race_any : ∀ ds μ Q, sp_is_race_any ds μ Q → db_is_race_any (retD Q) (startD ["value"] ds) μ := by
  rintro ds μ Q ⟨d, n, k, rfl, ⟨h, hn⟩, q⟩
  show db_is_race_any (retD Q) [some d] μ
  have stop : (∀ w r vs h, d = .tup [.str w, r, vs, h] → ¬ (w = "race" ∧ ruleB r = true)) → ∃ μ', Mu.Sub μ' μ ∧ Q (.bl false) μ' := fun z => by
    rw [race_no z] at q
    exact ⟨_, Mu.Sub.refl _, q⟩
  unfold db_is_race_any
  refine sq fun U hU => ?_
  walk_at "ev"
  refine ask_tuple h ?_
  walk_at "ev"
  by_cases t4 : tl 4 d = true
  · rw [if_neg (by rw [t4]; decide)]
    obtain ⟨x, y, z, u, rfl⟩ := tl_4 t4
    have hs := (Av.untup h).1
    have ax := hs.get x (by simp)
    have ay := hs.get y (by simp)
    have az := hs.get z (by simp)
    have au := hs.get u (by simp)
    walk_at "ev"
    refine isi_str ax ?_
    walk_at "ev"
    by_cases sx : isS x = true
    · rw [if_neg (by rw [sx]; decide)]
      obtain ⟨w, rfl⟩ := isS_str sx
      walk_at "ev"
      by_cases ew : w = "race"
      · subst ew
        rw [if_neg (fun z => z rfl)]
        walk_at "ev"
        refine ask_ruleany ay (by omega) ?_
        walk_at "ev"
        by_cases er : ruleB y = true
        · rw [if_neg (by rw [er]; decide)]
          have q : Q (.bl (decide (("race" : Str) = "race") && (ruleB y && (votesB z && inR 0 200 u)))) μ := q
          rw [decide_eq_true rfl, er, Bool.true_and, Bool.true_and] at q
          refine hU.go ?_
          walk_at "ev"
          refine ask_rowv az (by omega) ?_
          walk_at "ev"
          by_cases ev : votesB z = true
          · rw [if_pos ev]
            rw [ev, Bool.true_and] at q
            exact ask_within au ⟨_, Mu.Sub.refl _, q⟩
          · rw [if_neg ev]
            rw [Bool.eq_false_iff.mpr ev, Bool.false_and] at q
            exact ⟨_, Mu.Sub.refl _, q⟩
        · rw [if_pos (Bool.eq_false_iff.mpr er)]
          exact stop fun w r vs h e z => by cases e; exact er z.2
      · rw [if_pos ew]
        exact stop fun w' r vs h e z => by cases e; exact ew z.1
    · rw [if_pos (Bool.eq_false_iff.mpr sx)]
      exact stop fun w r vs h e _ => by cases e; exact sx rfl
  · rw [if_pos (Bool.eq_false_iff.mpr t4)]
    exact stop fun w r vs h e _ => by subst e; exact t4 rfl
theorem ask_raceany {d : D} {μ : Mu} {n k : Nat} {Q : DK} (h : Av μ d n k) (hn : n ≤ 100000) (q : Q (.bl (raceB d)) μ) : sp_is_race_any [d] μ Q := ⟨d, n, k, rfl, ⟨h, hn⟩, q⟩
def sp_law_is_race : DSp := fun ds μ Q => ∃ d n k, ds = [d] ∧ (Av μ d n k ∧ n ≤ 100000) ∧ Q (.bl (raceB d)) μ
theorem len_law_is_race : ∀ ds μ Q, sp_law_is_race ds μ Q → ds.length = (["value"] : List Str).length := by
  rintro ds μ Q ⟨d, n, k, rfl, _⟩
  rfl
def db_law_is_race : DTS := (dSeq (dIfS (dtOr (dtNot (dTest (dCall cIsi (daCons (dVar 0) (daCons (dC (.ty "tuple")) daNil))))) (dtOr (dTest (dOp oNe (dCall cLen (daCons (dVar 0) daNil)) (dC (.int 4)))) (dtOr (dtNot (dTest (dCall cIsi (daCons (dOp oIx (dVar 0) (dC (.int 0))) (daCons (dC (.ty "str")) daNil))))) (dTest (dOp oNe (dOp oIx (dVar 0) (dC (.int 0))) (dC (.str "race"))))))) (dRet (dC (.bl false))) dNext) (dRet (dAnd (dFn sp_law_is_rule (daCons (dOp oIx (dVar 0) (dC (.int 1))) daNil)) (dAnd (dFn sp_law_is_votes (daCons (dOp oIx (dVar 0) (dC (.int 2))) daNil)) (dFn sp_law_is_whole (daCons (dOp oIx (dVar 0) (dC (.int 3))) (daCons (dC (.int 0)) (daCons (dC (.int 200)) daNil))))))))
theorem pf_law_is_race : ∀ ds μ Q, sp_law_is_race ds μ Q → db_law_is_race (retD Q) (startD ["value"] ds) μ := by
  rintro ds μ Q ⟨d, n, k, rfl, ⟨h, hn⟩, q⟩
  show db_law_is_race (retD Q) [some d] μ
  have stop : (∀ w r vs h, d = .tup [.str w, r, vs, h] → ¬ (w = "race" ∧ ruleB r = true)) → ∃ μ', Mu.Sub μ' μ ∧ Q (.bl false) μ' := fun z => by
    rw [race_no z] at q
    exact ⟨_, Mu.Sub.refl _, q⟩
  unfold db_law_is_race
  refine sq fun U hU => ?_
  walk_at "ev"
  refine isi_tup h ?_
  walk_at "ev"
  by_cases tt : isT d = true
  · rw [if_neg (by rw [tt]; decide)]
    obtain ⟨vs, rfl⟩ := isT_tup tt
    walk_at "ev"
    by_cases t4 : (vs.length : Int) = 4
    · rw [if_neg (fun z => z t4)]
      obtain ⟨x, y, z, u, e⟩ := tl_4 (d := .tup vs) (decide_eq_true t4)
      cases e
      clear tt t4
      have hs := (Av.untup h).1
      have ax := hs.get x (by simp)
      have ay := hs.get y (by simp)
      have az := hs.get z (by simp)
      have au := hs.get u (by simp)
      walk_at "ev"
      refine isi_str ax ?_
      walk_at "ev"
      by_cases sx : isS x = true
      · rw [if_neg (by rw [sx]; decide)]
        obtain ⟨w, rfl⟩ := isS_str sx
        walk_at "ev"
        by_cases ew : w = "race"
        · subst ew
          rw [if_neg (fun z => z rfl)]
          have q : Q (.bl (decide (("race" : Str) = "race") && (ruleB y && (votesB z && inR 0 200 u)))) μ := q
          rw [decide_eq_true rfl, Bool.true_and] at q
          refine hU.go ?_
          walk_at "ev"
          refine ask_lrule ay (by omega) ?_
          walk_at "ev"
          by_cases er : ruleB y = true
          · rw [if_pos er]
            rw [er, Bool.true_and] at q
            refine ask_lvotes az (by omega) ?_
            walk_at "ev"
            by_cases ev : votesB z = true
            · rw [if_pos ev]
              rw [ev, Bool.true_and] at q
              exact ask_whole au ⟨_, Mu.Sub.refl _, q⟩
            · rw [if_neg ev]
              rw [Bool.eq_false_iff.mpr ev, Bool.false_and] at q
              exact ⟨_, Mu.Sub.refl _, q⟩
          · rw [if_neg er]
            rw [Bool.eq_false_iff.mpr er, Bool.false_and] at q
            exact ⟨_, Mu.Sub.refl _, q⟩
        · rw [if_pos ew]
          exact stop fun w' r vs h e z => by cases e; exact ew z.1
      · rw [if_pos (Bool.eq_false_iff.mpr sx)]
        exact stop fun w r vs h e _ => by cases e; exact sx rfl
    · rw [if_pos t4]
      exact stop fun w r vs h e _ => by cases e; exact t4 rfl
  · rw [if_pos (Bool.eq_false_iff.mpr tt)]
    exact stop fun w r vs h e _ => by subst e; exact tt rfl
theorem ask_lrace {d : D} {μ : Mu} {n k : Nat} {Q : DK} (h : Av μ d n k) (hn : n ≤ 100000) (q : Q (.bl (raceB d)) μ) : sp_law_is_race [d] μ Q := ⟨d, n, k, rfl, ⟨h, hn⟩, q⟩
def sp_want_race : DSp := fun ds μ Q => ∃ d n k, ds = [d] ∧ (Av μ d n k ∧ n ≤ 100000 ∧ raceB d = true) ∧ Q .non μ
theorem len_want_race : ∀ ds μ Q, sp_want_race ds μ Q → ds.length = (["race"] : List Str).length := by
  rintro ds μ Q ⟨d, n, k, rfl, _⟩
  rfl
def db_want_race : DTS := (dIfS (dtNot (dTest (dFn sp_is_race_any (daCons (dVar 0) daNil)))) dNever dNext)
theorem pf_want_race : ∀ ds μ Q, sp_want_race ds μ Q → db_want_race (retD Q) (startD ["race"] ds) μ := by
  rintro ds μ Q ⟨d, n, k, rfl, ⟨h, hn, hr⟩, q⟩
  show db_want_race (retD Q) [some d] μ
  unfold db_want_race
  walk_at "ev"
  refine ask_raceany h hn ?_
  walk_at "ev"
  rw [hr]
  walk_at "ev"
  exact ⟨_, Mu.Sub.refl _, q⟩
/-! ## deals -/
def unI (d : D) : Int := match d with | .int i => i | _ => 0
def dealB (m : Nat) (h : Int) (d : D) : Bool := match d with | .tup ds => decide (ds.length = m) && (ds.all nnB && decide ((ds.map unI).sum = h)) | _ => false
theorem all_nn : ∀ {ds : List D}, ds.all nnB = true → ds = (ds.map unI).map D.int
  | [], _ => rfl
  | d :: ds, h => by
    rw [List.all_cons, Bool.and_eq_true] at h
    rw [List.map_cons, List.map_cons, ← all_nn h.2]
    obtain ⟨h1, _⟩ := h
    unfold nnB at h1
    split at h1
    · rfl
    · cases h1
theorem nn_in {μ : Mu} {k : Nat} : ∀ {ds : List D} {n : Nat}, Avs μ ds n k → ds.all (inR 0 1000000000000000000000000000000) = ds.all nnB
  | [], _, _ => rfl
  | d :: ds, n, h => by
    rw [List.all_cons, List.all_cons, nn_in (n := n) h.head.2.1]
    refine congrArg (· && _) ?_
    rcases h.head.1.shape with rfl | ⟨b, rfl⟩ | ⟨i, rfl, hi⟩ | ⟨x, rfl⟩ | rfl | ⟨ds, rfl, _⟩ | ⟨ds, rfl⟩ | ⟨j, ds, rfl, e⟩
    case inr.inr.inl =>
      show decide (0 ≤ i ∧ i ≤ 1000000000000000000000000000000) = decide (0 ≤ i)
      exact decide_eq_decide.mpr ⟨fun z => z.1, fun z => ⟨z, by omega⟩⟩
    all_goals rfl
def sp_is_deal_of : DSp := fun ds μ Q => ∃ w r vs h d n k, ds = [.tup [w, r, .tup vs, .int h], d] ∧ (Av μ d n k ∧ n ≤ 100000) ∧ Q (.bl (dealB vs.length h d)) μ
theorem len_is_deal_of : ∀ ds μ Q, sp_is_deal_of ds μ Q → ds.length = (["race", "value"] : List Str).length := by
  rintro ds μ Q ⟨w, r, vs, h, d, n, k, rfl, _⟩
  rfl
def db_is_deal_of : DTS := (dSeq (dIfS (dtOr (dtNot (dTest (dFn sp_is_tuple (daCons (dVar 1) (daCons (dCall cLen (daCons (dOp oIx (dVar 0) (dC (.int 2))) daNil)) daNil))))) (dtNot (dTest (dOf sAll (dLc (diSeq (dVar 1)) (gdName 2) dYes (dFn sp_is_count (daCons (dVar 2) daNil)) [2]))))) (dRet (dC (.bl false))) dNext) (dRet (dOp oEq (dCall (dSeq1 true sSum) (daCons (dVar 1) daNil)) (dOp oIx (dVar 0) (dC (.int 3))))))
theorem pf_is_deal_of : ∀ ds μ Q, sp_is_deal_of ds μ Q → db_is_deal_of (retD Q) (startD ["race", "value", "one"] ds) μ := by
  rintro ds μ Q ⟨w, r, vs, h, d, n, k, rfl, ⟨hd, hn⟩, q⟩
  show db_is_deal_of (retD Q) [some (.tup [w, r, .tup vs, .int h]), some d, none] μ
  unfold db_is_deal_of
  refine sq fun U hU => ?_
  walk_at "ev"
  refine ask_tuple hd ?_
  walk_at "ev"
  by_cases tl1 : tl vs.length d = true
  · rw [if_neg (by rw [tl1]; decide)]
    obtain ⟨ds, rfl, el⟩ : ∃ ds, d = .tup ds ∧ (ds.length : Int) = vs.length := by
      unfold tl at tl1
      split at tl1
      · exact ⟨_, rfl, of_decide_eq_true tl1⟩
      · cases tl1
    have hs := (Av.untup hd).1
    have hl := hs.len
    have q : Q (.bl (decide (ds.length = vs.length) && (ds.all nnB && decide ((ds.map unI).sum = h)))) μ := q
    rw [decide_eq_true (show ds.length = vs.length by omega), Bool.true_and] at q
    simp -dsimp only [dLc, diSeq]
    walk_at "ev"
    refine lc_sub (fun d => .bl (nnB d)) held_nil (show ds.length ≤ 100000 by omega) (fun z hz μ' Qy sb q2 => ?_) ?_
    · simp -dsimp only [wipeD]
      walk_at "ev"
      exact ask_count ((hs.get z hz).mono sb) q2
    refine sAll_map (b := nnB) ?_
    walk_at "ev"
    by_cases a : ds.all nnB = true
    · rw [if_neg (by rw [a]; decide)]
      rw [a, Bool.true_and] at q
      refine hU.go ?_
      walk_at "ev"
      simp -dsimp only [dSeq1, sitems]
      walk_at "ev"
      refine ⟨ds.map unI, all_nn a, ?_⟩
      walk_at "ev"
      exact ⟨_, Mu.Sub.refl _, q⟩
    · rw [if_pos (Bool.eq_false_iff.mpr a)]
      rw [Bool.eq_false_iff.mpr a, Bool.false_and] at q
      exact ⟨_, Mu.Sub.refl _, q⟩
  · rw [if_pos (Bool.eq_false_iff.mpr tl1)]
    have : dealB vs.length h d = false := by
      refine Bool.eq_false_iff.mpr fun z => tl1 ?_
      unfold dealB at z
      split at z
      · rw [Bool.and_eq_true, decide_eq_true_eq] at z
        exact decide_eq_true (by omega)
      · cases z
    rw [this] at q
    exact ⟨_, Mu.Sub.refl _, q⟩
theorem ask_dealof {w r d : D} {vs : List D} {h : Int} {μ : Mu} {n k : Nat} {Q : DK} (hd : Av μ d n k) (hn : n ≤ 100000) (q : Q (.bl (dealB vs.length h d)) μ) : sp_is_deal_of [.tup [w, r, .tup vs, .int h], d] μ Q := ⟨w, r, vs, h, d, n, k, rfl, ⟨hd, hn⟩, q⟩
def sp_law_is_deal : DSp := fun ds μ Q => ∃ w r vs h d n k, ds = [.tup [w, r, .tup vs, .int h], d] ∧ (Av μ d n k ∧ n ≤ 100000) ∧ Q (.bl (dealB vs.length h d)) μ
theorem len_law_is_deal : ∀ ds μ Q, sp_law_is_deal ds μ Q → ds.length = (["race", "value"] : List Str).length := by
  rintro ds μ Q ⟨w, r, vs, h, d, n, k, rfl, _⟩
  rfl
def db_law_is_deal : DTS := (dSeq (dIfS (dtOr (dtNot (dTest (dCall cIsi (daCons (dVar 1) (daCons (dC (.ty "tuple")) daNil))))) (dtOr (dTest (dOp oNe (dCall cLen (daCons (dVar 1) daNil)) (dCall cLen (daCons (dOp oIx (dVar 0) (dC (.int 2))) daNil)))) (dtNot (dTest (dOf sAll (dLc (diSeq (dVar 1)) (gdName 2) dYes (dFn sp_law_is_whole (daCons (dVar 2) (daCons (dC (.int 0)) (daCons (dOp oPow (dC (.int 10)) (dC (.int 30))) daNil)))) [2])))))) (dRet (dC (.bl false))) dNext) (dRet (dOp oEq (dCall (dSeq1 true sSum) (daCons (dVar 1) daNil)) (dOp oIx (dVar 0) (dC (.int 3))))))
theorem pf_law_is_deal : ∀ ds μ Q, sp_law_is_deal ds μ Q → db_law_is_deal (retD Q) (startD ["race", "value", "one"] ds) μ := by
  rintro ds μ Q ⟨w, r, vs, h, d, n, k, rfl, ⟨hd, hn⟩, q⟩
  show db_law_is_deal (retD Q) [some (.tup [w, r, .tup vs, .int h]), some d, none] μ
  unfold db_law_is_deal
  refine sq fun U hU => ?_
  walk_at "ev"
  refine isi_tup hd ?_
  walk_at "ev"
  by_cases tt : isT d = true
  · rw [if_neg (by rw [tt]; decide)]
    obtain ⟨ds, rfl⟩ := isT_tup tt
    have hs := (Av.untup hd).1
    have hl := hs.len
    have q : Q (.bl (decide (ds.length = vs.length) && (ds.all nnB && decide ((ds.map unI).sum = h)))) μ := q
    walk_at "ev"
    by_cases el : (ds.length : Int) = vs.length
    · rw [if_neg (fun z => z el)]
      rw [decide_eq_true (show ds.length = vs.length by omega), Bool.true_and] at q
      simp -dsimp only [dLc, diSeq]
      walk_at "ev"
      refine lc_sub (fun d => .bl (inR 0 1000000000000000000000000000000 d)) held_nil (show ds.length ≤ 100000 by omega) (fun z hz μ' Qy sb q2 => ?_) ?_
      · simp -dsimp only [wipeD]
        walk_at "ev"
        refine ⟨⟨by decide, by decide, by decide⟩, ?_⟩
        exact ask_whole ((hs.get z hz).mono sb) q2
      refine sAll_map (b := inR 0 1000000000000000000000000000000) ?_
      rw [nn_in (k := k - 1) hs]
      walk_at "ev"
      by_cases a : ds.all nnB = true
      · rw [if_neg (by rw [a]; decide)]
        rw [a, Bool.true_and] at q
        refine hU.go ?_
        walk_at "ev"
        simp -dsimp only [dSeq1, sitems]
        walk_at "ev"
        refine ⟨ds.map unI, all_nn a, ?_⟩
        walk_at "ev"
        exact ⟨_, Mu.Sub.refl _, q⟩
      · rw [if_pos (Bool.eq_false_iff.mpr a)]
        rw [Bool.eq_false_iff.mpr a, Bool.false_and] at q
        exact ⟨_, Mu.Sub.refl _, q⟩
    · rw [if_pos el]
      rw [decide_eq_false (show ¬ ds.length = vs.length by omega), Bool.false_and] at q
      exact ⟨_, Mu.Sub.refl _, q⟩
  · rw [if_pos (Bool.eq_false_iff.mpr tt)]
    have : dealB vs.length h d = false := by
      refine Bool.eq_false_iff.mpr fun z => tt ?_
      unfold dealB at z
      split at z
      · rfl
      · cases z
    rw [this] at q
    exact ⟨_, Mu.Sub.refl _, q⟩
theorem ask_ldeal {w r d : D} {vs : List D} {h : Int} {μ : Mu} {n k : Nat} {Q : DK} (hd : Av μ d n k) (hn : n ≤ 100000) (q : Q (.bl (dealB vs.length h d)) μ) : sp_law_is_deal [.tup [w, r, .tup vs, .int h], d] μ Q := ⟨w, r, vs, h, d, n, k, rfl, ⟨hd, hn⟩, q⟩
/-! ## by the shown names -/
def sp_is_rule : DSp := fun ds μ Q => ∃ d n k, ds = [d] ∧ (Av μ d n k ∧ n ≤ 100000) ∧ Q (.bl (ruleB d)) μ
theorem len_is_rule : ∀ ds μ Q, sp_is_rule ds μ Q → ds.length = (["value"] : List Str).length := by
  rintro ds μ Q ⟨d, n, k, rfl, _⟩
  rfl
def db_is_rule : DTS := (dRet (dFn sp_is_rule_any (daCons (dVar 0) daNil)))
theorem pf_is_rule : ∀ ds μ Q, sp_is_rule ds μ Q → db_is_rule (retD Q) (startD ["value"] ds) μ := by
  rintro ds μ Q ⟨d, n, k, rfl, ⟨h, hn⟩, q⟩
  show db_is_rule (retD Q) [some d] μ
  unfold db_is_rule
  walk_at "ev"
  refine ask_ruleany h hn ?_
  exact ⟨_, Mu.Sub.refl _, q⟩
def sp_is_votes : DSp := fun ds μ Q => ∃ d n k, ds = [d] ∧ (Av μ d n k ∧ n ≤ 100000) ∧ Q (.bl (votesB d)) μ
theorem len_is_votes : ∀ ds μ Q, sp_is_votes ds μ Q → ds.length = (["value"] : List Str).length := by
  rintro ds μ Q ⟨d, n, k, rfl, _⟩
  rfl
def db_is_votes : DTS := (dRet (dFn sp_is_row_of_votes (daCons (dVar 0) daNil)))
theorem pf_is_votes : ∀ ds μ Q, sp_is_votes ds μ Q → db_is_votes (retD Q) (startD ["value"] ds) μ := by
  rintro ds μ Q ⟨d, n, k, rfl, ⟨h, hn⟩, q⟩
  show db_is_votes (retD Q) [some d] μ
  unfold db_is_votes
  walk_at "ev"
  refine ask_rowv h hn ?_
  exact ⟨_, Mu.Sub.refl _, q⟩
def sp_is_race : DSp := fun ds μ Q => ∃ d n k, ds = [d] ∧ (Av μ d n k ∧ n ≤ 100000) ∧ Q (.bl (raceB d)) μ
theorem len_is_race : ∀ ds μ Q, sp_is_race ds μ Q → ds.length = (["value"] : List Str).length := by
  rintro ds μ Q ⟨d, n, k, rfl, _⟩
  rfl
def db_is_race : DTS := (dRet (dFn sp_is_race_any (daCons (dVar 0) daNil)))
theorem pf_is_race : ∀ ds μ Q, sp_is_race ds μ Q → db_is_race (retD Q) (startD ["value"] ds) μ := by
  rintro ds μ Q ⟨d, n, k, rfl, ⟨h, hn⟩, q⟩
  show db_is_race (retD Q) [some d] μ
  unfold db_is_race
  walk_at "ev"
  refine ask_raceany h hn ?_
  exact ⟨_, Mu.Sub.refl _, q⟩
def sp_is_deal : DSp := fun ds μ Q => ∃ w r vs h d n k m l, ds = [.tup [w, r, .tup vs, .int h], d] ∧ ((Av μ d n k ∧ n ≤ 100000) ∧ (Av μ (.tup [w, r, .tup vs, .int h]) m l ∧ m ≤ 100000) ∧ raceB (.tup [w, r, .tup vs, .int h]) = true) ∧ Q (.bl (dealB vs.length h d)) μ
theorem len_is_deal : ∀ ds μ Q, sp_is_deal ds μ Q → ds.length = (["race", "value"] : List Str).length := by
  rintro ds μ Q ⟨w, r, vs, h, d, n, k, m, l, rfl, _⟩
  rfl
def db_is_deal : DTS := (dSeq (dDrop (dFn sp_want_race (daCons (dVar 0) daNil))) (dRet (dFn sp_is_deal_of (daCons (dVar 0) (daCons (dVar 1) daNil)))))
theorem pf_is_deal : ∀ ds μ Q, sp_is_deal ds μ Q → db_is_deal (retD Q) (startD ["race", "value"] ds) μ := by
  rintro ds μ Q ⟨w, r, vs, h, d, n, k, m, l, rfl, ⟨⟨hd, hn⟩, ⟨hr, hm⟩, rb⟩, q⟩
  show db_is_deal (retD Q) [some (.tup [w, r, .tup vs, .int h]), some d] μ
  unfold db_is_deal
  walk_at "ev"
  refine ⟨_, m, l, rfl, ⟨hr, hm, rb⟩, ?_⟩
  refine ⟨_, Mu.Sub.refl _, ?_⟩
  walk_at "ev"
  refine ask_dealof hd hn ?_
  exact ⟨_, Mu.Sub.refl _, q⟩
end K10
namespace K10
open PySem PySem.Spec PyProof.Rows L2 Dl
local macro_rules | `(tactic| walk_at "ev") => `(tactic| try simp -dsimp only [↓dSeq_at, cInt2, oIs2, oNot2, dRet, dRetN, dNext, dIfS, dAsg, dDrop, dPar, dNever, dVar, dC, dOp, dUn, dTest, dChain, dAnd, dOr, dNot, dIf, dtAnd, dtOr, dtNot, dTup, daNil, daCons, dCall, dFn, dFnK, dNew, dLst, dOf,
  gdName, gdTup, gdCons, gdNil, gdSub, rdI, rdI0, oPlus, oSub, oTimes, oDiv, oMod, oPow, oLt, oLe, oGt, oGe, oIx, oEq, oNe, uNeg, oIsN, oNotN, D.isNon, cAbs, cMax, cMin, cInt, cDivmod, cLen, tyD, items, litems, retD, sTup, mApp, dYes,
  atI_0, atI_1, atI_2, atI_3, atI_4, ixN_20, ixN_21, kit_ii, kit_ib, kit_is, kit_it, kit_il, kit_bi, kit_bb, kit_bs, kit_bt, kit_bl, kit_si, kit_sb, kit_ss, kit_st, kit_sl, kit_ti, kit_tb, kit_ts, kit_tt, kit_tl, kit_li, kit_lb, kit_ls, kit_lt, kit_ll,
  List.getElem?_cons_zero, List.getElem?_cons_succ, List.set_cons_zero, List.set_cons_succ, List.length_cons, List.length_nil, Mu.upd_same, Mu.upd_upd, Nat.zero_add, Nat.reduceAdd, Nat.reduceLeDiff, natlit, Int.reduceEq, Int.reduceLT, Int.reduceLE, Int.reduceAdd, Int.reduceSub, Int.reduceMul, Int.reducePow, Int.reduceNeg, permG2_10, permG3_210, zl_0, zl_1, zl_2, zl_3, zl_4, zl_5, zl_6, zl_7, zl_8, zl_9, zl_10, zl_11, zl_12, zl_13, zl_14, zl_15, zl_16, zl_17, zl_18, zl_19, zl_20, true_and, and_true, eq_self, not_true_eq_false, not_false_eq_true, decide_true, decide_false, if_true, Bool.false_eq_true, if_false, Bool.not_true, Bool.not_false, decide_eq_true_eq, Bool.not_eq_true', decide_eq_false_iff_not, Option.isSome, Option.map])
/-! ## the pot -/
def PB (a b : Int) : Prop := 0 ≤ a ∧ 0 ≤ b ∧ b ≤ 2147483587
def Pot (μ : Mu) (c : Nat) : Prop := ∃ a b : Int, μ c = some [.int a, .int b] ∧ PB a b
/-- the pot is turned -/
def Turn (c : Nat) (μ : Mu) (Q : Mu → Prop) : Prop := ∀ a b, PB a b → Q (μ.upd c [.int a, .int b])
def sp_law_pot : DSp := fun ds μ Q => ∃ (ns : List Int) (k : Int), ds = [.frz (ns.map D.int), .int k] ∧ (0 ≤ k ∧ k ≤ 100) ∧ ∀ c, μ c = none → Turn c μ fun μ' => Q (.cell c) μ'
theorem len_law_pot : ∀ ds μ Q, sp_law_pot ds μ Q → ds.length = (["script", "k"] : List Str).length := by
  rintro ds μ Q ⟨ns, k, rfl, _⟩
  rfl
def db_law_pot : DTS := (dSeq (dAsg (dIf (dTest (dOp oLt (dVar 1) (dCall cLen (daCons (dVar 0) daNil)))) (dCall cAbs (daCons (dOp oIx (dVar 0) (dVar 1)) daNil)) (dOp oPlus (dOp oTimes (dC (.int 2741)) (dVar 1)) (dC (.int 2447)))) (gdName 2)) (dRet (dNew (dLst (daCons (dCall cMax (daCons (dC (.int 0)) (daCons (dOp oSub (dVar 2) (dOp oPow (dC (.int 10)) (dC (.int 18)))) daNil))) (daCons (dOp oPlus (dOp oMod (dCall cInt2 (daCons (dOp oPlus (dOp oPlus (dOp oTimes (dOp oMod (dCall cInt2 (daCons (dVar 2) daNil)) (dC (.int 2147483549))) (dC (.int 40692))) (dOp oTimes (dC (.int 2741)) (dVar 1))) (dC (.int 1753))) daNil)) (dC (.int 2147483563))) (dC (.int 1))) daNil))))))
theorem pf_law_pot : ∀ ds μ Q, sp_law_pot ds μ Q → db_law_pot (retD Q) (startD ["script", "k", "cell"] ds) μ := by
  rintro ds μ Q ⟨ns, k, rfl, ⟨h0, h1⟩, h⟩
  show db_law_pot (retD Q) [some (.frz (ns.map D.int)), some (.int k), none] μ
  unfold db_law_pot
  refine sq fun U hU => ?_
  walk_at "ev"
  have rest : ∀ cell : Int, U [some (.frz (ns.map D.int)), some (.int k), some (.int cell)] μ := by
    intro cell
    refine hU.go ?_
    walk_at "ev"
    have m0 := Int.emod_nonneg cell (show (2147483549 : Int) ≠ 0 by decide)
    have m1 := Int.emod_lt_of_pos cell (show (0 : Int) < 2147483549 by decide)
    refine ⟨⟨by decide, by decide, by decide⟩, mulR (by decide) (by decide), mulL (by decide) (by decide), ?_⟩
    intro c hc
    refine ⟨_, Mu.Sub.refl _, h c hc _ _ ⟨by omega, ?_, ?_⟩⟩
    · have := Int.emod_nonneg (cell % 2147483549 * 40692 + 2741 * k + 1753) (show (2147483563 : Int) ≠ 0 by decide)
      omega
    · have := Int.emod_lt_of_pos (cell % 2147483549 * 40692 + 2741 * k + 1753) (show (0 : Int) < 2147483563 by decide)
      omega
  rw [List.length_map]
  by_cases e : k < ns.length
  · rw [if_pos e]
    have hl : k.toNat < ns.length := by omega
    have ha := atI_nat (xs := ns) (j := k.toNat) (List.getElem?_eq_getElem hl)
    rw [show ((k.toNat : Nat) : Int) = k by omega] at ha
    rw [atI_map, ha]
    exact rest _
  · rw [if_neg e]
    exact ⟨mulL (by decide) (by decide), rest _⟩
def sp_law_draw : DSp := fun ds μ Q => match ds with | [.cell c, .int m] => (Pot μ c ∧ 0 < m ∧ m < 2 ^ 30) ∧ ∀ r, 0 ≤ r → r < m → Turn c μ fun μ' => Q (.int r) μ' | _ => False
theorem len_law_draw : ∀ ds μ Q, sp_law_draw ds μ Q → ds.length = (["pot", "many"] : List Str).length := by
  intro ds μ Q h
  unfold sp_law_draw at h
  split at h <;> first | rfl | exact h.elim
def db_law_draw : DTS := (dSeq (dIfS (dTest (dOp oGt (dOp oIx (dVar 0) (dC (.int 0))) (dC (.int 0)))) (dSeq (dAsg (dCall cDivmod (daCons (dOp oIx (dVar 0) (dC (.int 0))) (daCons (dVar 1) daNil))) (gdTup 2 (gdCons (gdSub (dVar 0) (dC (.int 0))) (gdCons (gdName 2) gdNil)))) (dRet (dVar 2))) dNext) (dSeq (dAsg (dOp oMod (dCall cInt2 (daCons (dOp oPlus (dOp oTimes (dOp oIx (dVar 0) (dC (.int 1))) (dC (.int 40014))) (dC (.int 1753))) daNil)) (dC (.int 2147483587))) (gdSub (dVar 0) (dC (.int 1)))) (dRet (dOp oMod (dCall cInt2 (daCons (dOp oDiv (dOp oMod (dCall cInt2 (daCons (dOp oTimes (dOp oIx (dVar 0) (dC (.int 1))) (dOp oIx (dVar 0) (dC (.int 1)))) daNil)) (dC (.int 2147483549))) (dC (.int 17))) daNil)) (dVar 1)))))
theorem pf_law_draw : ∀ ds μ Q, sp_law_draw ds μ Q → db_law_draw (retD Q) (startD ["pot", "many", "digit"] ds) μ := by
  intro ds μ Q h
  unfold sp_law_draw at h
  split at h
  · rename_i c m
    obtain ⟨⟨⟨a, b, hc, hp⟩, hm0, hm1⟩, h⟩ := h
    obtain ⟨p1, p2, p3⟩ := hp
    show db_law_draw (retD Q) [some (.cell c), some (.int m), none] μ
    unfold db_law_draw
    refine sq fun U hU => ?_
    walk_at "ev"
    rw [hc]
    simp -dsimp only [atI_0]
    walk_at "ev"
    have r0 := Int.emod_nonneg a (show m ≠ 0 by omega)
    have r1 := Int.emod_lt_of_pos a hm0
    by_cases e : 0 < a
    · rw [if_pos e]
      refine sq fun V hV => ?_
      walk_at "ev"
      rw [hc]
      simp -dsimp only [atI_0]
      walk_at "ev"
      refine ⟨⟨hm0, by omega⟩, ?_⟩
      refine hV.go ?_
      walk_at "ev"
      exact ⟨_, Mu.Sub.refl _, h _ r0 r1 _ _ ⟨Int.ediv_nonneg p1 (by omega), p2, p3⟩⟩
    · rw [if_neg e]
      refine hU.go ?_
      refine sq fun V hV => ?_
      walk_at "ev"
      rw [hc]
      simp -dsimp only [atI_1]
      walk_at "ev"
      refine ⟨mulL (by omega) (by omega), ?_⟩
      generalize hb : (b * 40014 + 1753) % 2147483587 = b'
      have b0 : 0 ≤ b' := by rw [← hb]; exact Int.emod_nonneg _ (by decide)
      have b1 : b' < 2147483587 := by rw [← hb]; exact Int.emod_lt_of_pos _ (by decide)
      refine hV.go ?_
      walk_at "ev"
      refine ⟨mulL (by omega) (by omega), div_ok (by decide) (by decide), hm0, ?_⟩
      exact ⟨_, Mu.Sub.refl _, h _ (Int.emod_nonneg _ (by omega)) (Int.emod_lt_of_pos _ hm0) _ _ ⟨p1, b0, by omega⟩⟩
  · exact h.elim
theorem ask_draw {c : Nat} {m : Int} {μ : Mu} {Q : DK} (hp : Pot μ c) (h0 : 0 < m) (h1 : m < 2 ^ 30) (h : ∀ r, 0 ≤ r → r < m → Turn c μ fun μ' => Q (.int r) μ') : sp_law_draw [.cell c, .int m] μ Q := ⟨⟨hp, h0, h1⟩, h⟩
theorem pot_turn {μ : Mu} {c : Nat} {a b : Int} (h : PB a b) : Pot (μ.upd c [.int a, .int b]) c := ⟨a, b, Mu.upd_same, h⟩
def sp_law_pick : DSp := fun ds μ Q => match ds with | [.cell c, .cell s] => (Pot μ c ∧ s ≠ c) ∧ ∃ xs, μ s = some xs ∧ (0 < xs.length ∧ xs.length < 2 ^ 30) ∧ ∀ x, x ∈ xs → Turn c μ fun μ' => Q x μ' | _ => False
theorem len_law_pick : ∀ ds μ Q, sp_law_pick ds μ Q → ds.length = (["pot", "some"] : List Str).length := by
  intro ds μ Q h
  unfold sp_law_pick at h
  split at h <;> first | rfl | exact h.elim
def db_law_pick : DTS := (dRet (dOp oIx (dVar 1) (dFn sp_law_draw (daCons (dVar 0) (daCons (dCall cLen (daCons (dVar 1) daNil)) daNil)))))
theorem pf_law_pick : ∀ ds μ Q, sp_law_pick ds μ Q → db_law_pick (retD Q) (startD ["pot", "some"] ds) μ := by
  intro ds μ Q h
  unfold sp_law_pick at h
  split at h
  · rename_i c s
    obtain ⟨⟨hp, hne⟩, xs, hs, ⟨hl0, hl1⟩, h⟩ := h
    show db_law_pick (retD Q) [some (.cell c), some (.cell s)] μ
    unfold db_law_pick
    walk_at "ev"
    rw [hs]
    walk_at "ev"
    refine ask_draw hp (by omega) (by omega) fun r h0 h1 a b hb => ?_
    walk_at "ev"
    rw [Mu.upd_ne hne, hs]
    have hl : r.toNat < xs.length := by omega
    have ha := atI_nat (xs := xs) (j := r.toNat) (List.getElem?_eq_getElem hl)
    rw [show ((r.toNat : Nat) : Int) = r by omega] at ha
    walk_at "ev"
    rw [ha]
    exact ⟨_, Mu.Sub.refl _, h _ (List.getElem_mem hl) a b hb⟩
  · exact h.elim
/-- one of a fresh list, told at once -/
theorem ask_pick {c s : Nat} {xs : List D} {μ : Mu} {Q : DK} (hp : Pot μ c) (hs : μ s = none) (hl : 0 < xs.length ∧ xs.length < 2 ^ 30) (h : ∀ x, x ∈ xs → Turn c (μ.upd s xs) fun μ' => Q x μ') : sp_law_pick [.cell c, .cell s] (μ.upd s xs) Q := by
  obtain ⟨a, b, hc, hb⟩ := hp
  have hne : c ≠ s := Mu.ne_of hc hs
  exact ⟨⟨⟨a, b, (Mu.upd_ne hne).trans hc, hb⟩, fun z => hne z.symm⟩, xs, Mu.upd_same, hl, h⟩
theorem sub_turn {μ μ' : Mu} (s : Mu.Sub μ' μ) (c : Nat) (xs : List D) : Mu.Sub (μ'.upd c xs) (μ.upd c xs) := s.upd c xs
/-! ## drawn rules -/
def okI (i : Int) : Bool := decide (i.natAbs < 10 ^ 20)
def chkR (r : R) : Bool := decide (r.fs.length ≤ 4) && (r.fs.all (fun p => okI p.1 && okI p.2) && (okI r.top && (okI r.bot && ruleB (enc r))))
def mkR (fs : List (Int × Int)) (t b : Int) : R := ⟨fs, (low t b).1, (low t b).2⟩
def menu : List (List (Int × Int) × Int × Int) := [([], 1, 2), ([], 1, 1), ([], 1, 3), ([(7, 10)], 1, 2), ([(1, 3), (1, 1)], 0, 1), ([(1, 1)], 1, 998), ([(1, 2), (4, 3), (2, 1)], 2, 5)]
def menuD (m : List (Int × Int) × Int × Int) : D := .tup [.tup (m.1.map fr), .int m.2.1, .int m.2.2]
theorem menu_ok : ∀ m ∈ menu, chkR (mkR m.1 m.2.1 m.2.2) = true ∧ 0 ≤ m.2.1 ∧ 0 < m.2.2 ∧ m.2.2 < 2 ^ 200 := by decide +kernel
theorem drawn_ok : ∀ b ∈ List.range 9, ∀ t ∈ List.range (b + 1), chkR (mkR [] (1 + (t : Int)) (1 + (b : Int))) = true := by decide +kernel
def sp_law_rule : DSp := fun ds μ Q => match ds with | [.cell c] => Pot μ c ∧ ∀ r, chkR r = true → Turn c μ fun μ' => Q (enc r) μ' | _ => False
theorem len_law_rule : ∀ ds μ Q, sp_law_rule ds μ Q → ds.length = (["pot"] : List Str).length := by
  intro ds μ Q h
  unfold sp_law_rule at h
  split at h <;> first | rfl | exact h.elim
def db_law_rule : DTS := (dSeq (dAsg (dNew (dLst (daCons (dTup (daCons (dTup daNil) (daCons (dC (.int 1)) (daCons (dC (.int 2)) daNil)))) (daCons (dTup (daCons (dTup daNil) (daCons (dC (.int 1)) (daCons (dC (.int 1)) daNil)))) (daCons (dTup (daCons (dTup daNil) (daCons (dC (.int 1)) (daCons (dC (.int 3)) daNil)))) (daCons (dTup (daCons (dTup (daCons (dTup (daCons (dC (.int 7)) (daCons (dC (.int 10)) daNil))) daNil)) (daCons (dC (.int 1)) (daCons (dC (.int 2)) daNil)))) (daCons (dTup (daCons (dTup (daCons (dTup (daCons (dC (.int 1)) (daCons (dC (.int 3)) daNil))) (daCons (dTup (daCons (dC (.int 1)) (daCons (dC (.int 1)) daNil))) daNil))) (daCons (dC (.int 0)) (daCons (dC (.int 1)) daNil)))) (daCons (dTup (daCons (dTup (daCons (dTup (daCons (dC (.int 1)) (daCons (dC (.int 1)) daNil))) daNil)) (daCons (dC (.int 1)) (daCons (dC (.int 998)) daNil)))) (daCons (dTup (daCons (dTup (daCons (dTup (daCons (dC (.int 1)) (daCons (dC (.int 2)) daNil))) (daCons (dTup (daCons (dC (.int 4)) (daCons (dC (.int 3)) daNil))) (daCons (dTup (daCons (dC (.int 2)) (daCons (dC (.int 1)) daNil))) daNil)))) (daCons (dC (.int 2)) (daCons (dC (.int 5)) daNil)))) daNil))))))))) (gdName 1)) (dSeq (dIfS (dTest (dOp oGt (dFn sp_law_draw (daCons (dVar 0) (daCons (dC (.int 3)) daNil))) (dC (.int 0)))) (dAsg (dFn sp_law_pick (daCons (dVar 0) (daCons (dVar 1) daNil))) (gdTup 3 (gdCons (gdName 2) (gdCons (gdName 3) (gdCons (gdName 4) gdNil))))) (dSeq (dAsg (dOp oPlus (dC (.int 1)) (dFn sp_law_draw (daCons (dVar 0) (daCons (dC (.int 9)) daNil)))) (gdName 4)) (dPar 3 2 (daCons (dOp oPlus (dC (.int 1)) (dFn sp_law_draw (daCons (dVar 0) (daCons (dVar 4) daNil)))) (daCons (dTup daNil) daNil))))) (dRet (dOp oPlus (dTup (daCons (dC (.str "rule")) (daCons (dVar 2) daNil))) (dFn sp_law_lowest (daCons (dVar 3) (daCons (dVar 4) daNil)))))))
theorem pf_law_rule : ∀ ds μ Q, sp_law_rule ds μ Q → db_law_rule (retD Q) (startD ["pot", "some", "firsts", "top", "bottom"] ds) μ := by
  intro ds μ Q h
  unfold sp_law_rule at h
  split at h
  · rename_i c
    obtain ⟨⟨a0, b0, hc, hp⟩, h⟩ := h
    show db_law_rule (retD Q) [some (.cell c), none, none, none, none] μ
    unfold db_law_rule
    refine sq fun U hU => ?_
    walk_at "ev"
    intro s hs
    have hne : c ≠ s := Mu.ne_of hc hs
    show U _ (μ.upd s (menu.map menuD))
    have fin : ∀ {fs : List (Int × Int)} {t b : Int} {μ' : Mu} {V : Rho → Mu → Prop} {x : Option D}, chkR (mkR fs t b) = true → 0 ≤ t → 0 < b → b < 2 ^ 200 → (∃ a' b', PB a' b' ∧ Mu.Sub (μ.upd c [.int a', .int b']) μ') →
        Nx (dRet (dOp oPlus (dTup (daCons (dC (.str "rule")) (daCons (dVar 2) daNil))) (dFn sp_law_lowest (daCons (dVar 3) (daCons (dVar 4) daNil)))) (retD Q)) V →
        V [some (.cell c), x, some (.tup (fs.map fr)), some (.int t), some (.int b)] μ' := by
      intro fs t b μ' V x hk ht hb hb2 hs hV
      obtain ⟨a', b', hp', hs⟩ := hs
      refine hV.go ?_
      walk_at "ev"
      refine ⟨⟨ht, hb, hb2⟩, ?_⟩
      simp -dsimp only [fr]
      walk_at "ev"
      exact ⟨_, hs, h _ (hk) _ _ hp'⟩
    refine hU.go ?_
    refine sq fun U hU => ?_
    walk_at "ev"
    refine ask_draw ⟨a0, b0, (Mu.upd_ne hne).trans hc, hp⟩ (by decide) (by decide) fun r h0 h1 a1 b1 hp1 => ?_
    walk_at "ev"
    have sub1 : ∀ x : List D, Mu.Sub (μ.upd c x) ((μ.upd s (menu.map menuD)).upd c x) := fun x => (Mu.sub_upd hs).upd c x
    by_cases e : 0 < r
    · rw [if_pos e]
      refine ⟨⟨⟨a1, b1, Mu.upd_same, hp1⟩, hne.symm⟩, menu.map menuD, (Mu.upd_ne hne.symm).trans Mu.upd_same, ⟨by decide, by decide⟩, fun x hx a2 b2 hp2 => ?_⟩
      obtain ⟨m, hm, rfl⟩ := List.mem_map.mp hx
      obtain ⟨k1, k2, k3, k4⟩ := menu_ok m hm
      simp -dsimp only [menuD]
      walk_at "ev"
      exact fin k1 k2 k3 k4 ⟨_, _, hp2, sub1 _⟩ hU
    · rw [if_neg e]
      refine sq fun V hV => ?_
      walk_at "ev"
      refine ask_draw ⟨a1, b1, Mu.upd_same, hp1⟩ (by decide) (by decide) fun r2 h2 h3 a2 b2 hp2 => ?_
      walk_at "ev"
      refine hV.go ?_
      walk_at "ev"
      refine ask_draw ⟨a2, b2, Mu.upd_same, hp2⟩ (by omega) (by omega) fun r3 h4 h5 a3 b3 hp3 => ?_
      walk_at "ev"
      have hk := drawn_ok r2.toNat (List.mem_range.mpr (by omega)) r3.toNat (List.mem_range.mpr (by omega))
      rw [show ((r2.toNat : Nat) : Int) = r2 by omega, show ((r3.toNat : Nat) : Int) = r3 by omega] at hk
      exact fin (fs := []) hk (by omega) (by omega) (by omega) ⟨_, _, hp3, sub1 _⟩ hU
  · exact h.elim
theorem ask_law_rule {c : Nat} {μ : Mu} {Q : DK} (hp : Pot μ c) (h : ∀ r, chkR r = true → Turn c μ fun μ' => Q (enc r) μ') : sp_law_rule [.cell c] μ Q := ⟨hp, h⟩
def encV (vs : List Int) : D := .tup (vs.map D.int)
structure Vok (vs : List Int) : Prop where
  len : 1 ≤ vs.length ∧ vs.length ≤ 12
  all : ∀ v ∈ vs, 0 ≤ v ∧ v ≤ 10 ^ 9
/-- what is kept while the law runs: the pot stands somewhere, all else of the caller's is as it was -/
def Good (μ : Mu) (c : Nat) (ν : Mu) : Prop := ∃ a b : Int, PB a b ∧ Mu.Sub (μ.upd c [.int a, .int b]) ν
theorem Good.pot {μ ν : Mu} {c : Nat} (h : Good μ c ν) : Pot ν c := by
  obtain ⟨a, b, h1, h2⟩ := h
  exact ⟨a, b, h2 _ _ Mu.upd_same, h1⟩
theorem Good.sub {μ ν ν' : Mu} {c : Nat} (h : Good μ c ν) (n : Mu.Sub ν ν') : Good μ c ν' := by
  obtain ⟨a, b, h1, h2⟩ := h
  exact ⟨a, b, h1, h2.trans n⟩
theorem Good.new {μ ν : Mu} {c k : Nat} {xs : List D} (h : Good μ c ν) (n : ν k = none) : Good μ c (ν.upd k xs) := h.sub (Mu.sub_upd n)
theorem Good.turn {μ ν : Mu} {c : Nat} {a b : Int} (h : Good μ c ν) (hp : PB a b) : Good μ c (ν.upd c [.int a, .int b]) := by
  obtain ⟨a1, b1, h1, h2⟩ := h
  refine ⟨a, b, hp, ?_⟩
  have := h2.upd c [.int a, .int b]
  rw [Mu.upd_upd] at this
  exact this
theorem Good.start {μ : Mu} {c : Nat} (h : Pot μ c) : Good μ c μ := by
  obtain ⟨a, b, h1, h2⟩ := h
  refine ⟨a, b, h2, fun j ys e => ?_⟩
  by_cases z : j = c
  · subst z
    rw [Mu.upd_same] at e
    cases e
    exact h1
  · rw [Mu.upd_ne z] at e
    exact e
theorem upd_comm {μ : Mu} {j k : Nat} {xs ys : List D} (h : j ≠ k) : (μ.upd j xs).upd k ys = (μ.upd k ys).upd j xs := by
  funext i
  by_cases a : i = k
  · subst a
    rw [Mu.upd_same, Mu.upd_ne h.symm, Mu.upd_same]
  · rw [Mu.upd_ne a]
    by_cases b : i = j
    · subst b
      rw [Mu.upd_same, Mu.upd_same]
    · rw [Mu.upd_ne b, Mu.upd_ne b, Mu.upd_ne a]
theorem lc_pot {its : List D} {g : DTG} {de : DTE} {ρ : Rho} {Q : List D → Mu → Prop} {μ : Mu} {c : Nat} (P : D → Prop) (hp : Pot μ c) (hl : its.length ≤ 1000)
    (hb : ∀ x, x ∈ its → ∀ μ' (Qy : DK), Pot μ' c → (∀ y a b μ4, P y → PB a b → Mu.Sub (μ'.upd c [.int a, .int b]) μ4 → Qy y μ4) → g x ρ μ' fun ρ2 μ2 => de ρ2 μ2 Qy)
    (hq : ∀ xs : List D, xs.length = its.length → (∀ y ∈ xs, P y) → Turn c μ fun μ' => Q xs μ') : lcIn ⟨its, []⟩ g dYes de ρ Q μ := by
  intro k hk
  obtain ⟨a0, b0, hc, hpb⟩ := hp
  have ck : c ≠ k := Mu.ne_of hc hk
  refine ⟨fun i μ' => ∃ a b xs, PB a b ∧ xs.length = i ∧ (∀ y ∈ xs, P y) ∧ Mu.Sub ((μ.upd c [.int a, .int b]).upd k xs) μ', ⟨a0, b0, [], hpb, rfl, (fun _ hy => nomatch hy), ?_⟩, fun i x μ' hi w => ⟨held_nil, ?_⟩, fun μ' w => ⟨held_nil, ?_⟩⟩
  · rw [upd_comm ck]
    refine fun j ys e => ?_
    by_cases z : j = c
    · subst z
      rw [Mu.upd_same] at e
      cases e
      exact (Mu.upd_ne ck).trans hc
    · rw [Mu.upd_ne z] at e
      exact e
  · obtain ⟨a, b, xs, pb, len, all, sb⟩ := w
    have hi : its[i]? = some x := hi
    have li := (List.getElem?_eq_some_iff.mp hi).1
    have pot : Pot μ' c := ⟨a, b, sb _ _ ((Mu.upd_ne ck).trans Mu.upd_same), pb⟩
    refine hb x (List.mem_of_getElem? hi) μ' _ pot fun y a2 b2 μ4 hy pb2 s4 => ?_
    have s5 := (sb.upd c [.int a2, .int b2]).trans s4
    rw [← upd_comm ck, Mu.upd_upd] at s5
    refine ⟨xs, s5 _ _ Mu.upd_same, sz_lt (by omega), a2, b2, xs ++ [y], pb2, by rw [List.length_append, len]; rfl, fun z hz => ?_, ?_⟩
    · rcases List.mem_append.mp hz with hz | hz
      · exact all z hz
      · cases hz with
        | head => exact hy
        | tail _ hz => cases hz
    · have := s5.upd k (xs ++ [y])
      rw [Mu.upd_upd] at this
      exact this
  · obtain ⟨a, b, xs, pb, len, all, sb⟩ := w
    exact ⟨xs, μ.upd c [.int a, .int b], sb _ _ Mu.upd_same, (Mu.upd_ne ck.symm).trans hk, sb, hq xs len all a b pb⟩
def Vt (y : D) : Prop := ∃ v : Int, y = .int v ∧ 0 ≤ v ∧ v ≤ 10 ^ 9
theorem vts : ∀ (xs : List D), (∀ y ∈ xs, Vt y) → ∃ vs : List Int, xs = vs.map D.int ∧ ∀ v ∈ vs, 0 ≤ v ∧ v ≤ 10 ^ 9
  | [], _ => ⟨[], rfl, (fun _ h => nomatch h)⟩
  | y :: xs, h => by
    obtain ⟨v, rfl, hv⟩ := h y (List.mem_cons_self ..)
    obtain ⟨vs, rfl, hs⟩ := vts xs fun z hz => h z (List.mem_cons_of_mem _ hz)
    refine ⟨v :: vs, rfl, fun w hw => ?_⟩
    cases hw with
    | head => exact hv
    | tail _ hw => exact hs w hw
theorem vok_of {vs : List Int} {n : Nat} (h : ∀ v ∈ vs, 0 ≤ v ∧ v ≤ 10 ^ 9) (hn : vs.length = n) (h0 : 1 ≤ n) (h1 : n ≤ 12) : Vok vs := ⟨⟨by omega, by omega⟩, h⟩
def sp_law_votes : DSp := fun ds μ Q => ∃ c n, ds = [.cell c, .int n, .bl true] ∧ (Pot μ c ∧ 1 ≤ n ∧ n ≤ 12) ∧ ∀ vs, Vok vs → (vs.length : Int) = n → Turn c μ fun μ' => Q (encV vs) μ'
theorem len_law_votes : ∀ ds μ Q, sp_law_votes ds μ Q → ds.length = (["pot", "lists", "great"] : List Str).length := by
  rintro ds μ Q ⟨c, n, rfl, _⟩
  rfl
def db_law_votes : DTS := (dSeq (dIfS (dtAnd (dTest (dVar 2)) (dTest (dOp oEq (dFn sp_law_draw (daCons (dVar 0) (daCons (dC (.int 3)) daNil))) (dC (.int 0))))) (dRet (dOf sTup (dLc (diR1 (daCons (dVar 1) daNil)) (gdName 3) dYes (dFn sp_law_pick (daCons (dVar 0) (daCons (dNew (dLst (daCons (dC (.int 0)) (daCons (dC (.int 1)) (daCons (dOp oPow (dC (.int 10)) (dC (.int 9))) (daCons (dC (.int 999999999)) (daCons (dOp oTimes (dC (.int 7)) (dOp oPow (dC (.int 10)) (dC (.int 8)))) (daCons (dC (.int 333333333)) daNil)))))))) daNil))) [3]))) dNext) (dRet (dOf sTup (dLc (diR1 (daCons (dVar 1) daNil)) (gdName 3) dYes (dFn sp_law_draw (daCons (dVar 0) (daCons (dC (.int 13)) daNil))) [3]))))
theorem turn_turn {c : Nat} {μ : Mu} {a b : Int} {P : Mu → Prop} (h : Turn c μ P) : Turn c (μ.upd c [.int a, .int b]) P := by
  intro a2 b2 hp
  rw [Mu.upd_upd]
  exact h a2 b2 hp
theorem pf_law_votes : ∀ ds μ Q, sp_law_votes ds μ Q → db_law_votes (retD Q) (startD ["pot", "lists", "great", "one"] ds) μ := by
  rintro ds μ Q ⟨c, n, rfl, ⟨hp, n0, n1⟩, q⟩
  show db_law_votes (retD Q) [some (.cell c), some (.int n), some (.bl true), none] μ
  unfold db_law_votes
  refine sq fun U hU => ?_
  walk_at "ev"
  refine ask_draw hp (by decide) (by decide) fun way h0 h1 a1 b1 hp1 => ?_
  have fin : ∀ xs : List D, xs.length = (rangeD 0 n).length → (∀ y ∈ xs, Vt y) → Turn c μ fun μ' => ∃ μ'', Mu.Sub μ'' μ' ∧ Q (.tup xs) μ'' := by
    intro xs hx hy a b hp
    obtain ⟨vs, rfl, hv⟩ := vts xs hy
    rw [List.length_map, rangeD_len] at hx
    exact ⟨_, Mu.Sub.refl _, q vs (vok_of hv hx (by omega) (by omega)) (by omega) a b hp⟩
  walk_at "ev"
  by_cases e : way = 0
  · rw [if_pos e]
    simp -dsimp only [dLc, diR1]
    walk_at "ev"
    refine ⟨⟨by omega, by omega⟩, ?_⟩
    refine lc_pot Vt (pot_turn hp1) (by rw [rangeD_len]; omega) (fun x hx μ' Qy pot qy => ?_) fun xs hx hy => ?_
    · obtain ⟨i, hi, rfl⟩ := List.mem_map.mp hx
      simp -dsimp only [wipeD]
      walk_at "ev"
      have z1 : (10 : Int) ^ Int.toNat 9 = 1000000000 := by decide
      have z2 : (7 : Int) * 10 ^ Int.toNat 8 = 700000000 := by decide
      refine ⟨⟨by decide, by decide, by decide⟩, ⟨by decide, by decide, by decide⟩, mulL (by decide) (by decide), ?_⟩
      rw [z1, z2]
      intro s hs
      refine ask_pick pot hs ⟨by decide, by decide⟩ fun y hy a2 b2 hp2 => ?_
      refine qy _ a2 b2 _ ?_ hp2 (sub_turn (Mu.sub_upd hs) c _)
      have hy : y ∈ ([0, 1, 1000000000, 999999999, 700000000, 333333333] : List Int).map D.int := hy
      obtain ⟨v, hv, rfl⟩ := List.mem_map.mp hy
      have all : ∀ v ∈ ([0, 1, 1000000000, 999999999, 700000000, 333333333] : List Int), 0 ≤ v ∧ v ≤ 10 ^ 9 := by decide
      exact ⟨v, rfl, all v hv⟩
    · exact turn_turn (fin xs hx hy)
  · rw [if_neg e]
    refine hU.go ?_
    walk_at "ev"
    simp -dsimp only [dLc, diR1]
    walk_at "ev"
    refine ⟨⟨by omega, by omega⟩, ?_⟩
    refine lc_pot Vt (pot_turn hp1) (by rw [rangeD_len]; omega) (fun x hx μ' Qy pot qy => ?_) fun xs hx hy => ?_
    · obtain ⟨i, hi, rfl⟩ := List.mem_map.mp hx
      simp -dsimp only [wipeD]
      walk_at "ev"
      refine ask_draw pot (by decide) (by decide) fun d d0 d1 a2 b2 hp2 => ?_
      exact qy _ a2 b2 _ ⟨d, rfl, d0, by omega⟩ hp2 (Mu.Sub.refl _)
    · exact turn_turn (fin xs hx hy)
end K10
namespace K10
open PySem PySem.Spec PyProof.Rows L2 Dl
local macro_rules | `(tactic| walk_at "ev") => `(tactic| try simp -dsimp only [↓dSeq_at, cInt2, oIs2, oNot2, dRet, dRetN, dNext, dIfS, dAsg, dDrop, dPar, dNever, dVar, dC, dOp, dUn, dTest, dChain, dAnd, dOr, dNot, dIf, dtAnd, dtOr, dtNot, dTup, daNil, daCons, dCall, dFn, dFnK, dNew, dLst, dOf,
  gdName, gdTup, gdCons, gdNil, gdSub, rdI, rdI0, oPlus, oSub, oTimes, oDiv, oMod, oPow, oLt, oLe, oGt, oGe, oIx, oEq, oNe, uNeg, oIsN, oNotN, D.isNon, cAbs, cMax, cMin, cInt, cDivmod, cLen, tyD, items, litems, retD, sTup, mApp, dYes,
  atI_0, atI_1, atI_2, atI_3, atI_4, ixN_20, ixN_21, kit_ii, kit_ib, kit_is, kit_it, kit_il, kit_bi, kit_bb, kit_bs, kit_bt, kit_bl, kit_si, kit_sb, kit_ss, kit_st, kit_sl, kit_ti, kit_tb, kit_ts, kit_tt, kit_tl, kit_li, kit_lb, kit_ls, kit_lt, kit_ll,
  List.getElem?_cons_zero, List.getElem?_cons_succ, List.set_cons_zero, List.set_cons_succ, List.length_cons, List.length_nil, Mu.upd_same, Mu.upd_upd, Nat.zero_add, Nat.reduceAdd, Nat.reduceLeDiff, natlit, Int.reduceEq, Int.reduceLT, Int.reduceLE, Int.reduceAdd, Int.reduceSub, Int.reduceMul, Int.reducePow, Int.reduceNeg, permG2_10, permG3_210, zl_0, zl_1, zl_2, zl_3, zl_4, zl_5, zl_6, zl_7, zl_8, zl_9, zl_10, zl_11, zl_12, zl_13, zl_14, zl_15, zl_16, zl_17, zl_18, zl_19, zl_20, true_and, and_true, eq_self, not_true_eq_false, not_false_eq_true, decide_true, decide_false, if_true, Bool.false_eq_true, if_false, Bool.not_true, Bool.not_false, decide_eq_true_eq, Bool.not_eq_true', decide_eq_false_iff_not, Option.isSome, Option.map])
/-! ## one thing otherwise -/
/-- all but one cell -/
def off (μ : Mu) (c : Nat) : Mu := fun j => if j = c then none else μ j
theorem off_ne {μ : Mu} {c j : Nat} (h : j ≠ c) : off μ c j = μ j := if_neg h
theorem off_self {μ : Mu} {c : Nat} : off μ c c = none := if_pos rfl
theorem off_sub {μ : Mu} {c : Nat} : Mu.Sub (off μ c) μ := fun j xs e => by
  by_cases z : j = c
  · subst z
    rw [off_self] at e
    cases e
  · rw [off_ne z] at e
    exact e
theorem off_in {μ μ' : Mu} {c : Nat} (s : Mu.Sub (off μ c) μ') : Mu.Sub (off μ c) (off μ' c) := fun j xs e => by
  by_cases z : j = c
  · subst z
    rw [off_self] at e
    cases e
  · rw [off_ne z]
    exact s _ _ e
theorem off_turn {μ μ' : Mu} {c : Nat} {xs : List D} (s : Mu.Sub (off μ c) μ') : Mu.Sub (off μ c) (μ'.upd c xs) := fun j ys e => by
  by_cases z : j = c
  · subst z
    rw [off_self] at e
    cases e
  · rw [Mu.upd_ne z]
    exact s _ _ e
mutual
/-- numbers, texts, tuples of them -/
def pv : D → Bool
  | .int i => decide (i.natAbs < 10 ^ 20)
  | .str _ => true
  | .tup ds => pvAll ds
  | _ => false
def pvAll : List D → Bool
  | [] => true
  | d :: ds => pv d && pvAll ds
end
theorem pv_get : ∀ {ds : List D}, pvAll ds = true → ∀ x ∈ ds, pv x = true
  | [], _, _, h => nomatch h
  | d :: ds, h, x, hx => by
    simp only [pvAll, Bool.and_eq_true] at h
    cases hx with
    | head => exact h.1
    | tail _ hx => exact pv_get h.2 x hx
theorem pv_shape {d : D} (h : pv d = true) : (∃ i : Int, d = .int i ∧ i.natAbs < 10 ^ 20) ∨ (∃ x, d = .str x) ∨ ∃ ds, d = .tup ds ∧ pvAll ds = true := by
  unfold pv at h
  split at h
  · exact .inl ⟨_, rfl, of_decide_eq_true h⟩
  · exact .inr (.inl ⟨_, rfl⟩)
  · exact .inr (.inr ⟨_, rfl, h⟩)
  · cases h
theorem cut_to (xs : List D) (i : Nat) (h : i ≤ xs.length) : Dl.cutD xs none (some (i : Int)) = xs.take i := by
  unfold Dl.cutD
  rw [HT.sIx_nat, HT.sIx_none, Nat.min_eq_left h]
  rfl
theorem cut_from (xs : List D) (i : Nat) (h : i ≤ xs.length) : Dl.cutD xs (some (i : Int)) none = xs.drop i := by
  unfold Dl.cutD
  rw [HT.sIx_nat, HT.sIx_none, Nat.min_eq_left h]
  exact List.take_of_length_le (by rw [List.length_drop]; exact Nat.le_refl _)
theorem last_at {β : Type} (l : List β) (x : β) : atI (l ++ [x]) (-1) = some x := by
  refine atI_n1 _ _ ?_
  rw [List.getLast?_append]
  rfl
theorem off_put {μ μ' : Mu} {c s : Nat} {xs : List D} (h : μ s = none) (sb : Mu.Sub (off μ c) μ') : Mu.Sub (off μ c) (μ'.upd s xs) := fun j ys e => by
  by_cases z : j = s
  · subst z
    rw [off_sub _ _ e] at h
    cases h
  · rw [Mu.upd_ne z]
    exact sb _ _ e
/-! ## constants -/
mutual
def mg : D → Bool
  | .non | .bl _ | .emp => true
  | .int i => decide (i.natAbs < 10 ^ 21)
  | .str x => x.cps.toList.all fun c => decide (c < 16 ^ 8)
  | .tup ds => mgAll ds
  | _ => false
def mgAll : List D → Bool
  | [] => true
  | d :: ds => mg d && mgAll ds
end
mutual
def mb : D → Nat
  | .str x => x.cps.size
  | .tup ds => mbAll ds
  | _ => 0
def mbAll : List D → Nat
  | [] => 0
  | d :: ds => mb d + 1 + mbAll ds
end
mutual
def md : D → Nat
  | .tup ds => mdAll ds + 1
  | .emp => 1
  | _ => 0
def mdAll : List D → Nat
  | [] => 0
  | d :: ds => max (md d) (mdAll ds)
end
mutual
theorem av_of {ν : Mu} : ∀ d : D, mg d = true → Av ν d (mb d) (md d)
  | .non, _ => Av.non.up (Nat.zero_le _) (Nat.zero_le _)
  | .bl b, _ => (Av.bl b).up (Nat.zero_le _) (Nat.zero_le _)
  | .emp, _ => Av.emp.up (Nat.zero_le _) (by simp [md])
  | .int i, h => (Av.int (by simpa [mg] using h)).up (Nat.zero_le _) (Nat.zero_le _)
  | .str x, h => (Av.str (by simpa only [mg] using h)).up (by simp [mb]) (Nat.zero_le _)
  | .tup ds, h => (Av.tup (avs_of ds (by simpa only [mg] using h))).up (by simp [mb]) (by simp [md])
  | .frz _, h => by simp [mg] at h
  | .cell _, h => by simp [mg] at h
  | .ty _, h => by simp [mg] at h
theorem avs_of {ν : Mu} : ∀ ds : List D, mgAll ds = true → Avs ν ds (mbAll ds) (mdAll ds)
  | [], _ => Avs.nil.up (Nat.zero_le _) (Nat.zero_le _)
  | d :: ds, h => by
    simp only [mgAll, Bool.and_eq_true] at h
    have a := (av_of (ν := ν) d h.1).up (Nat.le_refl _) (Nat.le_max_left (md d) (mdAll ds))
    have b := (avs_of (ν := ν) ds h.2).up (Nat.le_refl _) (Nat.le_max_right (md d) (mdAll ds))
    exact (Avs.cons a b).up (by simp [mbAll]) (by simp [mdAll])
end
theorem avC {ν : Mu} {d : D} {n k : Nat} (h : (mg d && (decide (mb d ≤ 10) && decide (md d ≤ 2))) = true) (hn : 10 ≤ n) (hk : 2 ≤ k) : Av ν d n k := by
  simp only [Bool.and_eq_true, decide_eq_true_eq] at h
  exact (av_of d h.1).up (by omega) (by omega)
theorem avI {ν : Mu} {i : Int} {n k : Nat} (h : i.natAbs < 10 ^ 21) : Av ν (.int i) n k := (Av.int h).up (Nat.zero_le _) (Nat.zero_le _)
theorem faL {β : Type} {P : β → Prop} {a : β} {l : List β} (h : P a) (t : ∀ x ∈ l, P x) : ∀ x ∈ a :: l, P x := fun x hx => by
  cases hx with
  | head => exact h
  | tail _ hx => exact t x hx
def Spot (ν : Mu) (n k : Nat) (p : D) : Prop := ∃ vs, ∃ i : Nat, p = .tup [.tup vs, .int (i : Int)] ∧ i < vs.length ∧ Avs ν vs n k
def sp_law_bent : DSp := fun ds μ Q => ∃ c d n k, ds = [.cell c, d] ∧ (Pot μ c ∧ Av (off μ c) d n k ∧ pv d = true ∧ n ≤ 1000) ∧ ∀ d' μ', Pot μ' c → Mu.Sub (off μ c) μ' → Av (off μ' c) d' (12 * n + 40) (k + 8) → Q d' μ'
theorem len_law_bent : ∀ ds μ Q, sp_law_bent ds μ Q → ds.length = (["pot", "value"] : List Str).length := by
  rintro ds μ Q ⟨c, d, n, k, rfl, _⟩
  rfl
def db_law_bent : DTS := (dSeq (dPar 2 3 (daCons (dNew (dLst daNil)) (daCons (dVar 1) daNil))) (dSeq (dWhile (dtAnd (dTest (dCall cIsi (daCons (dVar 3) (daCons (dC (.ty "tuple")) daNil)))) (dtAnd (dTest (dOp oGt (dCall cLen (daCons (dVar 3) daNil)) (dC (.int 0)))) (dtAnd (dTest (dOp oLt (dCall cLen (daCons (dVar 2) daNil)) (dC (.int 5)))) (dTest (dOp oGt (dFn sp_law_draw (daCons (dVar 0) (daCons (dC (.int 4)) daNil))) (dC (.int 0))))))) (dSeq (dDrop (mApp (dVar 2) (dTup (daCons (dVar 3) (daCons (dFn sp_law_draw (daCons (dVar 0) (daCons (dCall cLen (daCons (dVar 3) daNil)) daNil))) daNil))))) (dAsg (dOp oIx (dVar 3) (dOp oIx (dOp oIx (dVar 2) (dUn uNeg (dC (.int 1)))) (dC (.int 1)))) (gdName 3)))) (dSeq (dAsg (dFn sp_law_draw (daCons (dVar 0) (daCons (dC (.int 8)) daNil))) (gdName 4)) (dSeq (dIfS (dtAnd (dTest (dCall cIsi (daCons (dVar 3) (daCons (dC (.ty "tuple")) daNil)))) (dtAnd (dTest (dOp oGt (dCall cLen (daCons (dVar 3) daNil)) (dC (.int 0)))) (dTest (dOp oLt (dVar 4) (dC (.int 4)))))) (dSeq (dAsg (dFn sp_law_draw (daCons (dVar 0) (daCons (dCall cLen (daCons (dVar 3) daNil)) daNil))) (gdName 5)) (dAsg (dOp oIx (dNew (dLst (daCons (dOp oPlus (dSl (dVar 3) doNone (doSome (dVar 5))) (dSl (dVar 3) (doSome (dOp oPlus (dVar 5) (dC (.int 1)))) doNone)) (daCons (dOp oPlus (dSl (dVar 3) doNone (doSome (dOp oPlus (dVar 5) (dC (.int 1))))) (dSl (dVar 3) (doSome (dVar 5)) doNone)) (daCons (dRev (dVar 3)) (daCons (dNew (dCallF (dSeqL1 true sLst) (daCons (dVar 3) daNil))) daNil)))))) (dVar 4)) (gdName 3))) (dIfS (dtAnd (dTest (dCall cIsi (daCons (dVar 3) (daCons (dC (.ty "int")) daNil)))) (dTest (dOp oLt (dVar 4) (dC (.int 6))))) (dAsg (dFn sp_law_pick (daCons (dVar 0) (daCons (dNew (dLst (daCons (dOp oPlus (dVar 3) (dC (.int 1))) (daCons (dOp oSub (dVar 3) (dC (.int 1))) (daCons (dOp oSub (dC (.int 0)) (dVar 3)) (daCons (dC (.bl true)) (daCons (dC .non) (daCons (dC (.int 0)) (daCons (dC (.int 1)) (daCons (dC (.int 2)) (daCons (dC (.int 999)) (daCons (dC (.int 1000)) (daCons (dC (.int 201)) (daCons (dOp oPlus (dOp oPow (dC (.int 10)) (dC (.int 9))) (dC (.int 1))) (daCons (dTup (daCons (dVar 3) (daCons (dC (.int 1)) daNil))) (daCons (dC (.str "1")) daNil)))))))))))))))) daNil))) (gdName 3)) (dAsg (dFn sp_law_pick (daCons (dVar 0) (daCons (dNew (dLst (daCons (dC .non) (daCons (dC (.int 0)) (daCons (dC (.str "rule")) (daCons (dC (.str "race")) (daCons (dC (.str "Rule")) (daCons (dTup daNil) (daCons (dTup (daCons (dTup daNil) daNil)) (daCons (dNew (dLst daNil)) (daCons dEmp (daCons (dTup (daCons (dC (.int 0)) (daCons (dC (.int 1)) daNil))) (daCons (dTup (daCons (dC (.int 1)) (daCons (dC (.int 1)) daNil))) (daCons (dTup (daCons (dC (.int 1)) (daCons (dC (.int 2)) daNil))) (daCons (dTup (daCons (dC (.int 2)) (daCons (dC (.int 4)) daNil))) (daCons (dTup (daCons (dTup (daCons (dC (.int 1)) (daCons (dC (.int 2)) daNil))) daNil)) (daCons (dC (.int 1)) daNil))))))))))))))))) daNil))) (gdName 3)))) (dSeq (dFor (diSeq (dRev (dVar 2))) (gdTup 2 (gdCons (gdName 6) (gdCons (gdName 5) gdNil))) (dAsg (dOp oPlus (dOp oPlus (dSl (dVar 6) doNone (doSome (dVar 5))) (dTup (daCons (dVar 3) daNil))) (dSl (dVar 6) (doSome (dOp oPlus (dVar 5) (dC (.int 1)))) doNone)) (gdName 3))) (dRet (dVar 3)))))))
theorem kit_it : kitB "int" "tuple" = some false := by rfl
theorem kit_ii : kitB "int" "int" = some true := by rfl
theorem kit_st : kitB "str" "tuple" = some false := by rfl
theorem kit_si : kitB "str" "int" = some false := by rfl
theorem kit_tt : kitB "tuple" "tuple" = some true := by rfl
theorem kit_ti : kitB "tuple" "int" = some false := by rfl
theorem lt30 {n : Nat} {xs : List D} (h : xs.length = n := by rfl) (h2 : n < 2 ^ 30 := by decide) : xs.length < 2 ^ 30 := by omega
theorem if_no {p : Prop} [Decidable p] {a b : Prop} (h : ¬ p) (q : b) : if p then a else b := by rw [if_neg h]; exact q
theorem if_ye {p : Prop} [Decidable p] {a b : Prop} (h : p) (q : a) : if p then a else b := by rw [if_pos h]; exact q
theorem pot_sub {μ μ' : Mu} {c : Nat} (h : Pot μ c) (s : Mu.Sub μ μ') : Pot μ' c := by
  obtain ⟨a, b, e, hb⟩ := h
  exact ⟨a, b, s _ _ e, hb⟩
theorem pf_law_bent : ∀ ds μ Q, sp_law_bent ds μ Q → db_law_bent (retD Q) (startD ["pot", "value", "spots", "here", "way", "at", "around"] ds) μ := by
  rintro ds μ Q ⟨c, d, n, k, rfl, ⟨hp, av, hv, hn⟩, q⟩
  show db_law_bent (retD Q) [some (.cell c), some d, none, none, none, none, none] μ
  unfold db_law_bent
  refine sq fun U hU => ?_
  walk_at "ev"
  intro s hs
  have cs : c ≠ s := by
    obtain ⟨a, b, e, _⟩ := hp
    exact Mu.ne_of e hs
  refine hU.go ?_
  clear hU
  refine sq fun U hU => ?_
  refine ⟨fun ρ' μ' => ∃ here L, ρ' = [some (.cell c), some d, some (.cell s), some here, none, none, none] ∧ Pot μ' c ∧ Mu.Sub (off μ c) μ' ∧ μ' s = some L ∧ L.length ≤ 5 ∧ (∀ p ∈ L, Spot (off μ c) n k p) ∧ Av (off μ c) here n k ∧ pv here = true,
    fun _ μ' => match μ' s with | some L => 5 - L.length | none => 0, ?_, fun ρ' μ' w => ?_⟩
  · refine ⟨d, [], rfl, ?_, ?_, Mu.upd_same, by decide, (fun p hp => nomatch hp), av, hv⟩
    · obtain ⟨a, b, e, hb⟩ := hp
      exact ⟨a, b, (Mu.upd_ne cs).trans e, hb⟩
    · exact off_sub.trans (Mu.sub_upd hs)
  · obtain ⟨here, L, rfl, hp1, sb1, eL, l5, spt, avh, pvh⟩ := w
    have out : ∀ μ2, Pot μ2 c → Mu.Sub (off μ c) μ2 → μ2 s = some L → U [some (.cell c), some d, some (.cell s), some here, none, none, none] μ2 := by
      intro μ2 hp2 sb2 e2
      refine hU.go ?_
      clear hU
      refine sq fun U hU => ?_
      walk_at "ev"
      refine ask_draw hp2 (by decide) (by decide) fun way w0 w1 a b hpb => ?_
      walk_at "ev"
      refine hU.go ?_
      clear hU
      have hp3 : Pot (μ2.upd c [.int a, .int b]) c := pot_turn hpb
      have sb3 : Mu.Sub (off μ c) (μ2.upd c [.int a, .int b]) := off_turn sb2
      have e3 : (μ2.upd c [.int a, .int b]) s = some L := (Mu.upd_ne cs.symm).trans e2
      generalize μ2.upd c [.int a, .int b] = μ3 at hp3 sb3 e3 ⊢
      clear hp2 sb2 e2 hpb hp1 sb1 eL
      refine sq fun U hU => ?_
      have fin : ∀ h μ4 x, Pot μ4 c → Mu.Sub (off μ c) μ4 → μ4 s = some L → Av (off μ4 c) h (2 * n + 10) (k + 2) → U [some (.cell c), some d, some (.cell s), some h, some (.int way), x, none] μ4 := by
        intro h μ4 x hp4 sb4 e4 av4
        refine hU.go ?_
        clear hU
        refine sq fun U hU => ?_
        simp -dsimp only [dFor, diSeq, dRev]
        walk_at "ev"
        rw [e4]
        intro m hm
        walk_at "ev"
        simp -dsimp only [lsrc]
        rw [Mu.upd_same]
        refine ⟨fun j ρ5 μ5 => ∃ h5 x5 y5, ρ5 = [some (.cell c), some d, some (.cell s), some h5, some (.int way), x5, y5] ∧ μ5 = μ4.upd m L.reverse ∧ Av (off μ4 c) h5 (2 * n + 10 + j * (2 * n + 2)) (k + 2 + j), ⟨h, x, none, rfl, rfl, av4.up (by omega) (by omega)⟩, fun j x ρ5 μ5 hj w => ?_, fun ρ5 μ5 w => ?_⟩
        · obtain ⟨h5, x5, y5, rfl, rfl, a5⟩ := w
          refine ⟨held_one Mu.upd_same, ?_⟩
          have hj : L.reverse[j]? = some x := hj
          have mem : x ∈ L := List.mem_reverse.mp (List.mem_of_getElem? hj)
          obtain ⟨vs, i, rfl, hi, hvs⟩ := spt x mem
          have hvs := hvs.mono (off_in sb4)
          walk_at "ev"
          simp -dsimp only [dSl, doSome, doNone]
          walk_at "ev"
          rw [show (i : Int) + 1 = ((i + 1 : Nat) : Int) from rfl, cut_to vs i (by omega), cut_from vs (i + 1) (by omega)]
          have sl : 13000024 ≤ sizeLine := by decide
          have hl := hvs.len
          refine ⟨by rw [List.length_take]; omega, by rw [List.length_append, List.length_take, List.length_drop]; show min i vs.length + 1 + _ ≤ _; omega, _, _, _, rfl, ?_⟩
          have a6 := (((hvs.take i).up (Nat.le_refl _) (show k ≤ k + 2 + j by omega)).app (Avs.cons a5 (Avs.nil.up (Nat.le_refl 0) (Nat.zero_le _)))).app ((hvs.drop (i + 1)).up (Nat.le_refl _) (show k ≤ k + 2 + j by omega))
          refine (Av.tup a6).up ?_ (by omega)
          have am := Nat.add_mul j 1 (2 * n + 2)
          rw [Nat.one_mul] at am
          rw [am]
          omega
        · obtain ⟨h5, x5, y5, rfl, rfl, a5⟩ := w
          refine ⟨held_one Mu.upd_same, ?_⟩
          refine hU.go ?_
          walk_at "ev"
          have lr : L.reverse.length ≤ 5 := by rw [List.length_reverse]; exact l5
          have a5 : Av (off μ4 c) h5 (2 * n + 10 + L.reverse.length * (2 * n + 2)) (k + 2 + L.reverse.length) := a5
          have ml : L.reverse.length * (2 * n + 2) ≤ 5 * (2 * n + 2) := Nat.mul_le_mul_right _ lr
          exact ⟨μ4, Mu.sub_upd hm, q h5 μ4 hp4 sb4 (a5.up (by omega) (by omega))⟩
      have pick : ∀ (xs : List D) (μ4 : Mu) (n4 : Nat) (Q : DK), Pot μ4 c → Mu.Sub (off μ c) μ4 → μ4 s = some L → (0 < xs.length ∧ xs.length < 2 ^ 30) → μ4 n4 = none → (∀ x ∈ xs, Av (off (μ4.upd n4 xs) c) x (2 * n + 10) (k + 2)) → (∀ x μ5, Pot μ5 c → Mu.Sub (off μ c) μ5 → μ5 s = some L → Av (off μ5 c) x (2 * n + 10) (k + 2) → Q x μ5) → sp_law_pick [.cell c, .cell n4] (μ4.upd n4 xs) Q := by
        intro xs μ4 n4 Q hp4 sb4 e4 hx h4 av4 post
        refine ask_pick hp4 h4 hx fun x hx a2 b2 hpb => ?_
        refine post x _ (pot_turn hpb) (off_turn (sb4.trans (Mu.sub_upd h4))) ?_ ((av4 x hx).mono (off_in (off_turn off_sub)))
        rw [Mu.upd_ne cs.symm]
        exact (Mu.sub_upd h4) _ _ e4
      walk_at "ev"
      refine isi_tup (avh.mono sb3) ?_
      walk_at "ev"
      rcases pv_shape pvh with ⟨i, rfl, hi⟩ | ⟨x, rfl⟩ | ⟨vs, rfl, pvs⟩
      · refine if_no Bool.false_ne_true ?_
        simp -dsimp only [cIsi, tyD, kit_ii]
        refine if_ye trivial ?_
        by_cases w6 : way < 6
        · rw [if_pos w6]
          refine ⟨⟨by decide, by decide, by decide⟩, fun n4 h4 => ?_⟩
          refine pick _ _ _ _ hp3 sb3 e3 ⟨Nat.succ_pos _, lt30 (n := 14)⟩ h4 ?_ fun x μ5 p5 s5 e5 a5 => fin x μ5 none p5 s5 e5 a5
          refine faL (avI (by omega)) (faL (avI (by omega)) (faL (avI (by omega)) (faL (avC (by decide +kernel) (by omega) (by omega)) (faL (avC (by decide +kernel) (by omega) (by omega)) (faL (avC (by decide +kernel) (by omega) (by omega)) (faL (avC (by decide +kernel) (by omega) (by omega)) (faL (avC (by decide +kernel) (by omega) (by omega)) (faL (avC (by decide +kernel) (by omega) (by omega)) (faL (avC (by decide +kernel) (by omega) (by omega)) (faL (avC (by decide +kernel) (by omega) (by omega)) (faL (avC (by decide +kernel) (by omega) (by omega)) (faL ?_ (faL (avC (by decide +kernel) (by omega) (by omega)) fun x hx => nomatch hx)))))))))))))
          exact (Av.tup (Avs.cons (Av.int (by omega)) (Avs.cons (Av.int (by decide)) Avs.nil))).up (by omega) (by omega)
        · rw [if_neg w6]
          intro j hj
          simp -dsimp only [dEmp]
          walk_at "ev"
          intro n4 h4
          have s6 := sb3.trans (Mu.sub_upd (xs := []) hj)
          refine pick _ _ _ _ (pot_sub hp3 (Mu.sub_upd hj)) s6 (Mu.sub_upd hj _ _ e3) ⟨Nat.succ_pos _, lt30 (n := 15)⟩ h4 ?_ fun x μ5 p5 s5 e5 a5 => fin x μ5 none p5 s5 e5 a5
          refine faL (avC (by decide +kernel) (by omega) (by omega)) (faL (avC (by decide +kernel) (by omega) (by omega)) (faL (avC (by decide +kernel) (by omega) (by omega)) (faL (avC (by decide +kernel) (by omega) (by omega)) (faL (avC (by decide +kernel) (by omega) (by omega)) (faL (avC (by decide +kernel) (by omega) (by omega)) (faL (avC (by decide +kernel) (by omega) (by omega)) (faL ?_ (faL (avC (by decide +kernel) (by omega) (by omega)) (faL (avC (by decide +kernel) (by omega) (by omega)) (faL (avC (by decide +kernel) (by omega) (by omega)) (faL (avC (by decide +kernel) (by omega) (by omega)) (faL (avC (by decide +kernel) (by omega) (by omega)) (faL (avC (by decide +kernel) (by omega) (by omega)) (faL (avC (by decide +kernel) (by omega) (by omega)) fun x hx => nomatch hx))))))))))))))
          refine (Av.cell (j := j) (ds := []) ?_ Avs.nil).up (Nat.zero_le _) (by omega)
          have cj : c ≠ j := by
            obtain ⟨_, _, e, _⟩ := hp3
            exact Mu.ne_of e hj
          rw [off_ne cj.symm]
          exact Mu.sub_upd h4 _ _ Mu.upd_same
      · refine if_no Bool.false_ne_true ?_
        simp -dsimp only [cIsi, tyD, kit_si]
        refine if_no Bool.false_ne_true ?_
        intro j hj
        simp -dsimp only [dEmp]
        walk_at "ev"
        intro n4 h4
        have s6 := sb3.trans (Mu.sub_upd (xs := []) hj)
        refine pick _ _ _ _ (pot_sub hp3 (Mu.sub_upd hj)) s6 (Mu.sub_upd hj _ _ e3) ⟨Nat.succ_pos _, lt30 (n := 15)⟩ h4 ?_ fun x μ5 p5 s5 e5 a5 => fin x μ5 none p5 s5 e5 a5
        refine faL (avC (by decide +kernel) (by omega) (by omega)) (faL (avC (by decide +kernel) (by omega) (by omega)) (faL (avC (by decide +kernel) (by omega) (by omega)) (faL (avC (by decide +kernel) (by omega) (by omega)) (faL (avC (by decide +kernel) (by omega) (by omega)) (faL (avC (by decide +kernel) (by omega) (by omega)) (faL (avC (by decide +kernel) (by omega) (by omega)) (faL ?_ (faL (avC (by decide +kernel) (by omega) (by omega)) (faL (avC (by decide +kernel) (by omega) (by omega)) (faL (avC (by decide +kernel) (by omega) (by omega)) (faL (avC (by decide +kernel) (by omega) (by omega)) (faL (avC (by decide +kernel) (by omega) (by omega)) (faL (avC (by decide +kernel) (by omega) (by omega)) (faL (avC (by decide +kernel) (by omega) (by omega)) fun x hx => nomatch hx))))))))))))))
        refine (Av.cell (j := j) (ds := []) ?_ Avs.nil).up (Nat.zero_le _) (by omega)
        have cj : c ≠ j := by
          obtain ⟨_, _, e, _⟩ := hp3
          exact Mu.ne_of e hj
        rw [off_ne cj.symm]
        exact Mu.sub_upd h4 _ _ Mu.upd_same
      · have hvs := (Av.untup avh).1
        have hl := hvs.len
        refine if_ye rfl ?_
        by_cases l0 : 0 < (vs.length : Int)
        · refine if_ye l0 ?_
          by_cases w4 : way < 4
          · refine if_ye w4 ?_
            refine sq fun V hV => ?_
            walk_at "ev"
            refine ask_draw hp3 (by omega) (by omega) fun r r0 r1 a1 b1 hpb => ?_
            have hp4 : Pot (μ3.upd c [.int a1, .int b1]) c := pot_turn hpb
            have sb4 : Mu.Sub (off μ c) (μ3.upd c [.int a1, .int b1]) := off_turn sb3
            have e4 : (μ3.upd c [.int a1, .int b1]) s = some L := (Mu.upd_ne cs.symm).trans e3
            generalize μ3.upd c [.int a1, .int b1] = μ4 at hp4 sb4 e4 ⊢
            obtain ⟨rn, rfl⟩ : ∃ rn : Nat, r = (rn : Int) := ⟨r.toNat, by omega⟩
            refine hV.go ?_
            clear hV
            walk_at "ev"
            simp -dsimp only [dSl, dRev, doSome, doNone]
            walk_at "ev"
            have hr : rn < vs.length := by omega
            rw [show (rn : Int) + 1 = ((rn + 1 : Nat) : Int) from rfl, cut_to vs rn (by omega), cut_to vs (rn + 1) (by omega), cut_from vs rn (by omega), cut_from vs (rn + 1) (by omega)]
            have sl : 13000024 ≤ sizeLine := by decide
            refine ⟨by rw [List.length_take, List.length_drop]; omega, by rw [List.length_take, List.length_drop]; omega, ?_⟩
            simp -dsimp only [dCallF, dSeqL1, sLst]
            walk_at "ev"
            simp -dsimp only [sitems]
            intro j hj n4 h4
            generalize el : [D.tup (vs.take rn ++ vs.drop (rn + 1)), D.tup (vs.take (rn + 1) ++ vs.drop rn), D.tup vs.reverse, D.cell j] = ll
            have S := (Mu.sub_upd (xs := vs) hj).trans (Mu.sub_upd (xs := ll) h4)
            have hp5 := pot_sub hp4 S
            have sb5 := sb4.trans S
            have e5 := S _ _ e4
            have hv5 := hvs.mono (off_in sb5)
            have cj : c ≠ j := by
              obtain ⟨_, _, e, _⟩ := hp4
              exact Mu.ne_of e hj
            have ej : off ((μ4.upd j vs).upd n4 ll) c j = some vs := by
              rw [off_ne cj.symm]
              exact Mu.sub_upd h4 _ _ Mu.upd_same
            clear S
            generalize (μ4.upd j vs).upd n4 ll = M at hp5 sb5 e5 hv5 ej ⊢
            obtain rfl | rfl | rfl | rfl : way = 0 ∨ way = 1 ∨ way = 2 ∨ way = 3 := by omega
            · rw [← el, atI_0]
              exact fin _ _ _ hp5 sb5 e5 ((Av.tup ((hv5.take _).app (hv5.drop _))).up (by omega) (by omega))
            · rw [← el, atI_1]
              exact fin _ _ _ hp5 sb5 e5 ((Av.tup ((hv5.take _).app (hv5.drop _))).up (by omega) (by omega))
            · rw [← el, atI_2]
              exact fin _ _ _ hp5 sb5 e5 ((Av.tup hv5.rev).up (by omega) (by omega))
            · rw [← el, atI_3]
              exact fin _ _ _ hp5 sb5 e5 ((Av.cell ej hv5).up (by omega) (by omega))
          · refine if_no w4 ?_
            simp -dsimp only [cIsi, tyD, kit_ti]
            refine if_no Bool.false_ne_true ?_
            intro j hj
            simp -dsimp only [dEmp]
            walk_at "ev"
            intro n4 h4
            have s6 := sb3.trans (Mu.sub_upd (xs := []) hj)
            refine pick _ _ _ _ (pot_sub hp3 (Mu.sub_upd hj)) s6 (Mu.sub_upd hj _ _ e3) ⟨Nat.succ_pos _, lt30 (n := 15)⟩ h4 ?_ fun x μ5 p5 s5 e5 a5 => fin x μ5 none p5 s5 e5 a5
            refine faL (avC (by decide +kernel) (by omega) (by omega)) (faL (avC (by decide +kernel) (by omega) (by omega)) (faL (avC (by decide +kernel) (by omega) (by omega)) (faL (avC (by decide +kernel) (by omega) (by omega)) (faL (avC (by decide +kernel) (by omega) (by omega)) (faL (avC (by decide +kernel) (by omega) (by omega)) (faL (avC (by decide +kernel) (by omega) (by omega)) (faL ?_ (faL (avC (by decide +kernel) (by omega) (by omega)) (faL (avC (by decide +kernel) (by omega) (by omega)) (faL (avC (by decide +kernel) (by omega) (by omega)) (faL (avC (by decide +kernel) (by omega) (by omega)) (faL (avC (by decide +kernel) (by omega) (by omega)) (faL (avC (by decide +kernel) (by omega) (by omega)) (faL (avC (by decide +kernel) (by omega) (by omega)) fun x hx => nomatch hx))))))))))))))
            refine (Av.cell (j := j) (ds := []) ?_ Avs.nil).up (Nat.zero_le _) (by omega)
            have cj : c ≠ j := by
              obtain ⟨_, _, e, _⟩ := hp3
              exact Mu.ne_of e hj
            rw [off_ne cj.symm]
            exact Mu.sub_upd h4 _ _ Mu.upd_same
        · refine if_no l0 ?_
          simp -dsimp only [cIsi, tyD, kit_ti]
          refine if_no Bool.false_ne_true ?_
          intro j hj
          simp -dsimp only [dEmp]
          walk_at "ev"
          intro n4 h4
          have s6 := sb3.trans (Mu.sub_upd (xs := []) hj)
          refine pick _ _ _ _ (pot_sub hp3 (Mu.sub_upd hj)) s6 (Mu.sub_upd hj _ _ e3) ⟨Nat.succ_pos _, lt30 (n := 15)⟩ h4 ?_ fun x μ5 p5 s5 e5 a5 => fin x μ5 none p5 s5 e5 a5
          refine faL (avC (by decide +kernel) (by omega) (by omega)) (faL (avC (by decide +kernel) (by omega) (by omega)) (faL (avC (by decide +kernel) (by omega) (by omega)) (faL (avC (by decide +kernel) (by omega) (by omega)) (faL (avC (by decide +kernel) (by omega) (by omega)) (faL (avC (by decide +kernel) (by omega) (by omega)) (faL (avC (by decide +kernel) (by omega) (by omega)) (faL ?_ (faL (avC (by decide +kernel) (by omega) (by omega)) (faL (avC (by decide +kernel) (by omega) (by omega)) (faL (avC (by decide +kernel) (by omega) (by omega)) (faL (avC (by decide +kernel) (by omega) (by omega)) (faL (avC (by decide +kernel) (by omega) (by omega)) (faL (avC (by decide +kernel) (by omega) (by omega)) (faL (avC (by decide +kernel) (by omega) (by omega)) fun x hx => nomatch hx))))))))))))))
          refine (Av.cell (j := j) (ds := []) ?_ Avs.nil).up (Nat.zero_le _) (by omega)
          have cj : c ≠ j := by
            obtain ⟨_, _, e, _⟩ := hp3
            exact Mu.ne_of e hj
          rw [off_ne cj.symm]
          exact Mu.sub_upd h4 _ _ Mu.upd_same
    walk_at "ev"
    refine isi_tup (avh.mono sb1) ?_
    walk_at "ev"
    by_cases tt : isT here = true
    · rw [if_pos tt]
      obtain ⟨vs, rfl⟩ := isT_tup tt
      have hvs := (Av.untup avh).1
      have hl := hvs.len
      walk_at "ev"
      by_cases l0 : 0 < (vs.length : Int)
      · rw [if_pos l0, eL]
        walk_at "ev"
        by_cases l1 : (L.length : Int) < 5
        · rw [if_pos l1]
          refine ask_draw hp1 (by decide) (by decide) fun r h0 h1 a1 b1 hp2 => ?_
          walk_at "ev"
          by_cases r0 : 0 < r
          · rw [if_pos r0]
            refine sq fun V hV => ?_
            walk_at "ev"
            have e3 := (Mu.upd_ne (xs := [.int a1, .int b1]) cs.symm).trans eL
            rw [e3]
            refine ⟨rfl, ?_⟩
            walk_at "ev"
            refine ask_draw (pot_turn hp2) (by omega) (by omega) fun i i0 i1 a2 b2 hp3 => ?_
            rw [Mu.upd_upd]
            walk_at "ev"
            have e4 := (Mu.upd_ne (xs := [.int a2, .int b2]) cs.symm).trans eL
            refine ⟨L, e4, sz_lt (by omega), ?_⟩
            refine hV.go ?_
            clear hV
            walk_at "ev"
            rw [last_at]
            walk_at "ev"
            have hi : i.toNat < vs.length := by omega
            have ha := atI_nat (xs := vs) (j := i.toNat) (List.getElem?_eq_getElem hi)
            rw [show ((i.toNat : Nat) : Int) = i by omega] at ha
            rw [ha]
            have mem := List.getElem_mem hi
            refine ⟨⟨vs[i.toNat], L ++ [.tup [.tup vs, .int i]], rfl, ?_, ?_, rfl, ?_, ?_, ?_, ?_⟩, ?_⟩
            · exact ⟨a2, b2, (Mu.upd_ne cs).trans Mu.upd_same, hp3⟩
            · exact off_put hs (off_turn sb1)
            · rw [List.length_append]
              show L.length + 1 ≤ 5
              omega
            · intro p hp
              rcases List.mem_append.mp hp with hp | hp
              · exact spt p hp
              · cases hp with
                | head => exact ⟨vs, i.toNat, by rw [show ((i.toNat : Nat) : Int) = i by omega], hi, hvs.up (Nat.le_refl _) (by omega)⟩
                | tail _ hp => cases hp
            · exact (hvs.get _ mem).up (Nat.le_refl _) (by omega)
            · simp only [pv] at pvh
              exact pv_get pvh _ mem
            · rw [eL]
              show 5 - (L ++ [_]).length < 5 - L.length
              rw [List.length_append]
              show 5 - (L.length + 1) < 5 - L.length
              omega
          · rw [if_neg r0]
            exact out _ (pot_turn hp2) (off_turn sb1) ((Mu.upd_ne cs.symm).trans eL)
        · rw [if_neg l1]
          walk_at "ev"
          exact out _ hp1 sb1 eL
      · rw [if_neg l0]
        walk_at "ev"
        exact out _ hp1 sb1 eL
    · rw [if_neg tt]
      walk_at "ev"
      exact out _ hp1 sb1 eL
end K10
namespace K10
open PySem PySem.Spec PyProof.Rows L2 Dl
local macro_rules | `(tactic| walk_at "ev") => `(tactic| try simp -dsimp only [↓dSeq_at, cInt2, oIs2, oNot2, dRet, dRetN, dNext, dIfS, dAsg, dDrop, dPar, dNever, dVar, dC, dOp, dUn, dTest, dChain, dAnd, dOr, dNot, dIf, dtAnd, dtOr, dtNot, dTup, daNil, daCons, dCall, dFn, dFnK, dNew, dLst, dOf,
  gdName, gdTup, gdCons, gdNil, gdSub, rdI, rdI0, oPlus, oSub, oTimes, oDiv, oMod, oPow, oLt, oLe, oGt, oGe, oIx, oEq, oNe, uNeg, oIsN, oNotN, D.isNon, cAbs, cMax, cMin, cInt, cDivmod, cLen, tyD, items, litems, retD, sTup, mApp, dYes,
  atI_0, atI_1, atI_2, atI_3, atI_4, ixN_20, ixN_21, kit_ii, kit_ib, kit_is, kit_it, kit_il, kit_bi, kit_bb, kit_bs, kit_bt, kit_bl, kit_si, kit_sb, kit_ss, kit_st, kit_sl, kit_ti, kit_tb, kit_ts, kit_tt, kit_tl, kit_li, kit_lb, kit_ls, kit_lt, kit_ll,
  List.getElem?_cons_zero, List.getElem?_cons_succ, List.set_cons_zero, List.set_cons_succ, List.length_cons, List.length_nil, Mu.upd_same, Mu.upd_upd, Nat.zero_add, Nat.reduceAdd, Nat.reduceLeDiff, natlit, Int.reduceEq, Int.reduceLT, Int.reduceLE, Int.reduceAdd, Int.reduceSub, Int.reduceMul, Int.reducePow, Int.reduceNeg, permG2_10, permG3_210, zl_0, zl_1, zl_2, zl_3, zl_4, zl_5, zl_6, zl_7, zl_8, zl_9, zl_10, zl_11, zl_12, zl_13, zl_14, zl_15, zl_16, zl_17, zl_18, zl_19, zl_20, true_and, and_true, eq_self, not_true_eq_false, not_false_eq_true, decide_true, decide_false, if_true, Bool.false_eq_true, if_false, Bool.not_true, Bool.not_false, decide_eq_true_eq, Bool.not_eq_true', decide_eq_false_iff_not, Option.isSome, Option.map])
/-! ## edges -/
def cl (n : Nat) (xs : List D) : Bool := decide (xs.length ≤ n) && xs.all fun d => mg d && (decide (mb d ≤ 200) && decide (md d ≤ 10))
theorem cl_len {n : Nat} {xs : List D} (h : cl n xs = true) : xs.length ≤ n := by
  unfold cl at h
  simp only [Bool.and_eq_true, decide_eq_true_eq] at h
  exact h.1
theorem cl_all {n : Nat} {xs : List D} {ν : Mu} (h : cl n xs = true) : ∀ x ∈ xs, Av ν x 200 10 := fun x hx => by
  unfold cl at h
  simp only [Bool.and_eq_true, decide_eq_true_eq, List.all_eq_true] at h
  have := h.2 x hx
  exact (av_of x this.1).up this.2.1 this.2.2
theorem cl_app {n m : Nat} {xs ys : List D} (h : cl n xs = true) (g : cl m ys = true) : cl (n + m) (xs ++ ys) = true := by
  unfold cl at h g ⊢
  simp only [Bool.and_eq_true, decide_eq_true_eq] at h g ⊢
  rw [List.length_append, List.all_append, h.2, g.2]
  exact ⟨by omega, rfl⟩
theorem none_sub {a b : Mu} {k : Nat} (s : Mu.Sub a b) (h : b k = none) : a k = none := by
  cases e : a k with
  | none => rfl
  | some xs => rw [s _ _ e] at h; cases h
theorem avH {ν : Mu} {d : D} (h : (mg d && (decide (mb d ≤ 200) && decide (md d ≤ 10))) = true) : Av ν d 200 10 := by
  simp only [Bool.and_eq_true, decide_eq_true_eq] at h
  exact (av_of d h.1).up (by omega) (by omega)
def halfD : D := .tup [.tup [.int 1, .int 2], .tup [.int 3, .int 2], .tup [.int 5, .int 2], .tup [.int 7, .int 2]]
def longD : D := .tup [.tup [.int 1, .int 2], .tup [.int 3, .int 2], .tup [.int 5, .int 2], .tup [.int 7, .int 2], .tup [.int 9, .int 2]]
def sp_law_edges : DSp := fun ds μ Q => ds = [] ∧ ∀ j μ' xs, μ' j = some xs → μ j = none → Mu.Sub μ μ' → xs.length ≤ 100 → (∀ x ∈ xs, Av μ' x 200 10) → Q (.cell j) μ'
theorem len_law_edges : ∀ ds μ Q, sp_law_edges ds μ Q → ds.length = ([] : List Str).length := by
  rintro ds μ Q ⟨rfl, _⟩
  rfl
def db_law_edges : DTS := (dSeq (dAsg (dTup (daCons (dTup (daCons (dTup (daCons (dC (.int 1)) (daCons (dC (.int 2)) daNil))) (daCons (dTup (daCons (dC (.int 3)) (daCons (dC (.int 2)) daNil))) (daCons (dTup (daCons (dC (.int 5)) (daCons (dC (.int 2)) daNil))) (daCons (dTup (daCons (dC (.int 7)) (daCons (dC (.int 2)) daNil))) daNil))))) (daCons (dTup (daCons (dTup (daCons (dC (.int 1)) (daCons (dC (.int 2)) daNil))) (daCons (dTup (daCons (dC (.int 3)) (daCons (dC (.int 2)) daNil))) (daCons (dTup (daCons (dC (.int 5)) (daCons (dC (.int 2)) daNil))) (daCons (dTup (daCons (dC (.int 7)) (daCons (dC (.int 2)) daNil))) (daCons (dTup (daCons (dC (.int 9)) (daCons (dC (.int 2)) daNil))) daNil)))))) daNil))) (gdTup 2 (gdCons (gdName 0) (gdCons (gdName 1) gdNil)))) (dSeq (dAsg (dNew (dLst (daCons (dTup (daCons (dC (.str "rule")) (daCons (dVar 0) (daCons (dC (.int 1)) (daCons (dC (.int 2)) daNil))))) (daCons (dTup (daCons (dC (.str "rule")) (daCons (dVar 1) (daCons (dC (.int 1)) (daCons (dC (.int 2)) daNil))))) (daCons (dTup (daCons (dC (.str "rule")) (daCons (dTup (daCons (dTup (daCons (dC (.int 1)) (daCons (dC (.int 999)) daNil))) daNil)) (daCons (dC (.int 1)) (daCons (dC (.int 999)) daNil))))) (daCons (dTup (daCons (dC (.str "rule")) (daCons (dTup (daCons (dTup (daCons (dC (.int 1)) (daCons (dC (.int 1000)) daNil))) daNil)) (daCons (dC (.int 1)) (daCons (dC (.int 2)) daNil))))) (daCons (dTup (daCons (dC (.str "rule")) (daCons (dTup daNil) (daCons (dC (.int 1)) (daCons (dC (.int 1000)) daNil))))) (daCons (dTup (daCons (dC (.str "rule")) (daCons (dTup daNil) (daCons (dC (.int 0)) (daCons (dC (.int 1)) daNil))))) daNil)))))))) (gdName 2)) (dSeq (dAsg (dOp oPlus (dVar 2) (dNew (dLst (daCons (dTup (daCons (dC (.str "rule")) (daCons (dTup (daCons (dTup (daCons (dC (.int 1)) (daCons (dC (.int 2)) daNil))) daNil)) (daCons (dC (.int 0)) (daCons (dC (.int 1)) daNil))))) (daCons (dTup (daCons (dC (.str "rule")) (daCons (dTup (daCons (dTup (daCons (dC (.int 1)) (daCons (dC (.int 1)) daNil))) daNil)) (daCons (dC (.int 0)) (daCons (dC (.int 1)) daNil))))) (daCons (dTup (daCons (dC (.str "rule")) (daCons (dTup (daCons (dTup (daCons (dC (.int 0)) (daCons (dC (.int 1)) daNil))) daNil)) (daCons (dC (.int 1)) (daCons (dC (.int 2)) daNil))))) (daCons (dTup (daCons (dC (.str "rule")) (daCons (dTup (daCons (dTup (daCons (dC (.int 5)) (daCons (dC (.int 4)) daNil))) daNil)) (daCons (dC (.int 1)) (daCons (dC (.int 2)) daNil))))) (daCons (dTup (daCons (dC (.str "rule")) (daCons (dTup (daCons (dTup (daCons (dC (.int 1)) (daCons (dC (.int 1)) daNil))) (daCons (dTup (daCons (dC (.int 1)) (daCons (dC (.int 1)) daNil))) daNil))) (daCons (dC (.int 1)) (daCons (dC (.int 2)) daNil))))) daNil)))))))) (gdName 2)) (dSeq (dAsg (dOp oPlus (dVar 2) (dNew (dLst (daCons (dTup (daCons (dC (.str "rule")) (daCons (dTup (daCons (dTup (daCons (dC (.int 2)) (daCons (dC (.int 4)) daNil))) daNil)) (daCons (dC (.int 1)) (daCons (dC (.int 2)) daNil))))) (daCons (dTup (daCons (dC (.str "rule")) (daCons (dTup daNil) (daCons (dC (.int 3)) (daCons (dC (.int 2)) daNil))))) (daCons (dTup (daCons (dC (.str "rule")) (daCons (dTup daNil) (daCons (dC (.int 2)) (daCons (dC (.int 4)) daNil))))) (daCons (dTup (daCons (dC (.str "rule")) (daCons (dTup daNil) (daCons (dUn uNeg (dC (.int 1))) (daCons (dC (.int 2)) daNil))))) (daCons (dTup (daCons (dC (.str "rule")) (daCons (dTup daNil) (daCons (dC (.int 0)) (daCons (dC (.int 2)) daNil))))) (daCons (dTup (daCons (dC (.str "rule")) (daCons (dTup daNil) (daCons (dC (.int 999)) (daCons (dC (.int 999)) daNil))))) (daCons (dTup (daCons (dC (.str "rule")) (daCons (dTup daNil) (daCons (dC (.int 998)) (daCons (dC (.int 999)) daNil))))) daNil)))))))))) (gdName 2)) (dSeq (dAsg (dOp oPlus (dVar 2) (dNew (dLst (daCons (dTup (daCons (dC (.str "rule")) (daCons (dTup (daCons (dTup (daCons (dC (.int 1)) (daCons (dC (.int 2)) daNil))) (daCons (dTup (daCons (dC (.int 1)) (daCons (dC (.int 1)) daNil))) daNil))) (daCons (dC (.int 0)) (daCons (dC (.int 1)) daNil))))) (daCons (dTup (daCons (dC (.str "rule")) (daCons (dTup (daCons (dTup (daCons (dC (.int 1)) (daCons (dC (.int 2)) daNil))) (daCons (dTup (daCons (dC (.int 2)) (daCons (dC (.int 1)) daNil))) daNil))) (daCons (dC (.int 0)) (daCons (dC (.int 1)) daNil))))) (daCons (dTup (daCons (dC (.str "rule")) (daCons (dTup (daCons (dTup (daCons (dC (.int 1)) (daCons (dC (.int 2)) daNil))) (daCons (dTup (daCons (dC (.int 2)) (daCons (dC (.int 1)) daNil))) daNil))) (daCons (dC (.int 1)) (daCons (dC (.int 1)) daNil))))) (daCons (dOp oTimes2 (dTup (daCons (dC (.int 0)) daNil)) (dC (.int 12))) (daCons (dOp oTimes2 (dTup (daCons (dC (.int 0)) daNil)) (dC (.int 13))) (daCons (dTup (daCons (dOp oPow (dC (.int 10)) (dC (.int 9))) daNil)) (daCons (dTup (daCons (dOp oPlus (dOp oPow (dC (.int 10)) (dC (.int 9))) (dC (.int 1))) daNil)) (daCons (dTup (daCons (dC (.bl true)) daNil)) daNil))))))))))) (gdName 2)) (dSeq (dAsg (dTup (daCons (dC (.str "rule")) (daCons (dTup daNil) (daCons (dC (.int 1)) (daCons (dC (.int 2)) daNil))))) (gdName 3)) (dRet (dOp oPlus (dVar 2) (dNew (dLst (daCons (dTup (daCons (dC (.str "race")) (daCons (dVar 3) (daCons (dTup (daCons (dC (.int 1)) daNil)) (daCons (dC (.int 200)) daNil))))) (daCons (dTup (daCons (dC (.str "race")) (daCons (dVar 3) (daCons (dTup (daCons (dC (.int 1)) daNil)) (daCons (dC (.int 201)) daNil))))) (daCons (dTup (daCons (dC (.str "race")) (daCons (dVar 3) (daCons (dTup daNil) (daCons (dC (.int 0)) daNil))))) (daCons (dTup (daCons (dC (.str "race")) (daCons (dVar 3) (daCons (dTup (daCons (dC (.int 0)) daNil)) (daCons (dC (.int 0)) daNil))))) (daCons (dTup (daCons (dC (.str "race")) (daCons (dVar 3) (daCons (dTup (daCons (dC (.int 1)) daNil)) (daCons (dUn uNeg (dC (.int 1))) daNil))))) (daCons (dC .non) (daCons (dC (.int 0)) (daCons (dTup daNil) (daCons (dNew (dLst daNil)) (daCons dEmp (daCons (dC (.str "rule")) daNil)))))))))))))))))))))
theorem pf_law_edges : ∀ ds μ Q, sp_law_edges ds μ Q → db_law_edges (retD Q) (startD ["half", "long", "values", "own"] ds) μ := by
  rintro ds μ Q ⟨rfl, q⟩
  show db_law_edges (retD Q) [none, none, none, none] μ
  have sl : 13000024 ≤ sizeLine := by decide
  unfold db_law_edges
  refine sq fun U hU => ?_
  walk_at "ev"
  refine hU.go ?_
  clear hU
  refine sq fun U hU => ?_
  walk_at "ev"
  intro a ha
  refine (fun (key : ∀ M n l, M n = some l → μ n = none → Mu.Sub μ M → cl 6 l = true → U [some halfD, some longD, some (.cell n), none] M) => key _ _ _ Mu.upd_same ha (Mu.sub_upd ha) (by decide +kernel)) ?_
  intro M n l e1 e2 e3 e4
  have e5 := cl_len e4
  refine hU.go ?_
  clear hU
  refine sq fun U hU => ?_
  walk_at "ev"
  intro k hk
  rw [Mu.upd_ne (Mu.ne_of e1 hk), e1]
  walk_at "ev"
  refine ⟨by first | omega | (simp only [List.length_cons, List.length_nil]; omega), ?_⟩
  intro n2 hn2
  refine (fun (key : ∀ M n l, M n = some l → μ n = none → Mu.Sub μ M → cl 11 l = true → U [some halfD, some longD, some (.cell n), none] M) => key _ _ _ Mu.upd_same (none_sub (e3.trans (Mu.sub_upd hk)) hn2) ((e3.trans (Mu.sub_upd hk)).trans (Mu.sub_upd hn2)) (cl_app (n := 6) (m := 5) e4 (by decide +kernel))) ?_
  clear e1 e2 e3 e4 e5 hn2 n2 hk k
  clear M n l
  intro M n l e1 e2 e3 e4
  have e5 := cl_len e4
  refine hU.go ?_
  clear hU
  refine sq fun U hU => ?_
  walk_at "ev"
  intro k hk
  rw [Mu.upd_ne (Mu.ne_of e1 hk), e1]
  walk_at "ev"
  refine ⟨by first | omega | (simp only [List.length_cons, List.length_nil]; omega), ?_⟩
  intro n2 hn2
  refine (fun (key : ∀ M n l, M n = some l → μ n = none → Mu.Sub μ M → cl 18 l = true → U [some halfD, some longD, some (.cell n), none] M) => key _ _ _ Mu.upd_same (none_sub (e3.trans (Mu.sub_upd hk)) hn2) ((e3.trans (Mu.sub_upd hk)).trans (Mu.sub_upd hn2)) (cl_app (n := 11) (m := 7) e4 (by decide +kernel))) ?_
  clear e1 e2 e3 e4 e5 hn2 n2 hk k
  clear M n l
  intro M n l e1 e2 e3 e4
  have e5 := cl_len e4
  refine hU.go ?_
  clear hU
  refine sq fun U hU => ?_
  walk_at "ev"
  refine ⟨?_, ?_, ?_⟩
  · first | decide | exact ⟨by decide, by decide, by decide⟩ | trace_state
  · first | decide | exact ⟨by decide, by decide, by decide⟩ | trace_state
  refine ⟨⟨by decide, by decide, by decide⟩, ⟨by decide, by decide, by decide⟩, ?_⟩
  intro k hk
  rw [Mu.upd_ne (Mu.ne_of e1 hk), e1]
  walk_at "ev"
  refine ⟨by first | omega | (simp only [List.length_cons, List.length_nil]; omega), ?_⟩
  intro n2 hn2
  refine (fun (key : ∀ M n l, M n = some l → μ n = none → Mu.Sub μ M → cl 26 l = true → U [some halfD, some longD, some (.cell n), none] M) => key _ _ _ Mu.upd_same (none_sub (e3.trans (Mu.sub_upd hk)) hn2) ((e3.trans (Mu.sub_upd hk)).trans (Mu.sub_upd hn2)) (cl_app (n := 18) (m := 8) e4 (by decide +kernel))) ?_
  clear e1 e2 e3 e4 e5 hn2 n2 hk k
  clear M n l
  intro M n l e1 e2 e3 e4
  have e5 := cl_len e4
  refine hU.go ?_
  clear hU
  refine sq fun U hU => ?_
  walk_at "ev"
  refine hU.go ?_
  clear hU
  walk_at "ev"
  intro j hj
  simp -dsimp only [dEmp]
  walk_at "ev"
  intro k hk
  have hj' := (Mu.sub_upd (xs := []) hj)
  rw [Mu.upd_ne (Mu.ne_of (hj' _ _ e1) hk), hj' _ _ e1]
  walk_at "ev"
  refine ⟨by first | omega | (simp only [List.length_cons, List.length_nil]; omega), ?_⟩
  intro n2 hn2
  have S := fun xs : List D => e3.trans (hj'.trans (Mu.sub_upd (xs := xs) hk))
  refine ⟨_, Mu.Sub.refl _, q n2 _ _ Mu.upd_same (none_sub (S _) hn2) ((S _).trans (Mu.sub_upd hn2)) ?_ (List.forall_mem_append.mpr ⟨cl_all e4, ?_⟩)⟩
  · rw [List.length_append]
    simp only [List.length_cons, List.length_nil]
    omega
  · refine faL (avH (by decide +kernel)) (faL (avH (by decide +kernel)) (faL (avH (by decide +kernel)) (faL (avH (by decide +kernel)) (faL (avH (by decide +kernel)) (faL (avH (by decide +kernel)) (faL (avH (by decide +kernel)) (faL (avH (by decide +kernel)) (faL ?_ (faL (avH (by decide +kernel)) (faL (avH (by decide +kernel)) fun x hx => nomatch hx))))))))))
    exact (Av.cell (j := j) (ds := []) ((Mu.sub_upd hn2) _ _ ((Mu.sub_upd hk) _ _ Mu.upd_same)) Avs.nil).up (Nat.zero_le _) (by omega)
end K10
namespace K10
open PySem PySem.Spec PyProof.Rows L2 Dl
local macro_rules | `(tactic| walk_at "ev") => `(tactic| try simp -dsimp only [↓dSeq_at, cInt2, oIs2, oNot2, dRet, dRetN, dNext, dIfS, dAsg, dDrop, dPar, dNever, dVar, dC, dOp, dUn, dTest, dChain, dAnd, dOr, dNot, dIf, dtAnd, dtOr, dtNot, dTup, daNil, daCons, dCall, dFn, dFnK, dNew, dLst, dOf,
  gdName, gdTup, gdCons, gdNil, gdSub, rdI, rdI0, oPlus, oSub, oTimes, oDiv, oMod, oPow, oLt, oLe, oGt, oGe, oIx, oEq, oNe, uNeg, oIsN, oNotN, D.isNon, cAbs, cMax, cMin, cInt, cDivmod, cLen, tyD, items, litems, retD, sTup, mApp, dYes,
  atI_0, atI_1, atI_2, atI_3, atI_4, ixN_20, ixN_21, kit_ii, kit_ib, kit_is, kit_it, kit_il, kit_bi, kit_bb, kit_bs, kit_bt, kit_bl, kit_si, kit_sb, kit_ss, kit_st, kit_sl, kit_ti, kit_tb, kit_ts, kit_tt, kit_tl, kit_li, kit_lb, kit_ls, kit_lt, kit_ll,
  List.getElem?_cons_zero, List.getElem?_cons_succ, List.set_cons_zero, List.set_cons_succ, List.length_cons, List.length_nil, Mu.upd_same, Mu.upd_upd, Nat.zero_add, Nat.reduceAdd, Nat.reduceLeDiff, natlit, Int.reduceEq, Int.reduceLT, Int.reduceLE, Int.reduceAdd, Int.reduceSub, Int.reduceMul, Int.reducePow, Int.reduceNeg, permG2_10, permG3_210, zl_0, zl_1, zl_2, zl_3, zl_4, zl_5, zl_6, zl_7, zl_8, zl_9, zl_10, zl_11, zl_12, zl_13, zl_14, zl_15, zl_16, zl_17, zl_18, zl_19, zl_20, true_and, and_true, eq_self, not_true_eq_false, not_false_eq_true, decide_true, decide_false, if_true, Bool.false_eq_true, if_false, Bool.not_true, Bool.not_false, decide_eq_true_eq, Bool.not_eq_true', decide_eq_false_iff_not, Option.isSome, Option.map])
/-! ## asked -/
def pbs (a b c d : Bool) : PyData := .list [.bool a, .bool b, .bool c, .bool d]
theorem avp_two {μ : Mu} {x y z : Nat} {a b c d : Bool} (hx : μ x = some [.cell y, .cell z]) (hy : μ y = some [.bl a, .bl b, .bl c, .bl d]) (hz : μ z = some [.bl a, .bl b, .bl c, .bl d]) : AvP μ (.cell x) (.list [pbs a b c d, pbs a b c d]) 100 10 :=
  ⟨.cell hx (.cons (.cell hy (.cons (.bl a) (.cons (.bl b) (.cons (.bl c) (.cons (.bl d) .nil))))) (.cons (.cell hz (.cons (.bl a) (.cons (.bl b) (.cons (.bl c) (.cons (.bl d) .nil))))) .nil)),
    by simp [pbs, good, goodAll], by simp [pbs, PyData.bulk, PyData.bulkAll], by simp [pbs, PyData.depth, PyData.depthAll]⟩
theorem AvP.mono {μ μ' : Mu} {d : D} {p : PyData} {n k : Nat} (s : Mu.Sub μ μ') (h : AvP μ d p n k) : AvP μ' d p n k := ⟨h.rs.mono s, h.gd, h.bk, h.dp⟩
def sp_law_asked : DSp := fun ds μ Q => ∃ w r vs h d n k m l, ds = [.tup [w, r, .tup vs, .int h], d] ∧ ((Av μ d n k ∧ n ≤ 100000 ∧ k ≤ 60) ∧ (Av μ (.tup [w, r, .tup vs, .int h]) m l ∧ m ≤ 100000) ∧ raceB (.tup [w, r, .tup vs, .int h]) = true) ∧ Q (.bl true) μ
theorem len_law_asked : ∀ ds μ Q, sp_law_asked ds μ Q → ds.length = (["race", "value"] : List Str).length := by
  rintro ds μ Q ⟨w, r, vs, h, d, n, k, m, l, rfl, _⟩
  rfl
def db_law_asked : DTS := (dSeq (dPar 2 3 (daCons (dNew (dLst (daCons (dFn sp_law_is_rule (daCons (dVar 1) daNil)) (daCons (dFn sp_law_is_votes (daCons (dVar 1) daNil)) (daCons (dFn sp_law_is_race (daCons (dVar 1) daNil)) (daCons (dFn sp_law_is_deal (daCons (dVar 0) (daCons (dVar 1) daNil))) daNil)))))) (daCons (dCall cRepr3 (daCons (dVar 1) daNil)) daNil))) (dSeq (dAsg (dNew (dLst (daCons (dFn sp_is_rule (daCons (dVar 1) daNil)) (daCons (dFn sp_is_votes (daCons (dVar 1) daNil)) (daCons (dFn sp_is_race (daCons (dVar 1) daNil)) (daCons (dFn sp_is_deal (daCons (dVar 0) (daCons (dVar 1) daNil))) daNil)))))) (gdName 4)) (dSeq (dAsg (dNew (dLst (daCons (dFnK sp_is_rule [0] (daCons (dVar 1) daNil)) (daCons (dFnK sp_is_votes [0] (daCons (dVar 1) daNil)) (daCons (dFnK sp_is_race [0] (daCons (dVar 1) daNil)) (daCons (dFnK sp_is_deal [1, 0] (daCons (dVar 1) (daCons (dVar 0) daNil))) daNil)))))) (gdName 5)) (dRet (dAnd (dOp oEq (dCall cRepr3 (daCons (dNew (dLst (daCons (dVar 4) (daCons (dVar 5) daNil)))) daNil)) (dCall cRepr3 (daCons (dNew (dLst (daCons (dVar 2) (daCons (dVar 2) daNil)))) daNil))) (dOp oEq (dCall cRepr3 (daCons (dVar 1) daNil)) (dVar 3)))))))
theorem pf_law_asked : ∀ ds μ Q, sp_law_asked ds μ Q → db_law_asked (retD Q) (startD ["race", "value", "dues", "shown", "told", "named"] ds) μ := by
  rintro ds μ Q ⟨w, r, vs, h, d, n, k, m, l, rfl, ⟨⟨hd, hn, hk⟩, ⟨hr, hm⟩, rb⟩, q⟩
  show db_law_asked (retD Q) [some (.tup [w, r, .tup vs, .int h]), some d, none, none, none, none] μ
  have hd0 := hd
  obtain ⟨p, hp⟩ := hd0
  unfold db_law_asked
  refine sq fun U hU => ?_
  walk_at "ev"
  refine ask_lrule hd hn ?_
  walk_at "ev"
  refine ask_lvotes hd hn ?_
  walk_at "ev"
  refine ask_lrace hd hn ?_
  walk_at "ev"
  refine ask_ldeal hd hn ?_
  walk_at "ev"
  intro a ha
  have s1 := Mu.sub_upd (xs := [.bl (ruleB d), .bl (votesB d), .bl (raceB d), .bl (dealB vs.length h d)]) ha
  have f1 : (μ.upd a [.bl (ruleB d), .bl (votesB d), .bl (raceB d), .bl (dealB vs.length h d)]) a = _ := Mu.upd_same
  generalize μ.upd a [.bl (ruleB d), .bl (votesB d), .bl (raceB d), .bl (dealB vs.length h d)] = μ1 at s1 f1 ⊢
  refine ask_any (AvP.mono s1 hp) hn hk ?_
  walk_at "ev"
  refine hU.go ?_
  clear hU
  refine sq fun U hU => ?_
  walk_at "ev"
  have hd1 := hd.mono s1
  have hr1 := hr.mono s1
  refine ⟨d, n, k, rfl, ⟨hd1, hn⟩, ?_⟩
  walk_at "ev"
  refine ⟨d, n, k, rfl, ⟨hd1, hn⟩, ?_⟩
  walk_at "ev"
  refine ⟨d, n, k, rfl, ⟨hd1, hn⟩, ?_⟩
  walk_at "ev"
  refine ⟨w, r, vs, h, d, n, k, m, l, rfl, ⟨⟨hd1, hn⟩, ⟨hr1, hm⟩, rb⟩, ?_⟩
  walk_at "ev"
  intro b hb
  have s2 := Mu.sub_upd (xs := [.bl (ruleB d), .bl (votesB d), .bl (raceB d), .bl (dealB vs.length h d)]) hb
  have f2 : (μ1.upd b [.bl (ruleB d), .bl (votesB d), .bl (raceB d), .bl (dealB vs.length h d)]) b = _ := Mu.upd_same
  generalize μ1.upd b [.bl (ruleB d), .bl (votesB d), .bl (raceB d), .bl (dealB vs.length h d)] = μ2 at s2 f2 ⊢
  refine hU.go ?_
  clear hU
  refine sq fun U hU => ?_
  walk_at "ev"
  have hd2 := hd1.mono s2
  have hr2 := hr1.mono s2
  refine ⟨d, n, k, rfl, ⟨hd2, hn⟩, ?_⟩
  walk_at "ev"
  refine ⟨d, n, k, rfl, ⟨hd2, hn⟩, ?_⟩
  walk_at "ev"
  refine ⟨d, n, k, rfl, ⟨hd2, hn⟩, ?_⟩
  walk_at "ev"
  refine ⟨w, r, vs, h, d, n, k, m, l, rfl, ⟨⟨hd2, hn⟩, ⟨hr2, hm⟩, rb⟩, ?_⟩
  walk_at "ev"
  intro c hc
  have s3 := Mu.sub_upd (xs := [.bl (ruleB d), .bl (votesB d), .bl (raceB d), .bl (dealB vs.length h d)]) hc
  have f3 : (μ2.upd c [.bl (ruleB d), .bl (votesB d), .bl (raceB d), .bl (dealB vs.length h d)]) c = _ := Mu.upd_same
  generalize μ2.upd c [.bl (ruleB d), .bl (votesB d), .bl (raceB d), .bl (dealB vs.length h d)] = μ3 at s3 f3 ⊢
  refine hU.go ?_
  walk_at "ev"
  intro e he
  have s4 := Mu.sub_upd (xs := [.cell b, .cell c]) he
  have f4 : (μ3.upd e [.cell b, .cell c]) e = _ := Mu.upd_same
  generalize μ3.upd e [.cell b, .cell c] = μ4 at s4 f4 ⊢
  refine ask_any (avp_two f4 (s4 _ _ (s3 _ _ f2)) (s4 _ _ f3)) (by decide) (by decide) ?_
  walk_at "ev"
  intro f hf
  have s5 := Mu.sub_upd (xs := [.cell a, .cell a]) hf
  have f5 : (μ4.upd f [.cell a, .cell a]) f = _ := Mu.upd_same
  generalize μ4.upd f [.cell a, .cell a] = μ5 at s5 f5 ⊢
  have f1' := s5 _ _ (s4 _ _ (s3 _ _ (s2 _ _ f1)))
  refine ask_any (avp_two f5 f1' f1') (by decide) (by decide) ?_
  walk_at "ev"
  have S := s1.trans (s2.trans (s3.trans (s4.trans s5)))
  refine ask_any (AvP.mono S hp) hn hk ?_
  walk_at "ev"
  exact ⟨_, S, q⟩
end K10
namespace K10
open PySem PySem.Spec PyProof.Rows L2 Dl
local macro_rules | `(tactic| walk_at "ev") => `(tactic| try simp -dsimp only [↓dSeq_at, cInt2, oIs2, oNot2, dRet, dRetN, dNext, dIfS, dAsg, dDrop, dPar, dNever, dVar, dC, dOp, dUn, dTest, dChain, dAnd, dOr, dNot, dIf, dtAnd, dtOr, dtNot, dTup, daNil, daCons, dCall, dFn, dFnK, dNew, dLst, dOf,
  gdName, gdTup, gdCons, gdNil, gdSub, rdI, rdI0, oPlus, oSub, oTimes, oDiv, oMod, oPow, oLt, oLe, oGt, oGe, oIx, oEq, oNe, uNeg, oIsN, oNotN, D.isNon, cAbs, cMax, cMin, cInt, cDivmod, cLen, tyD, items, litems, retD, sTup, mApp, dYes,
  atI_0, atI_1, atI_2, atI_3, atI_4, ixN_20, ixN_21, kit_ii, kit_ib, kit_is, kit_it, kit_il, kit_bi, kit_bb, kit_bs, kit_bt, kit_bl, kit_si, kit_sb, kit_ss, kit_st, kit_sl, kit_ti, kit_tb, kit_ts, kit_tt, kit_tl, kit_li, kit_lb, kit_ls, kit_lt, kit_ll,
  List.getElem?_cons_zero, List.getElem?_cons_succ, List.set_cons_zero, List.set_cons_succ, List.length_cons, List.length_nil, Mu.upd_same, Mu.upd_upd, Nat.zero_add, Nat.reduceAdd, Nat.reduceLeDiff, natlit, Int.reduceEq, Int.reduceLT, Int.reduceLE, Int.reduceAdd, Int.reduceSub, Int.reduceMul, Int.reducePow, Int.reduceNeg, permG2_10, permG3_210, zl_0, zl_1, zl_2, zl_3, zl_4, zl_5, zl_6, zl_7, zl_8, zl_9, zl_10, zl_11, zl_12, zl_13, zl_14, zl_15, zl_16, zl_17, zl_18, zl_19, zl_20, true_and, and_true, eq_self, not_true_eq_false, not_false_eq_true, decide_true, decide_false, if_true, Bool.false_eq_true, if_false, Bool.not_true, Bool.not_false, decide_eq_true_eq, Bool.not_eq_true', decide_eq_false_iff_not, Option.isSome, Option.map])
/-! ## right -/
/-- kept: the pot stands, all else is as it was -/
structure Kp (μ0 : Mu) (c : Nat) (M : Mu) : Prop where
  pot : Pot M c
  sub : Mu.Sub (off μ0 c) M
theorem Kp.refl {μ : Mu} {c : Nat} (h : Pot μ c) : Kp μ c μ := ⟨h, off_sub⟩
theorem Kp.turn {μ0 M : Mu} {c : Nat} {a b : Int} (h : Kp μ0 c M) (hb : PB a b) : Kp μ0 c (M.upd c [.int a, .int b]) := ⟨pot_turn hb, off_turn h.sub⟩
theorem Kp.grow {μ0 M M' : Mu} {c : Nat} (h : Kp μ0 c M) (s : Mu.Sub M M') : Kp μ0 c M' := ⟨pot_sub h.pot s, h.sub.trans s⟩
theorem Kp.new {μ0 M : Mu} {c k : Nat} {xs : List D} (h : Kp μ0 c M) (n : M k = none) : Kp μ0 c (M.upd k xs) := h.grow (Mu.sub_upd n)
theorem Kp.ne {μ0 M : Mu} {c k : Nat} (h : Kp μ0 c M) (n : M k = none) : c ≠ k := by
  obtain ⟨_, _, e, _⟩ := h.pot
  exact Mu.ne_of e n
/-- to the memory of another that was kept -/
theorem Kp.trans {μ0 M M' : Mu} {c : Nat} (h : Kp μ0 c M) (g : Kp M c M') : Kp μ0 c M' := ⟨g.pot, fun j xs e => by
  by_cases z : j = c
  · subst z
    rw [off_self] at e
    cases e
  · refine g.sub _ _ ?_
    rw [off_ne z]
    exact h.sub _ _ e⟩
theorem Kp.at_ {M M' : Mu} {c j : Nat} {xs : List D} (g : Kp M c M') (n : j ≠ c) (e : M j = some xs) : M' j = some xs := g.sub _ _ (by rw [off_ne n]; exact e)
theorem Kp.av {M M' : Mu} {c n k : Nat} {d : D} (g : Kp M c M') (h : Av (off M c) d n k) : Av (off M' c) d n k := h.mono (off_in g.sub)
theorem Kp.end_ {μ0 M : Mu} {c : Nat} {P : Mu → Prop} (h : Kp μ0 c M) (q : Turn c μ0 P) : ∃ μ', Mu.Sub μ' M ∧ P μ' := by
  obtain ⟨a, b, e, hb⟩ := h.pot
  refine ⟨_, fun j xs q => ?_, q a b hb⟩
  by_cases z : j = c
  · subst z
    rw [Mu.upd_same] at q
    cases q
    exact e
  · rw [Mu.upd_ne z] at q
    exact h.sub _ _ (by rw [off_ne z]; exact q)
/-- a value with nothing of the memory in it -/
structure Kv (d : D) : Prop where
  pv : pv d = true
  av : ∀ ν, Av ν d 80 6
theorem kv_int {i : Int} (h : i.natAbs < 10 ^ 20) : Kv (.int i) := ⟨decide_eq_true h, fun ν => avI (by omega)⟩
theorem avs_int {ν : Mu} {n k : Nat} {vs : List Int} (h : ∀ v ∈ vs, v.natAbs < 10 ^ 20) (hn : vs.length ≤ n) : Avs ν (vs.map D.int) n k := (Avs.ints fun x hx => by have := h x hx; omega).up hn (Nat.zero_le _)
theorem pva_int : ∀ {vs : List Int}, (∀ v ∈ vs, v.natAbs < 10 ^ 20) → pvAll (vs.map D.int) = true
  | [], _ => by simp [pvAll]
  | v :: vs, h => by
    rw [List.map_cons]
    simp only [pvAll, pv, Bool.and_eq_true, decide_eq_true_eq]
    exact ⟨h v (List.mem_cons_self ..), pva_int fun x hx => h x (List.mem_cons_of_mem _ hx)⟩
theorem kv_ints {vs : List Int} (h : ∀ v ∈ vs, v.natAbs < 10 ^ 20) (hn : vs.length ≤ 20) : Kv (.tup (vs.map D.int)) :=
  ⟨by simp only [pv]; exact pva_int h, fun ν => (Av.tup (avs_int (n := 20) (k := 0) h hn)).up (by decide) (by decide)⟩
theorem kv_str {ν : Mu} {n k : Nat} : Av ν (.str "rule") 10 0 ∧ Av ν (.str "race") 10 0 := ⟨(av_of (.str "rule") (by decide +kernel)).up (by decide +kernel) (by decide +kernel), (av_of (.str "race") (by decide +kernel)).up (by decide +kernel) (by decide +kernel)⟩
theorem avs_frs {ν : Mu} : ∀ {fs : List (Int × Int)}, (∀ p ∈ fs, p.1.natAbs < 10 ^ 20 ∧ p.2.natAbs < 10 ^ 20) → Avs ν (fs.map fr) (3 * fs.length) 1
  | [], _ => Avs.nil.up (Nat.zero_le _) (Nat.zero_le _)
  | p :: fs, h => by
    have hp := h p (List.mem_cons_self ..)
    have a : Av ν (fr p) 2 1 := Av.tup ((Avs.cons (avI (n := 0) (k := 0) (by omega)) (Avs.cons (avI (n := 0) (by omega)) Avs.nil)).up (by decide) (Nat.le_refl 0))
    exact (Avs.cons a (avs_frs fun x hx => h x (List.mem_cons_of_mem _ hx))).up (by rw [List.length_cons]; omega) (Nat.le_refl _)
theorem pva_frs : ∀ {fs : List (Int × Int)}, (∀ p ∈ fs, p.1.natAbs < 10 ^ 20 ∧ p.2.natAbs < 10 ^ 20) → pvAll (fs.map fr) = true
  | [], _ => by simp [pvAll]
  | p :: fs, h => by
    have hp := h p (List.mem_cons_self ..)
    rw [List.map_cons]
    unfold fr
    simp only [pvAll, pv, Bool.and_eq_true, decide_eq_true_eq]
    exact ⟨⟨hp.1, hp.2, trivial⟩, pva_frs fun x hx => h x (List.mem_cons_of_mem _ hx)⟩
structure Rk (r : R) : Prop where
  len : r.fs.length ≤ 4
  fs : ∀ p ∈ r.fs, p.1.natAbs < 10 ^ 20 ∧ p.2.natAbs < 10 ^ 20
  top : r.top.natAbs < 10 ^ 20
  bot : r.bot.natAbs < 10 ^ 20
  ok : ruleB (enc r) = true
theorem rk_of {r : R} (h : chkR r = true) : Rk r := by
  unfold chkR okI at h
  simp only [Bool.and_eq_true, decide_eq_true_eq, List.all_eq_true] at h
  exact ⟨h.1, h.2.1, h.2.2.1, h.2.2.2.1, h.2.2.2.2⟩
theorem kv_rule {r : R} (h : Rk r) : Kv (enc r) := by
  refine ⟨?_, fun ν => ?_⟩
  · unfold enc
    simp only [pv, pvAll, Bool.and_eq_true, decide_eq_true_eq]
    exact ⟨trivial, pva_frs h.fs, h.top, h.bot, trivial⟩
  · have hl := h.len
    have a := (avs_frs (ν := ν) h.fs).up (show 3 * r.fs.length ≤ 12 by omega) (Nat.le_refl _)
    have ht := h.top
    have hb := h.bot
    refine (Av.tup (Avs.cons ((kv_str (n := 0) (k := 0)).1.up (Nat.le_refl _) (by decide)) (Avs.cons (Av.tup a) (Avs.cons (avI (n := 0) (by omega)) (Avs.cons (avI (n := 0) (by omega)) (Avs.nil.up (Nat.le_refl 0) (Nat.zero_le _))))))).up (by decide) (by decide)
theorem vok_n {vs : List Int} (h : Vok vs) : ∀ v ∈ vs, v.natAbs < 10 ^ 20 := fun v hv => by
  have := h.all v hv
  omega
theorem kv_votes {vs : List Int} (h : Vok vs) : Kv (encV vs) := kv_ints (vok_n h) (by have := h.len; omega)
theorem votes_ok {vs : List Int} (h : Vok vs) : votesB (encV vs) = true := by
  unfold encV votesB
  simp only [Bool.and_eq_true, decide_eq_true_eq, List.length_map, List.all_map, List.all_eq_true]
  refine ⟨h.len, fun v hv => ?_⟩
  have := h.all v hv
  exact decide_eq_true (by omega)
def encW (r : R) (vs : List Int) (h : Int) : D := .tup [.str "race", enc r, encV vs, .int h]
theorem kv_race {r : R} {vs : List Int} {h : Int} (hr : Rk r) (hv : Vok vs) (h0 : 0 ≤ h) (h1 : h ≤ 200) : Kv (encW r vs h) := by
  refine ⟨?_, fun ν => ?_⟩
  · unfold encW
    simp only [pv, pvAll, Bool.and_eq_true, decide_eq_true_eq]
    exact ⟨trivial, (kv_rule hr).pv, (kv_votes hv).pv, by omega, trivial⟩
  · have hl := hr.len
    have vl := hv.len
    have a := (avs_frs (ν := ν) hr.fs).up (show 3 * r.fs.length ≤ 12 by omega) (Nat.le_refl _)
    have ht := hr.top
    have hb := hr.bot
    have b : Av ν (enc r) 28 3 := (Av.tup (Avs.cons ((kv_str (n := 0) (k := 0)).1.up (Nat.le_refl _) (by decide)) (Avs.cons (Av.tup a) (Avs.cons (avI (n := 0) (by omega)) (Avs.cons (avI (n := 0) (by omega)) (Avs.nil.up (Nat.le_refl 0) (Nat.zero_le _))))))).up (by decide) (by decide)
    have e : Av ν (encV vs) 12 1 := Av.tup (avs_int (k := 0) (vok_n hv) (by omega))
    exact (Av.tup (Avs.cons ((kv_str (n := 0) (k := 0)).2.up (Nat.le_refl _) (show 0 ≤ 3 by decide)) (Avs.cons b (Avs.cons (e.up (Nat.le_refl _) (by decide)) (Avs.cons (avI (n := 0) (by omega)) (Avs.nil.up (Nat.le_refl 0) (Nat.zero_le _))))))).up (by decide) (by decide)
theorem race_ok {r : R} {vs : List Int} {h : Int} (hr : Rk r) (hv : Vok vs) (h0 : 0 ≤ h) (h1 : h ≤ 200) : raceB (encW r vs h) = true := by
  show (decide (("race" : Str) = "race") && (ruleB (enc r) && (votesB (encV vs) && decide (0 ≤ h ∧ h ≤ 200)))) = true
  rw [decide_eq_true rfl, hr.ok, votes_ok hv, decide_eq_true ⟨h0, h1⟩]
  rfl
end K10
namespace K10
open PySem PySem.Spec PyProof.Rows L2 Dl
local macro_rules | `(tactic| walk_at "ev") => `(tactic| try simp -dsimp only [↓dSeq_at, cInt2, oIs2, oNot2, dRet, dRetN, dNext, dIfS, dAsg, dDrop, dPar, dNever, dVar, dC, dOp, dUn, dTest, dChain, dAnd, dOr, dNot, dIf, dtAnd, dtOr, dtNot, dTup, daNil, daCons, dCall, dFn, dFnK, dNew, dLst, dOf,
  gdName, gdTup, gdCons, gdNil, gdSub, rdI, rdI0, oPlus, oSub, oTimes, oDiv, oMod, oPow, oLt, oLe, oGt, oGe, oIx, oEq, oNe, uNeg, oIsN, oNotN, D.isNon, cAbs, cMax, cMin, cInt, cDivmod, cLen, tyD, items, litems, retD, sTup, mApp, dYes,
  atI_0, atI_1, atI_2, atI_3, atI_4, ixN_20, ixN_21, kit_ii, kit_ib, kit_is, kit_it, kit_il, kit_bi, kit_bb, kit_bs, kit_bt, kit_bl, kit_si, kit_sb, kit_ss, kit_st, kit_sl, kit_ti, kit_tb, kit_ts, kit_tt, kit_tl, kit_li, kit_lb, kit_ls, kit_lt, kit_ll,
  List.getElem?_cons_zero, List.getElem?_cons_succ, List.set_cons_zero, List.set_cons_succ, List.length_cons, List.length_nil, Mu.upd_same, Mu.upd_upd, Nat.zero_add, Nat.reduceAdd, Nat.reduceLeDiff, natlit, Int.reduceEq, Int.reduceLT, Int.reduceLE, Int.reduceAdd, Int.reduceSub, Int.reduceMul, Int.reducePow, Int.reduceNeg, permG2_10, permG3_210, zl_0, zl_1, zl_2, zl_3, zl_4, zl_5, zl_6, zl_7, zl_8, zl_9, zl_10, zl_11, zl_12, zl_13, zl_14, zl_15, zl_16, zl_17, zl_18, zl_19, zl_20, true_and, and_true, eq_self, not_true_eq_false, not_false_eq_true, decide_true, decide_false, if_true, Bool.false_eq_true, if_false, Bool.not_true, Bool.not_false, decide_eq_true_eq, Bool.not_eq_true', decide_eq_false_iff_not, Option.isSome, Option.map])
theorem Kp.put {μ0 M M4 : Mu} {c t : Nat} {xs : List D} (h : Kp μ0 c M) (h4 : Kp μ0 c M4) (n : M4 t = none) : Kp μ0 c (M.upd t xs) := by
  have ct := h4.ne n
  obtain ⟨a, b, e, hb⟩ := h.pot
  refine ⟨⟨a, b, (Mu.upd_ne ct).trans e, hb⟩, fun j ys e => ?_⟩
  by_cases z : j = t
  · subst z
    rw [h4.sub _ _ e] at n
    cases n
  · rw [Mu.upd_ne z]
    exact h.sub _ _ e
theorem sz_le {n : Nat} (h : n ≤ 100000) : n ≤ sizeLine := by
  have sl : 13000024 ≤ sizeLine := by decide
  omega
theorem rep0 : ∀ m : Nat, (List.replicate m [D.int 0]).flatten = (List.replicate m (0 : Int)).map D.int
  | 0 => rfl
  | m + 1 => by
    rw [List.replicate_succ, List.replicate_succ, List.flatten_cons, rep0 m]
    rfl
theorem avs_cut {ν : Mu} {xs : List D} {n k : Nat} {a b : Option Int} (h : Avs ν xs n k) : Avs ν (Dl.cutD xs a b) n k := by
  unfold Dl.cutD
  exact (h.drop _).take _
theorem ask_bent {c : Nat} {d : D} {M : Mu} {Q : DK} (hp : Pot M c) (h : Kv d) (q : ∀ d' M', Kp M c M' → Av (off M' c) d' 1300 20 → Q d' M') : sp_law_bent [.cell c, d] M Q :=
  ⟨c, d, 80, 6, rfl, ⟨hp, h.av _, h.pv, by decide⟩, fun d' M' p s a => q d' M' ⟨p, s⟩ (a.up (by decide) (by decide))⟩
def sp_law_right : DSp := fun ds μ Q => ∃ c, ds = [.cell c] ∧ Pot μ c ∧ Turn c μ fun μ' => Q (.bl true) μ'
theorem len_law_right : ∀ ds μ Q, sp_law_right ds μ Q → ds.length = (["pot"] : List Str).length := by
  rintro ds μ Q ⟨c, rfl, _⟩
  rfl
def db_law_right : DTS := (dSeq (dPar 1 2 (daCons (dFn sp_law_rule (daCons (dVar 0) daNil)) (daCons (dFn sp_law_votes (daCons (dVar 0) (daCons (dOp oPlus (dC (.int 1)) (dFn sp_law_draw (daCons (dVar 0) (daCons (dC (.int 12)) daNil)))) (daCons (dC (.bl true)) daNil)))) daNil))) (dSeq (dAsg (dTup (daCons (dTup (daCons (dC (.str "race")) (daCons (dVar 1) (daCons (dVar 2) (daCons (dFn sp_law_pick (daCons (dVar 0) (daCons (dNew (dLst (daCons (dC (.int 0)) (daCons (dC (.int 1)) (daCons (dC (.int 7)) (daCons (dC (.int 200)) daNil)))))) daNil))) daNil))))) (daCons (dNew (dLst daNil)) daNil))) (gdTup 2 (gdCons (gdName 3) (gdCons (gdName 4) gdNil)))) (dSeq (dAsg (dOp oIx (dVar 3) (dC (.int 3))) (gdName 5)) (dSeq (dFor (diSeq (dSl (dVar 2) (doSome (dC (.int 1))) doNone)) (gdName 6) (dSeq (dDrop (mApp (dVar 4) (dFn sp_law_draw (daCons (dVar 0) (daCons (dOp oPlus (dVar 5) (dC (.int 1))) daNil))))) (dAsg (dOp oSub (dVar 5) (dOp oIx (dVar 4) (dUn uNeg (dC (.int 1))))) (gdName 5)))) (dSeq (dAsg (dCall (dSeq1 true sTup) (daCons (dOp oPlus (dVar 4) (dNew (dLst (daCons (dVar 5) daNil)))) daNil)) (gdName 4)) (dSeq (dAsg (dNew (dLst (daCons (dVar 1) (daCons (dVar 2) (daCons (dVar 3) (daCons (dVar 4) (daCons (dRev (dVar 4)) (daCons (dSl (dVar 4) doNone (doSome (dUn uNeg (dC (.int 1))))) (daCons (dNew (dCallF (dSeqL1 true sLst) (daCons (dVar 4) daNil))) (daCons (dOp oPlus (dVar 4) (dTup (daCons (dC (.int 0)) daNil))) (daCons (dOp oPlus (dTup (daCons (dOp oPlus (dOp oIx (dVar 3) (dC (.int 3))) (dC (.int 1))) (daCons (dUn uNeg (dC (.int 1))) daNil))) (dOp oTimes2 (dTup (daCons (dC (.int 0)) daNil)) (dCall cMax (daCons (dC (.int 0)) (daCons (dOp oSub (dCall cLen (daCons (dVar 2) daNil)) (dC (.int 2))) daNil))))) daNil))))))))))) (gdName 7)) (dSeq (dFor (diR1 (daCons (dC (.int 8)) daNil)) (gdName 8) (dAsg (dOp oPlus (dVar 7) (dNew (dLst (daCons (dFn sp_law_bent (daCons (dVar 0) (daCons (dVar 1) daNil))) (daCons (dFn sp_law_bent (daCons (dVar 0) (daCons (dVar 2) daNil))) (daCons (dFn sp_law_bent (daCons (dVar 0) (daCons (dVar 3) daNil))) (daCons (dFn sp_law_bent (daCons (dVar 0) (daCons (dVar 4) daNil))) daNil))))))) (gdName 7))) (dRet (dOf sAll (dLc (diSeq (dOp oPlus (dVar 7) (dFn sp_law_edges daNil))) (gdName 9) dYes (dFn sp_law_asked (daCons (dVar 3) (daCons (dVar 9) daNil))) [9]))))))))))
theorem pf_law_right : ∀ ds μ Q, sp_law_right ds μ Q → db_law_right (retD Q) (startD ["pot", "rule", "votes", "race", "deal", "left", "one", "values", "step", "value"] ds) μ := by
  rintro ds μ0 Q ⟨c, rfl, hp, q⟩
  show db_law_right (retD Q) [some (.cell c), none, none, none, none, none, none, none, none, none] μ0
  unfold db_law_right
  have kp0 := Kp.refl hp
  refine sq fun U hU => ?_
  walk_at "ev"
  refine ask_law_rule hp fun r hr a b hb => ?_
  have hr := rk_of hr
  have kp1 := kp0.turn hb
  generalize μ0.upd c [.int a, .int b] = μ1 at kp1 ⊢
  clear kp0 hp hb a b
  walk_at "ev"
  refine ask_draw kp1.pot (by decide) (by decide) fun n n0 n1 a b hb => ?_
  have kp2 := kp1.turn hb
  generalize μ1.upd c [.int a, .int b] = μ2 at kp2 ⊢
  clear kp1 hb a b
  walk_at "ev"
  refine ⟨c, _, rfl, ⟨kp2.pot, by omega, by omega⟩, fun vs hv ln a b hb => ?_⟩
  have kp3 := kp2.turn hb
  generalize μ2.upd c [.int a, .int b] = μ3 at kp3 ⊢
  clear kp2 hb a b
  walk_at "ev"
  refine hU.go ?_
  clear hU
  refine sq fun U hU => ?_
  walk_at "ev"
  intro s hs
  refine ask_pick kp3.pot hs ⟨Nat.succ_pos _, lt30 (n := 4)⟩ fun x hx a b hb => ?_
  obtain ⟨h, rfl, h0, h1⟩ : ∃ h : Int, x = .int h ∧ 0 ≤ h ∧ h ≤ 200 := by
    have hx : x ∈ ([0, 1, 7, 200] : List Int).map D.int := hx
    obtain ⟨h, hh, rfl⟩ := List.mem_map.mp hx
    have all : ∀ v ∈ ([0, 1, 7, 200] : List Int), 0 ≤ v ∧ v ≤ 200 := by decide
    exact ⟨h, rfl, all h hh⟩
  have kp4 := (kp3.new (xs := [.int 0, .int 1, .int 7, .int 200]) hs).turn hb
  generalize ((μ3.upd s [.int 0, .int 1, .int 7, .int 200])).upd c [.int a, .int b] = μ4 at kp4 ⊢
  clear kp3 hb a b hs s μ3 μ2 μ1
  walk_at "ev"
  intro t ht
  refine hU.go ?_
  clear hU
  have kw := kv_race (r := r) (vs := vs) hr hv h0 h1
  have kr := kv_rule hr
  have kv := kv_votes hv
  have rb := race_ok (r := r) (vs := vs) hr hv h0 h1
  refine sq fun U hU => ?_
  walk_at "ev"
  refine hU.go ?_
  clear hU
  refine sq fun U hU => ?_
  simp -dsimp only [dFor, diSeq, dSl, doSome, doNone]
  walk_at "ev"
  have ct := kp4.ne ht
  have vl := hv.len
  have kp5 := kp4.new (xs := []) ht
  show Dl.forIn ⟨Dl.cutD (vs.map D.int) (some 1) none, []⟩ _ _ _ [some (.cell c), some (enc r), some (encV vs), some (encW r vs h), some (.cell t), some (.int h), none, none, none, none] _
  rw [cut_1']
  refine ⟨fun i ρ M => ∃ ds left x6, ρ = [some (.cell c), some (enc r), some (encV vs), some (encW r vs h), some (.cell t), some (.int left), x6, none, none, none] ∧ Kp μ0 c M ∧ M t = some (ds.map D.int) ∧ ds.length = i ∧ (∀ x ∈ ds, 0 ≤ x ∧ x ≤ 200) ∧ 0 ≤ left ∧ left ≤ 200,
    ⟨[], h, none, rfl, kp5, Mu.upd_same, rfl, (fun _ hx => nomatch hx), h0, h1⟩, fun i x ρ M hi w => ⟨held_nil, ?_⟩, fun ρ M w => ⟨held_nil, ?_⟩⟩
  · obtain ⟨ds, left, x6, rfl, kp, et, dl, da, l0, l1⟩ := w
    have hi : ((vs.map D.int).drop 1)[i]? = some x := hi
    have li : i < 12 := by
      have := (List.getElem?_eq_some_iff.mp hi).1
      rw [List.length_drop, List.length_map] at this
      omega
    walk_at "ev"
    refine sq fun V hV => ?_
    walk_at "ev"
    rw [et]
    refine ⟨rfl, ?_⟩
    refine ask_draw kp.pot (by omega) (by omega) fun y y0 y1 a b hb => ?_
    have kp' := kp.turn hb
    have et' := (Mu.upd_ne (xs := [.int a, .int b]) ct.symm).trans et
    generalize M.upd c [.int a, .int b] = M2 at kp' et' ⊢
    refine ⟨_, et', sz_lt (by rw [List.length_map]; omega), ?_⟩
    walk_at "ev"
    refine hV.go ?_
    clear hV
    walk_at "ev"
    rw [last_at]
    refine ⟨ds ++ [y], left - y, _, rfl, kp'.put kp4 ht, by rw [List.map_append]; rfl, by rw [List.length_append, dl]; rfl, fun z hz => ?_, by omega, by omega⟩
    rcases List.mem_append.mp hz with hz | hz
    · exact da z hz
    · cases hz with
      | head => omega
      | tail _ hz => cases hz
  · obtain ⟨ds, left, x6, rfl, kp, et, dl, da, l0, l1⟩ := w
    have dl : ds.length = ((vs.map D.int).drop 1).length := dl
    rw [List.length_drop, List.length_map] at dl
    refine hU.go ?_
    clear hU
    refine sq fun U hU => ?_
    walk_at "ev"
    intro k hk
    rw [Mu.keep et hk]
    walk_at "ev"
    refine ⟨sz_le (by rw [List.length_map]; show ds.length + 1 ≤ _; omega), fun n hn => ?_⟩
    simp -dsimp only [dSeq1, sTup]
    walk_at "ev"
    simp -dsimp only [sitems]
    walk_at "ev"
    have kp := (kp.new (xs := [.int left]) hk).new (xs := ds.map D.int ++ [.int left]) hn
    rw [show ds.map D.int ++ [.int left] = (ds ++ [left]).map D.int by rw [List.map_append]; rfl] at kp ⊢
    have dvl : (ds ++ [left]).length ≤ 12 := by
      rw [List.length_append]
      show ds.length + 1 ≤ 12
      omega
    have dva : ∀ v ∈ ds ++ [left], v.natAbs < 10 ^ 20 := fun z hz => by
      rcases List.mem_append.mp hz with hz | hz
      · have := da z hz
        omega
      · cases hz with
        | head => omega
        | tail _ hz => cases hz
    generalize ds ++ [left] = dv at kp dvl dva ⊢
    generalize (M.upd k [.int left]).upd n (dv.map D.int) = M at kp ⊢
    have kd := kv_ints dva (by omega)
    refine hU.go ?_
    clear hU
    refine sq fun U hU => ?_
    refine (fun (key : ∀ M v xs, Kp μ0 c M → M v = some xs → v ≠ c → xs.length ≤ 9 → (∀ x ∈ xs, Av (off M c) x 1300 20) → U [some (.cell c), some (enc r), some (encV vs), some (encW r vs h), some (.tup (dv.map D.int)), some (.int left), x6, some (.cell v), none, none] M) => ?_) ?_
    · unfold encW encV
      walk_at "ev"
      simp -dsimp only [dRev, dSl, doSome, doNone, dCallF, dSeqL1, sLst]
      walk_at "ev"
      simp -dsimp only [sitems]
      walk_at "ev"
      intro k hk
      refine ⟨sz_le (by rw [List.length_map]; omega), ?_⟩
      simp -dsimp only [oTimes2]
      rw [rep0, List.length_map]
      refine ⟨⟨by omega, by omega, by show 1 ≤ 1000; decide⟩, sz_le (by rw [List.length_map, List.length_replicate]; show 2 + _ ≤ _; omega), fun v hn => ?_⟩
      have A : ∀ ν, Avs ν (dv.map D.int) 12 0 := fun ν => avs_int dva dvl
      have ck := kp.ne hk
      refine key _ v _ ((kp.new hk).new hn) Mu.upd_same ((kp.new hk).ne hn).symm (Nat.le_refl 9) ?_
      refine faL ((kr.av _).up (by decide) (by decide)) (faL ((kv.av _).up (by decide) (by decide)) (faL ((kw.av _).up (by decide) (by decide)) (faL ((kd.av _).up (by decide) (by decide)) (faL ((Av.tup (A _).rev).up (by decide) (by decide)) (faL ((Av.tup (avs_cut (A _))).up (by decide) (by decide)) (faL ?_ (faL ((Av.tup ((A _).app (Avs.cons (avI (n := 0) (by decide)) Avs.nil))).up (by decide) (by decide)) (faL ?_ fun x hx => nomatch hx))))))))
      · refine (Av.cell (j := k) (ds := dv.map D.int) ?_ (A _)).up (by decide) (by decide)
        rw [off_ne ck.symm]
        exact (Mu.sub_upd hn) _ _ Mu.upd_same
      · refine (Av.tup ((Avs.cons (avI (n := 0) (k := 0) (by omega)) (Avs.cons (avI (n := 0) (k := 0) (by decide)) Avs.nil)).app (avs_int (n := 12) (fun x hx => ?_) (by rw [List.length_replicate]; omega)))).up (by decide) (by decide)
        rw [(List.mem_replicate.mp hx).2]
        decide
    · intro M v xs kp ev vc xl xa
      refine hU.go ?_
      clear hU
      refine sq fun U hU => ?_
      simp -dsimp only [dFor, diR1]
      walk_at "ev"
      refine ⟨⟨by decide, by decide⟩, fun i ρ M => ∃ v xs x8, ρ = [some (.cell c), some (enc r), some (encV vs), some (encW r vs h), some (.tup (dv.map D.int)), some (.int left), x6, some (.cell v), x8, none] ∧ Kp μ0 c M ∧ M v = some xs ∧ v ≠ c ∧ xs.length ≤ 9 + 4 * i ∧ ∀ x ∈ xs, Av (off M c) x 1300 20,
        ⟨v, xs, none, rfl, kp, ev, vc, by omega, xa⟩, fun i x ρ M hi w => ⟨held_nil, ?_⟩, fun ρ M w => ⟨held_nil, ?_⟩⟩
      · clear kp ev vc xl xa
        obtain ⟨v, xs, x8, rfl, kp, ev, vc, xl, xa⟩ := w
        have hi : (rangeD 0 8)[i]? = some x := hi
        have li : i < 8 := by
          have := (List.getElem?_eq_some_iff.mp hi).1
          rw [rangeD_len] at this
          omega
        walk_at "ev"
        refine ask_bent kp.pot kr fun d1 M1 k1 a1 => ?_
        walk_at "ev"
        refine ask_bent k1.pot kv fun d2 M2 k2 a2 => ?_
        walk_at "ev"
        refine ask_bent k2.pot kw fun d3 M3 k3 a3 => ?_
        walk_at "ev"
        refine ask_bent k3.pot kd fun d4 M4 k4 a4 => ?_
        walk_at "ev"
        intro n hn
        have kA := ((k1.trans k2).trans k3).trans k4
        have e4 := kA.at_ vc ev
        rw [Mu.keep e4 hn]
        walk_at "ev"
        have sl : 13000024 ≤ sizeLine := by decide
        refine ⟨by first | omega | (simp only [List.length_cons, List.length_nil]; omega), fun m hm => ?_⟩
        have kpe := ((kp.trans kA).new (xs := [d1, d2, d3, d4]) hn).new (xs := xs ++ [d1, d2, d3, d4]) hm
        have S := (Mu.sub_upd (xs := [d1, d2, d3, d4]) hn).trans (Mu.sub_upd (xs := xs ++ [d1, d2, d3, d4]) hm)
        have O : Mu.Sub (off M4 c) (off ((M4.upd n [d1, d2, d3, d4]).upd m (xs ++ [d1, d2, d3, d4])) c) := off_in (off_sub.trans S)
        refine ⟨m, _, _, rfl, kpe, Mu.upd_same, (((kp.trans kA).new (xs := [d1, d2, d3, d4]) hn).ne hm).symm, ?_, List.forall_mem_append.mpr ⟨fun z hz => (kA.av (xa z hz)).mono O, ?_⟩⟩
        · rw [List.length_append]
          show xs.length + 4 ≤ _
          omega
        · exact faL ((k4.av (k3.av (k2.av a1))).mono O) (faL ((k4.av (k3.av a2)).mono O) (faL ((k4.av a3).mono O) (faL (a4.mono O) fun x hx => nomatch hx)))
      · clear kp ev vc xl xa
        obtain ⟨v, xs, x8, rfl, kp, ev, vc, xl, xa⟩ := w
        have xl : xs.length ≤ 9 + 4 * (rangeD 0 8).length := xl
        rw [rangeD_len] at xl
        refine hU.go ?_
        clear hU
        walk_at "ev"
        simp -dsimp only [dLc, diSeq]
        walk_at "ev"
        refine ⟨rfl, fun j M2 ys ej nj S yl ya => ?_⟩
        walk_at "ev"
        rw [S _ _ ev, ej]
        walk_at "ev"
        refine ⟨sz_le (by omega), fun n hn => ?_⟩
        simp -dsimp only [lsrc]
        rw [Mu.upd_same]
        have kpe := (kp.grow S).new (xs := xs ++ ys) hn
        have S2 := Mu.sub_upd (xs := xs ++ ys) hn
        refine lc_sub (fun _ => .bl true) (held_one Mu.upd_same) (by rw [List.length_append]; omega) (fun z hz μ' Qy sb q2 => ?_) ?_
        · simp -dsimp only [wipeD]
          walk_at "ev"
          refine ⟨.str "race", enc r, vs.map D.int, h, z, 1300, 20, 80, 6, rfl, ⟨⟨?_, by decide, by decide⟩, ⟨kw.av _, by decide⟩, rb⟩, q2⟩
          rcases List.mem_append.mp hz with hz | hz
          · exact (xa z hz).mono (off_sub.trans (S.trans (S2.trans sb)))
          · exact ((ya z hz).up (by decide) (by decide)).mono (S2.trans sb)
        · refine sAll_map (b := fun _ => true) ?_
          rw [all_yes]
          exact kpe.end_ q
end K10
namespace K10
open PySem PySem.Spec PyProof.Rows L2 Dl
local macro_rules | `(tactic| walk_at "ev") => `(tactic| try simp -dsimp only [↓dSeq_at, dRet, dRetN, dNext, dIfS, dAsg, dDrop, dPar, dNever, dVar, dC, dOp, dUn, dTest, dChain, dAnd, dOr, dNot, dIf, dtAnd, dtOr, dtNot, dTup, daNil, daCons, dCall, dFn, dFnK, dNew, dLst, dOf,
  gdName, gdTup, gdCons, gdNil, gdSub, rdI, rdI0, oPlus, oSub, oTimes, oDiv, oMod, oPow, oLt, oLe, oGt, oGe, oIx, oEq, oNe, uNeg, oIsN, oNotN, D.isNon, cAbs, cMax, cMin, cInt, cDivmod, cLen, tyD, items, litems, retD, sTup, mApp, dYes,
  atI_0, atI_1, atI_2, atI_3, atI_4, ixN_20, ixN_21, kit_ii, kit_ib, kit_is, kit_it, kit_il, kit_bi, kit_bb, kit_bs, kit_bt, kit_bl, kit_si, kit_sb, kit_ss, kit_st, kit_sl, kit_ti, kit_tb, kit_ts, kit_tt, kit_tl, kit_li, kit_lb, kit_ls, kit_lt, kit_ll,
  List.getElem?_cons_zero, List.getElem?_cons_succ, List.set_cons_zero, List.set_cons_succ, List.length_cons, List.length_nil, Mu.upd_same, Mu.upd_upd, Nat.zero_add, Nat.reduceAdd, Nat.reduceLeDiff, natlit, Int.reduceEq, Int.reduceLT, Int.reduceLE, Int.reduceAdd, Int.reduceSub, Int.reduceMul, Int.reducePow, Int.reduceNeg, permG2_10, permG3_210, zl_0, zl_1, zl_2, zl_3, zl_4, zl_5, zl_6, zl_7, zl_8, zl_9, zl_10, zl_11, zl_12, zl_13, zl_14, zl_15, zl_16, zl_17, zl_18, zl_19, zl_20, true_and, and_true, eq_self, not_true_eq_false, not_false_eq_true, decide_true, decide_false, if_true, Bool.false_eq_true, if_false, Bool.not_true, Bool.not_false, decide_eq_true_eq, Bool.not_eq_true', decide_eq_false_iff_not, Option.isSome, Option.map])
def sp_law : DSp := fun ds μ Q => ∃ ns : List Int, ds = [.frz (ns.map D.int)] ∧ ns.length ≤ 63 ∧ Q (.bl true) μ
theorem len_law : ∀ ds μ Q, sp_law ds μ Q → ds.length = (["script"] : List Str).length := by
  rintro ds μ Q ⟨ns, rfl, _⟩
  rfl
def db_law : DTS := (dRet (dOf sAll (dLc (diR1 (daCons (dCall cMax (daCons (dC (.int 1)) (daCons (dCall cMin (daCons (dC (.int 3)) (daCons (dCall cLen (daCons (dVar 0) daNil)) daNil))) daNil))) daNil)) (gdName 1) dYes (dFn sp_law_right (daCons (dFn sp_law_pot (daCons (dVar 0) (daCons (dVar 1) daNil))) daNil)) [1])))
theorem pf_law : ∀ ds μ Q, sp_law ds μ Q → db_law (retD Q) (startD ["script", "k"] ds) μ := by
  rintro ds μ Q ⟨ns, rfl, hn, h⟩
  show db_law (retD Q) [some (.frz (ns.map D.int)), none] μ
  unfold db_law
  walk_at "ev"
  simp -dsimp only [dLc, diR1]
  walk_at "ev"
  rw [List.length_map]
  refine ⟨⟨by omega, by omega⟩, ?_⟩
  refine lc_grow (fun _ => .bl true) held_nil (by show (rangeD _ _).length ≤ _; rw [rangeD_len]; omega) (fun x hx μ' Qy hd q => ?_) ?_
  · obtain ⟨i, hi, rfl⟩ := List.mem_map.mp hx
    have hi := List.mem_range.mp hi
    simp -dsimp only [wipeD]
    walk_at "ev"
    refine ⟨ns, _, rfl, ⟨by omega, by omega⟩, fun c hc => ?_⟩
    intro a b hp
    refine ⟨c, rfl, ⟨a, b, Mu.upd_same, hp⟩, ?_⟩
    intro a b hp
    refine q _ ?_
    rw [Mu.upd_upd]
    exact Mu.sub_upd hc
  · refine sAll_map (b := fun _ => true) ?_
    rw [show ∀ l : List D, l.all (fun _ => true) = true from fun l => by induction l with | nil => rfl | cons a l ih => exact ih]
    exact ⟨_, Mu.Sub.refl _, h⟩
end K10
namespace K10
open PySem PySem.Spec PyProof.Rows L2 Dl
structure Bt (mg : Str → Option Value) : Prop where
  z_abs : mg "abs" = none
  z_all : mg "all" = none
  z_bool : mg "bool" = none
  z_divmod : mg "divmod" = none
  z_enumerate : mg "enumerate" = none
  z_int : mg "int" = none
  z_isinstance : mg "isinstance" = none
  z_len : mg "len" = none
  z_list : mg "list" = none
  z_max : mg "max" = none
  z_min : mg "min" = none
  z_range : mg "range" = none
  z_repr : mg "repr" = none
  z_str : mg "str" = none
  z_sum : mg "sum" = none
  z_tuple : mg "tuple" = none
  z_zip : mg "zip" = none
structure Ct (K : PySem.W.Frag) (mg : Str → Option Value) : Prop where
  c_MOST_BOTTOM : Gc K mg "MOST_BOTTOM" (.int 999)
  c_MOST_FIRSTS : Gc K mg "MOST_FIRSTS" (.int 4)
  c_MOST_HOUSE : Gc K mg "MOST_HOUSE" (.int 200)
  c_MOST_LISTS : Gc K mg "MOST_LISTS" (.int 12)
  c_MOST_VOTES : Gc K mg "MOST_VOTES" (.int 1000000000)
  c_RACE : Gc K mg "RACE" (.str "race")
  c_RULE : Gc K mg "RULE" (.str "rule")
section
variable {P : Program} {w : World} {K : PySem.W.Frag} {mg : Str → Option Value} {base : Heap}
theorem sc_is_integer : FnScope ["value"] ["value"] (defScope S_is_integer) := ⟨rfl, rfl, rfl, by decide +kernel, rfl, by decide +kernel, by decide +kernel⟩
theorem has_is_integer (B : Bt mg)  (T : Txt K mg "is_integer" S_is_integer) : Has P w K mg base 1 "is_integer" S_is_integer ["value"] sp_is_integer :=
  T.has sc_is_integer len_is_integer fun f cdv A outer s H hr hgd => ⟨db_is_integer,
    (dss_one (ds_ret (de_and (de_callB c_isi B.z_isinstance bt_isinstance (da_cons (de_var 0) (da_cons (de_ty B.z_int bt_int) da_nil))) (de_one (de_not (de_callB c_isi B.z_isinstance bt_isinstance (da_cons (de_var 0) (da_cons (de_ty B.z_bool bt_bool) da_nil)))))))),
    pf_is_integer⟩
theorem sc_is_tuple : FnScope ["value", "many"] ["value", "many"] (defScope S_is_tuple) := ⟨rfl, rfl, rfl, by decide +kernel, rfl, by decide +kernel, by decide +kernel⟩
theorem has_is_tuple (B : Bt mg)  (T : Txt K mg "is_tuple" S_is_tuple) : Has P w K mg base 1 "is_tuple" S_is_tuple ["value", "many"] sp_is_tuple :=
  T.has sc_is_tuple len_is_tuple fun f cdv A outer s H hr hgd => ⟨db_is_tuple,
    (dss_one (ds_ret (de_and (de_callB c_isi B.z_isinstance bt_isinstance (da_cons (de_var 0) (da_cons (de_ty B.z_tuple bt_tuple) da_nil))) (de_one (de_cmp (o_eq hr.units) (de_callB c_len B.z_len bt_len (da_cons (de_var 0) da_nil)) (de_var 1)))))),
    pf_is_tuple⟩
theorem sc_common : FnScope ["near", "far"] ["near", "far"] (defScope S_common) := ⟨rfl, rfl, rfl, by decide +kernel, rfl, by decide +kernel, by decide +kernel⟩
theorem has_common (B : Bt mg)  (T : Txt K mg "common" S_common) : Has P w K mg base 1 "common" S_common ["near", "far"] sp_common :=
  T.has sc_common len_common fun f cdv A outer s H hr hgd => ⟨db_common,
    (dss_cons (ds_while (dt_cmp o_gt (de_var 1) de_int) (dss_one (ds_par 0 1 sc_common.nd (da_cons (de_var 1) (da_cons (de_op o_mod (de_callTy c_int2 B.z_int bt_int (da_cons (de_var 0) da_nil)) (de_var 1)) da_nil))))) (dss_one (ds_ret (de_callB (c_max rfl) B.z_max bt_max (da_cons de_int (da_cons (de_var 0) da_nil)))))),
    pf_common⟩
theorem sc_is_less : FnScope ["near", "far"] ["near", "far"] (defScope S_is_less) := ⟨rfl, rfl, rfl, by decide +kernel, rfl, by decide +kernel, by decide +kernel⟩
theorem has_is_less  (T : Txt K mg "is_less" S_is_less) : Has P w K mg base 1 "is_less" S_is_less ["near", "far"] sp_is_less :=
  T.has sc_is_less len_is_less fun f cdv A outer s H hr hgd => ⟨db_is_less,
    (dss_one (ds_ret (de_cmp o_lt (de_op o_times (de_ix (de_var 0) de_int) (de_ix (de_var 1) de_int)) (de_op o_times (de_ix (de_var 1) de_int) (de_ix (de_var 0) de_int))))),
    pf_is_less⟩
theorem sc_is_at_most : FnScope ["near", "far"] ["near", "far"] (defScope S_is_at_most) := ⟨rfl, rfl, rfl, by decide +kernel, rfl, by decide +kernel, by decide +kernel⟩
theorem has_is_at_most  (T : Txt K mg "is_at_most" S_is_at_most) : Has P w K mg base 1 "is_at_most" S_is_at_most ["near", "far"] sp_is_at_most :=
  T.has sc_is_at_most len_is_at_most fun f cdv A outer s H hr hgd => ⟨db_is_at_most,
    (dss_one (ds_ret (de_cmp o_le (de_op o_times (de_ix (de_var 0) de_int) (de_ix (de_var 1) de_int)) (de_op o_times (de_ix (de_var 1) de_int) (de_ix (de_var 0) de_int))))),
    pf_is_at_most⟩
theorem sc_law_pot : FnScope ["script", "k", "cell"] ["script", "k"] (defScope S_law_pot) := ⟨rfl, rfl, rfl, by decide +kernel, rfl, by decide +kernel, by decide +kernel⟩
theorem has_law_pot (B : Bt mg)  (T : Txt K mg "_law_pot" S_law_pot) : Has P w K mg base 1 "_law_pot" S_law_pot ["script", "k"] sp_law_pot :=
  T.has sc_law_pot len_law_pot fun f cdv A outer s H hr hgd => ⟨db_law_pot,
    (dss_cons (ds_asg (de_if (dt_cmp o_lt (de_var 1) (de_callB c_len B.z_len bt_len (da_cons (de_var 0) da_nil))) (de_callB c_abs B.z_abs bt_abs (da_cons (de_ix (de_var 0) (de_var 1)) da_nil)) (de_op o_plus (de_op o_times de_int (de_var 1)) de_int)) (dg_name 2 sc_law_pot.nd)) (dss_one (ds_ret (de_new (dl_lst (da_cons (de_callB (c_max rfl) B.z_max bt_max (da_cons de_int (da_cons (de_op o_sub (de_var 2) (de_op o_pow de_int de_int)) da_nil))) (da_cons (de_op o_plus (de_op o_mod (de_callTy c_int2 B.z_int bt_int (da_cons (de_op o_plus (de_op o_plus (de_op o_times (de_op o_mod (de_callTy c_int2 B.z_int bt_int (da_cons (de_var 2) da_nil)) de_int) de_int) (de_op o_times de_int (de_var 1))) de_int) da_nil)) de_int) de_int) da_nil))))))),
    pf_law_pot⟩
theorem sc_law_draw : FnScope ["pot", "many", "digit"] ["pot", "many"] (defScope S_law_draw) := ⟨rfl, rfl, rfl, by decide +kernel, rfl, by decide +kernel, by decide +kernel⟩
theorem has_law_draw (B : Bt mg)  (T : Txt K mg "_law_draw" S_law_draw) : Has P w K mg base 1 "_law_draw" S_law_draw ["pot", "many"] sp_law_draw :=
  T.has sc_law_draw len_law_draw fun f cdv A outer s H hr hgd => ⟨db_law_draw,
    (dss_cons (ds_if (dt_cmp o_gt (de_ix (de_var 0) de_int) de_int) (dss_cons (ds_asg (de_callB c_divmod B.z_divmod bt_divmod (da_cons (de_ix (de_var 0) de_int) (da_cons (de_var 1) da_nil))) (dg_tup (dgs_cons (dg_sub (de_var 0) de_int) (dgs_cons (dg_name 2 sc_law_draw.nd) dgs_nil)))) (dss_one (ds_ret (de_var 2)))) dss_nil) (dss_cons (ds_asg (de_op o_mod (de_callTy c_int2 B.z_int bt_int (da_cons (de_op o_plus (de_op o_times (de_ix (de_var 0) de_int) de_int) de_int) da_nil)) de_int) (dg_sub (de_var 0) de_int)) (dss_one (ds_ret (de_op o_mod (de_callTy c_int2 B.z_int bt_int (da_cons (de_op o_div (de_op o_mod (de_callTy c_int2 B.z_int bt_int (da_cons (de_op o_times (de_ix (de_var 0) de_int) (de_ix (de_var 0) de_int)) da_nil)) de_int) de_int) da_nil)) (de_var 1)))))),
    pf_law_draw⟩
theorem sc_law_divisor : FnScope ["near", "far"] ["near", "far"] (defScope S_law_divisor) := ⟨rfl, rfl, rfl, by decide +kernel, rfl, by decide +kernel, by decide +kernel⟩
theorem has_law_divisor (B : Bt mg)  (T : Txt K mg "_law_divisor" S_law_divisor) : Has P w K mg base 1 "_law_divisor" S_law_divisor ["near", "far"] sp_law_divisor :=
  T.has sc_law_divisor len_law_divisor fun f cdv A outer s H hr hgd => ⟨db_law_divisor,
    (dss_cons (ds_while (dt_cmp o_gt (de_var 1) de_int) (dss_one (ds_par 0 1 sc_law_divisor.nd (da_cons (de_var 1) (da_cons (de_callTy c_int2 B.z_int bt_int (da_cons (de_op o_mod (de_var 0) (de_var 1)) da_nil)) da_nil))))) (dss_one (ds_ret (de_callB (c_max rfl) B.z_max bt_max (da_cons de_int (da_cons (de_var 0) da_nil)))))),
    pf_law_divisor⟩
theorem sc_law_below : FnScope ["near", "far"] ["near", "far"] (defScope S_law_below) := ⟨rfl, rfl, rfl, by decide +kernel, rfl, by decide +kernel, by decide +kernel⟩
theorem has_law_below  (T : Txt K mg "_law_below" S_law_below) : Has P w K mg base 1 "_law_below" S_law_below ["near", "far"] sp_law_below :=
  T.has sc_law_below len_law_below fun f cdv A outer s H hr hgd => ⟨db_law_below,
    (dss_one (ds_ret (de_cmp o_lt (de_op o_times (de_ix (de_var 0) de_int) (de_ix (de_var 1) de_int)) (de_op o_times (de_ix (de_var 1) de_int) (de_ix (de_var 0) de_int))))),
    pf_law_below⟩
theorem sc_law_is_whole : FnScope ["value", "least", "most"] ["value", "least", "most"] (defScope S_law_is_whole) := ⟨rfl, rfl, rfl, by decide +kernel, rfl, by decide +kernel, by decide +kernel⟩
theorem has_law_is_whole (B : Bt mg)  (T : Txt K mg "_law_is_whole" S_law_is_whole) : Has P w K mg base 1 "_law_is_whole" S_law_is_whole ["value", "least", "most"] sp_law_is_whole :=
  T.has sc_law_is_whole len_law_is_whole fun f cdv A outer s H hr hgd => ⟨db_law_is_whole,
    (dss_one (ds_ret (de_and (de_callB c_isi B.z_isinstance bt_isinstance (da_cons (de_var 0) (da_cons (de_ty B.z_int bt_int) da_nil))) (de_and (de_not (de_callB c_isi B.z_isinstance bt_isinstance (da_cons (de_var 0) (da_cons (de_ty B.z_bool bt_bool) da_nil)))) (de_one (de_chain o_le o_le (de_var 1) (de_var 0) (de_var 2))))))),
    pf_law_is_whole⟩
theorem sc_law_edges : FnScope ["half", "long", "values", "own"] [] (defScope S_law_edges) := ⟨rfl, rfl, rfl, by decide +kernel, rfl, by decide +kernel, by decide +kernel⟩
theorem has_law_edges  (T : Txt K mg "_law_edges" S_law_edges) : Has P w K mg base 1 "_law_edges" S_law_edges [] sp_law_edges :=
  T.has sc_law_edges len_law_edges fun f cdv A outer s H hr hgd => ⟨db_law_edges,
    (dss_cons (ds_asg (de_tup (da_cons (de_tup (da_cons (de_tup (da_cons de_int (da_cons de_int da_nil))) (da_cons (de_tup (da_cons de_int (da_cons de_int da_nil))) (da_cons (de_tup (da_cons de_int (da_cons de_int da_nil))) (da_cons (de_tup (da_cons de_int (da_cons de_int da_nil))) da_nil))))) (da_cons (de_tup (da_cons (de_tup (da_cons de_int (da_cons de_int da_nil))) (da_cons (de_tup (da_cons de_int (da_cons de_int da_nil))) (da_cons (de_tup (da_cons de_int (da_cons de_int da_nil))) (da_cons (de_tup (da_cons de_int (da_cons de_int da_nil))) (da_cons (de_tup (da_cons de_int (da_cons de_int da_nil))) da_nil)))))) da_nil))) (dg_tup (dgs_cons (dg_name 0 sc_law_edges.nd) (dgs_cons (dg_name 1 sc_law_edges.nd) dgs_nil)))) (dss_cons (ds_asg (de_new (dl_lst (da_cons (de_tup (da_cons de_str (da_cons (de_var 0) (da_cons de_int (da_cons de_int da_nil))))) (da_cons (de_tup (da_cons de_str (da_cons (de_var 1) (da_cons de_int (da_cons de_int da_nil))))) (da_cons (de_tup (da_cons de_str (da_cons (de_tup (da_cons (de_tup (da_cons de_int (da_cons de_int da_nil))) da_nil)) (da_cons de_int (da_cons de_int da_nil))))) (da_cons (de_tup (da_cons de_str (da_cons (de_tup (da_cons (de_tup (da_cons de_int (da_cons de_int da_nil))) da_nil)) (da_cons de_int (da_cons de_int da_nil))))) (da_cons (de_tup (da_cons de_str (da_cons (de_tup da_nil) (da_cons de_int (da_cons de_int da_nil))))) (da_cons (de_tup (da_cons de_str (da_cons (de_tup da_nil) (da_cons de_int (da_cons de_int da_nil))))) da_nil)))))))) (dg_name 2 sc_law_edges.nd)) (dss_cons (ds_asg (de_op o_plus (de_var 2) (de_new (dl_lst (da_cons (de_tup (da_cons de_str (da_cons (de_tup (da_cons (de_tup (da_cons de_int (da_cons de_int da_nil))) da_nil)) (da_cons de_int (da_cons de_int da_nil))))) (da_cons (de_tup (da_cons de_str (da_cons (de_tup (da_cons (de_tup (da_cons de_int (da_cons de_int da_nil))) da_nil)) (da_cons de_int (da_cons de_int da_nil))))) (da_cons (de_tup (da_cons de_str (da_cons (de_tup (da_cons (de_tup (da_cons de_int (da_cons de_int da_nil))) da_nil)) (da_cons de_int (da_cons de_int da_nil))))) (da_cons (de_tup (da_cons de_str (da_cons (de_tup (da_cons (de_tup (da_cons de_int (da_cons de_int da_nil))) da_nil)) (da_cons de_int (da_cons de_int da_nil))))) (da_cons (de_tup (da_cons de_str (da_cons (de_tup (da_cons (de_tup (da_cons de_int (da_cons de_int da_nil))) (da_cons (de_tup (da_cons de_int (da_cons de_int da_nil))) da_nil))) (da_cons de_int (da_cons de_int da_nil))))) da_nil)))))))) (dg_name 2 sc_law_edges.nd)) (dss_cons (ds_asg (de_op o_plus (de_var 2) (de_new (dl_lst (da_cons (de_tup (da_cons de_str (da_cons (de_tup (da_cons (de_tup (da_cons de_int (da_cons de_int da_nil))) da_nil)) (da_cons de_int (da_cons de_int da_nil))))) (da_cons (de_tup (da_cons de_str (da_cons (de_tup da_nil) (da_cons de_int (da_cons de_int da_nil))))) (da_cons (de_tup (da_cons de_str (da_cons (de_tup da_nil) (da_cons de_int (da_cons de_int da_nil))))) (da_cons (de_tup (da_cons de_str (da_cons (de_tup da_nil) (da_cons (de_neg de_int) (da_cons de_int da_nil))))) (da_cons (de_tup (da_cons de_str (da_cons (de_tup da_nil) (da_cons de_int (da_cons de_int da_nil))))) (da_cons (de_tup (da_cons de_str (da_cons (de_tup da_nil) (da_cons de_int (da_cons de_int da_nil))))) (da_cons (de_tup (da_cons de_str (da_cons (de_tup da_nil) (da_cons de_int (da_cons de_int da_nil))))) da_nil)))))))))) (dg_name 2 sc_law_edges.nd)) (dss_cons (ds_asg (de_op o_plus (de_var 2) (de_new (dl_lst (da_cons (de_tup (da_cons de_str (da_cons (de_tup (da_cons (de_tup (da_cons de_int (da_cons de_int da_nil))) (da_cons (de_tup (da_cons de_int (da_cons de_int da_nil))) da_nil))) (da_cons de_int (da_cons de_int da_nil))))) (da_cons (de_tup (da_cons de_str (da_cons (de_tup (da_cons (de_tup (da_cons de_int (da_cons de_int da_nil))) (da_cons (de_tup (da_cons de_int (da_cons de_int da_nil))) da_nil))) (da_cons de_int (da_cons de_int da_nil))))) (da_cons (de_tup (da_cons de_str (da_cons (de_tup (da_cons (de_tup (da_cons de_int (da_cons de_int da_nil))) (da_cons (de_tup (da_cons de_int (da_cons de_int da_nil))) da_nil))) (da_cons de_int (da_cons de_int da_nil))))) (da_cons (de_op o_times2 (de_tup (da_cons de_int da_nil)) de_int) (da_cons (de_op o_times2 (de_tup (da_cons de_int da_nil)) de_int) (da_cons (de_tup (da_cons (de_op o_pow de_int de_int) da_nil)) (da_cons (de_tup (da_cons (de_op o_plus (de_op o_pow de_int de_int) de_int) da_nil)) (da_cons (de_tup (da_cons de_bl da_nil)) da_nil))))))))))) (dg_name 2 sc_law_edges.nd)) (dss_cons (ds_asg (de_tup (da_cons de_str (da_cons (de_tup da_nil) (da_cons de_int (da_cons de_int da_nil))))) (dg_name 3 sc_law_edges.nd)) (dss_one (ds_ret (de_op o_plus (de_var 2) (de_new (dl_lst (da_cons (de_tup (da_cons de_str (da_cons (de_var 3) (da_cons (de_tup (da_cons de_int da_nil)) (da_cons de_int da_nil))))) (da_cons (de_tup (da_cons de_str (da_cons (de_var 3) (da_cons (de_tup (da_cons de_int da_nil)) (da_cons de_int da_nil))))) (da_cons (de_tup (da_cons de_str (da_cons (de_var 3) (da_cons (de_tup da_nil) (da_cons de_int da_nil))))) (da_cons (de_tup (da_cons de_str (da_cons (de_var 3) (da_cons (de_tup (da_cons de_int da_nil)) (da_cons de_int da_nil))))) (da_cons (de_tup (da_cons de_str (da_cons (de_var 3) (da_cons (de_tup (da_cons de_int da_nil)) (da_cons (de_neg de_int) da_nil))))) (da_cons de_non (da_cons de_int (da_cons (de_tup da_nil) (da_cons (de_new (dl_lst da_nil)) (da_cons de_emp (da_cons de_str da_nil)))))))))))))))))))))),
    pf_law_edges⟩
theorem sc_is_within : FnScope ["value", "least", "most"] ["value", "least", "most"] (defScope S_is_within) := ⟨rfl, rfl, rfl, by decide +kernel, rfl, by decide +kernel, by decide +kernel⟩
theorem has_is_within (h_is_integer : Has P w K mg base 1 "is_integer" S_is_integer ["value"] sp_is_integer) (T : Txt K mg "is_within" S_is_within) : Has P w K mg base 2 "is_within" S_is_within ["value", "least", "most"] sp_is_within :=
  T.has sc_is_within len_is_within fun f cdv A outer s H hr hgd => ⟨db_is_within,
    (dss_one (ds_ret (de_and (de_fn h_is_integer (hr.mono (by decide)) hgd (da_cons (de_var 0) da_nil) (fun _ _ _ _ _ _ us ws h1 h2 => match us, ws, h1, h2 with | [_], [], _, _ => ⟨rfl, rfl⟩)) (de_one (de_chain o_le o_le (de_var 1) (de_var 0) (de_var 2)))))),
    pf_is_within⟩
theorem sc_is_count : FnScope ["value"] ["value"] (defScope S_is_count) := ⟨rfl, rfl, rfl, by decide +kernel, rfl, by decide +kernel, by decide +kernel⟩
theorem has_is_count (h_is_integer : Has P w K mg base 1 "is_integer" S_is_integer ["value"] sp_is_integer) (T : Txt K mg "is_count" S_is_count) : Has P w K mg base 2 "is_count" S_is_count ["value"] sp_is_count :=
  T.has sc_is_count len_is_count fun f cdv A outer s H hr hgd => ⟨db_is_count,
    (dss_one (ds_ret (de_and (de_fn h_is_integer (hr.mono (by decide)) hgd (da_cons (de_var 0) da_nil) (fun _ _ _ _ _ _ us ws h1 h2 => match us, ws, h1, h2 with | [_], [], _, _ => ⟨rfl, rfl⟩)) (de_one (de_cmp o_ge (de_var 0) de_int))))),
    pf_is_count⟩
theorem sc_lowest : FnScope ["top", "bottom", "many"] ["top", "bottom"] (defScope S_lowest) := ⟨rfl, rfl, rfl, by decide +kernel, rfl, by decide +kernel, by decide +kernel⟩
theorem has_lowest (B : Bt mg) (h_common : Has P w K mg base 1 "common" S_common ["near", "far"] sp_common) (T : Txt K mg "lowest" S_lowest) : Has P w K mg base 2 "lowest" S_lowest ["top", "bottom"] sp_lowest :=
  T.has sc_lowest len_lowest fun f cdv A outer s H hr hgd => ⟨db_lowest,
    (dss_cons (ds_asg (de_fn h_common (hr.mono (by decide)) hgd (da_cons (de_callB c_abs B.z_abs bt_abs (da_cons (de_var 0) da_nil)) (da_cons (de_var 1) da_nil)) (fun _ _ _ _ _ _ us ws h1 h2 => match us, ws, h1, h2 with | [_, _], [], _, _ => ⟨rfl, rfl⟩)) (dg_name 2 sc_lowest.nd)) (dss_one (ds_ret (de_tup (da_cons (de_op o_div (de_var 0) (de_var 2)) (da_cons (de_op o_div (de_var 1) (de_var 2)) da_nil)))))),
    pf_lowest⟩
theorem sc_is_fraction_any : FnScope ["value", "one"] ["value"] (defScope S_is_fraction_any) := ⟨rfl, rfl, rfl, by decide +kernel, rfl, by decide +kernel, by decide +kernel⟩
theorem has_is_fraction_any (B : Bt mg) (h_is_tuple : Has P w K mg base 1 "is_tuple" S_is_tuple ["value", "many"] sp_is_tuple) (h_is_integer : Has P w K mg base 1 "is_integer" S_is_integer ["value"] sp_is_integer) (h_common : Has P w K mg base 1 "common" S_common ["near", "far"] sp_common) (T : Txt K mg "is_fraction_any" S_is_fraction_any) : Has P w K mg base 2 "is_fraction_any" S_is_fraction_any ["value"] sp_is_fraction_any :=
  T.has sc_is_fraction_any len_is_fraction_any fun f cdv A outer s H hr hgd => ⟨db_is_fraction_any,
    (dss_cons (ds_if (PWD.pt (dw_or (dt_not (dt_val (de_fn h_is_tuple (hr.mono (by decide)) hgd (da_cons (de_var 0) (da_cons de_int da_nil)) (fun _ _ _ _ _ _ us ws h1 h2 => match us, ws, h1, h2 with | [_, _], [], _, _ => ⟨rfl, rfl⟩)))) (dw_or (dt_not (dt_val (de_ofB (s_all rfl) B.z_all bt_all (dl_lc [("one", 1)] sc_is_fraction_any.nd (di_seq (de_var 0)) (own_name 1 fun _ _ _ _ _ => pg_name sc_is_fraction_any.nd rfl (by first | exact Or.inl rfl | exact Or.inr rfl | exact Or.inr (Or.inl rfl))) (fun _ _ _ _ _ => dts_nil) (fun _ _ _ _ _ => (de_fn h_is_integer (hr.mono (by decide)) hgd (da_cons (de_var 1) da_nil) (fun _ _ _ _ _ _ us ws h1 h2 => match us, ws, h1, h2 with | [_], [], _, _ => ⟨rfl, rfl⟩))))))) (dw_or1 (dt_cmp o_lt (de_ix (de_var 0) de_int) de_int))))) (dss_one (ds_ret de_bl)) dss_nil) (dss_one (ds_ret (de_cmp (o_eq hr.units) (de_fn h_common (hr.mono (by decide)) hgd (da_cons (de_callB c_abs B.z_abs bt_abs (da_cons (de_ix (de_var 0) de_int) da_nil)) (da_cons (de_ix (de_var 0) de_int) da_nil)) (fun _ _ _ _ _ _ us ws h1 h2 => match us, ws, h1, h2 with | [_, _], [], _, _ => ⟨rfl, rfl⟩)) de_int)))),
    pf_is_fraction_any⟩
theorem sc_law_pick : FnScope ["pot", "some"] ["pot", "some"] (defScope S_law_pick) := ⟨rfl, rfl, rfl, by decide +kernel, rfl, by decide +kernel, by decide +kernel⟩
theorem has_law_pick (B : Bt mg) (h_law_draw : Has P w K mg base 1 "_law_draw" S_law_draw ["pot", "many"] sp_law_draw) (T : Txt K mg "_law_pick" S_law_pick) : Has P w K mg base 2 "_law_pick" S_law_pick ["pot", "some"] sp_law_pick :=
  T.has sc_law_pick len_law_pick fun f cdv A outer s H hr hgd => ⟨db_law_pick,
    (dss_one (ds_ret (de_ix (de_var 1) (de_fn h_law_draw (hr.mono (by decide)) hgd (da_cons (de_var 0) (da_cons (de_callB c_len B.z_len bt_len (da_cons (de_var 1) da_nil)) da_nil)) (fun _ _ _ _ _ _ us ws h1 h2 => match us, ws, h1, h2 with | [_, _], [], _, _ => ⟨rfl, rfl⟩))))),
    pf_law_pick⟩
theorem sc_law_lowest : FnScope ["top", "bottom", "many"] ["top", "bottom"] (defScope S_law_lowest) := ⟨rfl, rfl, rfl, by decide +kernel, rfl, by decide +kernel, by decide +kernel⟩
theorem has_law_lowest (h_law_divisor : Has P w K mg base 1 "_law_divisor" S_law_divisor ["near", "far"] sp_law_divisor) (T : Txt K mg "_law_lowest" S_law_lowest) : Has P w K mg base 2 "_law_lowest" S_law_lowest ["top", "bottom"] sp_law_lowest :=
  T.has sc_law_lowest len_law_lowest fun f cdv A outer s H hr hgd => ⟨db_law_lowest,
    (dss_cons (ds_asg (de_fn h_law_divisor (hr.mono (by decide)) hgd (da_cons (de_var 0) (da_cons (de_var 1) da_nil)) (fun _ _ _ _ _ _ us ws h1 h2 => match us, ws, h1, h2 with | [_, _], [], _, _ => ⟨rfl, rfl⟩)) (dg_name 2 sc_law_lowest.nd)) (dss_one (ds_ret (de_tup (da_cons (de_op o_div (de_var 0) (de_var 2)) (da_cons (de_op o_div (de_var 1) (de_var 2)) da_nil)))))),
    pf_law_lowest⟩
theorem sc_law_is_fraction : FnScope ["value", "one"] ["value"] (defScope S_law_is_fraction) := ⟨rfl, rfl, rfl, by decide +kernel, rfl, by decide +kernel, by decide +kernel⟩
theorem has_law_is_fraction (B : Bt mg) (h_law_divisor : Has P w K mg base 1 "_law_divisor" S_law_divisor ["near", "far"] sp_law_divisor) (T : Txt K mg "_law_is_fraction" S_law_is_fraction) : Has P w K mg base 2 "_law_is_fraction" S_law_is_fraction ["value"] sp_law_is_fraction :=
  T.has sc_law_is_fraction len_law_is_fraction fun f cdv A outer s H hr hgd => ⟨db_law_is_fraction,
    (dss_cons (ds_if (PWD.pt (dw_or (dt_not (dt_val (de_callB c_isi B.z_isinstance bt_isinstance (da_cons (de_var 0) (da_cons (de_ty B.z_tuple bt_tuple) da_nil))))) (dw_or (dt_cmp (o_ne hr.units) (de_callB c_len B.z_len bt_len (da_cons (de_var 0) da_nil)) de_int) (dw_or1 (dt_not (dt_val (de_ofB (s_all rfl) B.z_all bt_all (dl_lc [("one", 1)] sc_law_is_fraction.nd (di_seq (de_var 0)) (own_name 1 fun _ _ _ _ _ => pg_name sc_law_is_fraction.nd rfl (by first | exact Or.inl rfl | exact Or.inr rfl | exact Or.inr (Or.inl rfl))) (fun _ _ _ _ _ => dts_nil) (fun _ _ _ _ _ => (de_and (de_callB c_isi B.z_isinstance bt_isinstance (da_cons (de_var 1) (da_cons (de_ty B.z_int bt_int) da_nil))) (de_one (de_not (de_callB c_isi B.z_isinstance bt_isinstance (da_cons (de_var 1) (da_cons (de_ty B.z_bool bt_bool) da_nil))))))))))))))) (dss_one (ds_ret de_bl)) dss_nil) (dss_one (ds_ret (de_and (de_chain o_lt o_lt de_int (de_ix (de_var 0) de_int) de_int) (de_one (de_cmp (o_eq hr.units) (de_fn h_law_divisor (hr.mono (by decide)) hgd (da_cons (de_callB c_abs B.z_abs bt_abs (da_cons (de_ix (de_var 0) de_int) da_nil)) (da_cons (de_ix (de_var 0) de_int) da_nil)) (fun _ _ _ _ _ _ us ws h1 h2 => match us, ws, h1, h2 with | [_, _], [], _, _ => ⟨rfl, rfl⟩)) de_int)))))),
    pf_law_is_fraction⟩
theorem sc_law_is_votes : FnScope ["value", "one"] ["value"] (defScope S_law_is_votes) := ⟨rfl, rfl, rfl, by decide +kernel, rfl, by decide +kernel, by decide +kernel⟩
theorem has_law_is_votes (B : Bt mg) (h_law_is_whole : Has P w K mg base 1 "_law_is_whole" S_law_is_whole ["value", "least", "most"] sp_law_is_whole) (T : Txt K mg "_law_is_votes" S_law_is_votes) : Has P w K mg base 2 "_law_is_votes" S_law_is_votes ["value"] sp_law_is_votes :=
  T.has sc_law_is_votes len_law_is_votes fun f cdv A outer s H hr hgd => ⟨db_law_is_votes,
    (dss_one (ds_ret (de_and (de_callB c_isi B.z_isinstance bt_isinstance (da_cons (de_var 0) (da_cons (de_ty B.z_tuple bt_tuple) da_nil))) (de_and (de_chain o_lt o_lt de_int (de_callB c_len B.z_len bt_len (da_cons (de_var 0) da_nil)) de_int) (de_one (de_ofB (s_all rfl) B.z_all bt_all (dl_lc [("one", 1)] sc_law_is_votes.nd (di_seq (de_var 0)) (own_name 1 fun _ _ _ _ _ => pg_name sc_law_is_votes.nd rfl (by first | exact Or.inl rfl | exact Or.inr rfl | exact Or.inr (Or.inl rfl))) (fun _ _ _ _ _ => dts_nil) (fun _ _ _ _ _ => (de_fn h_law_is_whole (hr.mono (by decide)) hgd (da_cons (de_var 1) (da_cons de_int (da_cons (de_op o_pow de_int de_int) da_nil))) (fun _ _ _ _ _ _ us ws h1 h2 => match us, ws, h1, h2 with | [_, _, _], [], _, _ => ⟨rfl, rfl⟩)))))))))),
    pf_law_is_votes⟩
theorem sc_law_is_deal : FnScope ["race", "value", "one"] ["race", "value"] (defScope S_law_is_deal) := ⟨rfl, rfl, rfl, by decide +kernel, rfl, by decide +kernel, by decide +kernel⟩
theorem has_law_is_deal (B : Bt mg) (h_law_is_whole : Has P w K mg base 1 "_law_is_whole" S_law_is_whole ["value", "least", "most"] sp_law_is_whole) (T : Txt K mg "_law_is_deal" S_law_is_deal) : Has P w K mg base 2 "_law_is_deal" S_law_is_deal ["race", "value"] sp_law_is_deal :=
  T.has sc_law_is_deal len_law_is_deal fun f cdv A outer s H hr hgd => ⟨db_law_is_deal,
    (dss_cons (ds_if (PWD.pt (dw_or (dt_not (dt_val (de_callB c_isi B.z_isinstance bt_isinstance (da_cons (de_var 1) (da_cons (de_ty B.z_tuple bt_tuple) da_nil))))) (dw_or (dt_cmp (o_ne hr.units) (de_callB c_len B.z_len bt_len (da_cons (de_var 1) da_nil)) (de_callB c_len B.z_len bt_len (da_cons (de_ix (de_var 0) de_int) da_nil))) (dw_or1 (dt_not (dt_val (de_ofB (s_all rfl) B.z_all bt_all (dl_lc [("one", 2)] sc_law_is_deal.nd (di_seq (de_var 1)) (own_name 2 fun _ _ _ _ _ => pg_name sc_law_is_deal.nd rfl (by first | exact Or.inl rfl | exact Or.inr rfl | exact Or.inr (Or.inl rfl))) (fun _ _ _ _ _ => dts_nil) (fun _ _ _ _ _ => (de_fn h_law_is_whole (hr.mono (by decide)) hgd (da_cons (de_var 2) (da_cons de_int (da_cons (de_op o_pow de_int de_int) da_nil))) (fun _ _ _ _ _ _ us ws h1 h2 => match us, ws, h1, h2 with | [_, _, _], [], _, _ => ⟨rfl, rfl⟩))))))))))) (dss_one (ds_ret de_bl)) dss_nil) (dss_one (ds_ret (de_cmp (o_eq hr.units) (de_callB (s_sum2 rfl).call B.z_sum bt_sum (da_cons (de_var 1) da_nil)) (de_ix (de_var 0) de_int))))),
    pf_law_is_deal⟩
theorem sc_is_small : FnScope ["value"] ["value"] (defScope S_is_small) := ⟨rfl, rfl, rfl, by decide +kernel, rfl, by decide +kernel, by decide +kernel⟩
theorem has_is_small (C : Ct K mg) (h_is_fraction_any : Has P w K mg base 2 "is_fraction_any" S_is_fraction_any ["value"] sp_is_fraction_any) (T : Txt K mg "is_small" S_is_small) : Has P w K mg base 3 "is_small" S_is_small ["value"] sp_is_small :=
  T.has sc_is_small len_is_small fun f cdv A outer s H hr hgd => ⟨db_is_small,
    (dss_one (ds_ret (de_and (de_fn h_is_fraction_any (hr.mono (by decide)) hgd (da_cons (de_var 0) da_nil) (fun _ _ _ _ _ _ us ws h1 h2 => match us, ws, h1, h2 with | [_], [], _, _ => ⟨rfl, rfl⟩)) (de_one (de_cmp o_le (de_ix (de_var 0) de_int) (de_glob C.c_MOST_BOTTOM)))))),
    pf_is_small⟩
theorem sc_signpost : FnScope ["rule", "many", "word", "firsts", "top", "bottom"] ["rule", "many"] (defScope S_signpost) := ⟨rfl, rfl, rfl, by decide +kernel, rfl, by decide +kernel, by decide +kernel⟩
theorem has_signpost (B : Bt mg) (h_lowest : Has P w K mg base 2 "lowest" S_lowest ["top", "bottom"] sp_lowest) (T : Txt K mg "signpost" S_signpost) : Has P w K mg base 3 "signpost" S_signpost ["rule", "many"] sp_signpost :=
  T.has sc_signpost len_signpost fun f cdv A outer s H hr hgd => ⟨db_signpost,
    (dss_cons (ds_asg (de_var 0) (dg_tup (dgs_cons (dg_name 2 sc_signpost.nd) (dgs_cons (dg_name 3 sc_signpost.nd) (dgs_cons (dg_name 4 sc_signpost.nd) (dgs_cons (dg_name 5 sc_signpost.nd) dgs_nil)))))) (dss_cons (ds_if (dt_cmp (o_eq hr.units) (de_var 1) de_int) (dss_one (ds_ret (de_tup (da_cons de_int (da_cons de_int da_nil))))) dss_nil) (dss_one (ds_ret (de_if (dt_cmp o_le (de_var 1) (de_callB c_len B.z_len bt_len (da_cons (de_var 3) da_nil))) (de_ix (de_var 3) (de_op o_sub (de_var 1) de_int)) (de_fn h_lowest (hr.mono (by decide)) hgd (da_cons (de_op o_plus (de_op o_times (de_op o_sub (de_var 1) de_int) (de_var 5)) (de_var 4)) (da_cons (de_var 5) da_nil)) (fun _ _ _ _ _ _ us ws h1 h2 => match us, ws, h1, h2 with | [_, _], [], _, _ => ⟨rfl, rfl⟩))))))),
    pf_signpost⟩
theorem sc_is_row_of_votes : FnScope ["value", "one"] ["value"] (defScope S_is_row_of_votes) := ⟨rfl, rfl, rfl, by decide +kernel, rfl, by decide +kernel, by decide +kernel⟩
theorem has_is_row_of_votes (B : Bt mg) (C : Ct K mg) (h_is_within : Has P w K mg base 2 "is_within" S_is_within ["value", "least", "most"] sp_is_within) (T : Txt K mg "is_row_of_votes" S_is_row_of_votes) : Has P w K mg base 3 "is_row_of_votes" S_is_row_of_votes ["value"] sp_is_row_of_votes :=
  T.has sc_is_row_of_votes len_is_row_of_votes fun f cdv A outer s H hr hgd => ⟨db_is_row_of_votes,
    (dss_cons (ds_if (PWD.pt (dw_or (dt_not (dt_val (de_callB c_isi B.z_isinstance bt_isinstance (da_cons (de_var 0) (da_cons (de_ty B.z_tuple bt_tuple) da_nil))))) (dw_or1 (dt_not (dt_chain o_le o_le de_int (de_callB c_len B.z_len bt_len (da_cons (de_var 0) da_nil)) (de_glob C.c_MOST_LISTS)))))) (dss_one (ds_ret de_bl)) dss_nil) (dss_one (ds_ret (de_ofB (s_all rfl) B.z_all bt_all (dl_lc [("one", 1)] sc_is_row_of_votes.nd (di_seq (de_var 0)) (own_name 1 fun _ _ _ _ _ => pg_name sc_is_row_of_votes.nd rfl (by first | exact Or.inl rfl | exact Or.inr rfl | exact Or.inr (Or.inl rfl))) (fun _ _ _ _ _ => dts_nil) (fun _ _ _ _ _ => (de_fn h_is_within (hr.mono (by decide)) hgd (da_cons (de_var 1) (da_cons de_int (da_cons (de_glob C.c_MOST_VOTES) da_nil))) (fun _ _ _ _ _ _ us ws h1 h2 => match us, ws, h1, h2 with | [_, _, _], [], _, _ => ⟨rfl, rfl⟩)))))))),
    pf_is_row_of_votes⟩
theorem sc_is_deal_of : FnScope ["race", "value", "one"] ["race", "value"] (defScope S_is_deal_of) := ⟨rfl, rfl, rfl, by decide +kernel, rfl, by decide +kernel, by decide +kernel⟩
theorem has_is_deal_of (B : Bt mg) (h_is_tuple : Has P w K mg base 1 "is_tuple" S_is_tuple ["value", "many"] sp_is_tuple) (h_is_count : Has P w K mg base 2 "is_count" S_is_count ["value"] sp_is_count) (T : Txt K mg "is_deal_of" S_is_deal_of) : Has P w K mg base 3 "is_deal_of" S_is_deal_of ["race", "value"] sp_is_deal_of :=
  T.has sc_is_deal_of len_is_deal_of fun f cdv A outer s H hr hgd => ⟨db_is_deal_of,
    (dss_cons (ds_if (PWD.pt (dw_or (dt_not (dt_val (de_fn h_is_tuple (hr.mono (by decide)) hgd (da_cons (de_var 1) (da_cons (de_callB c_len B.z_len bt_len (da_cons (de_ix (de_var 0) de_int) da_nil)) da_nil)) (fun _ _ _ _ _ _ us ws h1 h2 => match us, ws, h1, h2 with | [_, _], [], _, _ => ⟨rfl, rfl⟩)))) (dw_or1 (dt_not (dt_val (de_ofB (s_all rfl) B.z_all bt_all (dl_lc [("one", 2)] sc_is_deal_of.nd (di_seq (de_var 1)) (own_name 2 fun _ _ _ _ _ => pg_name sc_is_deal_of.nd rfl (by first | exact Or.inl rfl | exact Or.inr rfl | exact Or.inr (Or.inl rfl))) (fun _ _ _ _ _ => dts_nil) (fun _ _ _ _ _ => (de_fn h_is_count (hr.mono (by decide)) hgd (da_cons (de_var 2) da_nil) (fun _ _ _ _ _ _ us ws h1 h2 => match us, ws, h1, h2 with | [_], [], _, _ => ⟨rfl, rfl⟩)))))))))) (dss_one (ds_ret de_bl)) dss_nil) (dss_one (ds_ret (de_cmp (o_eq hr.units) (de_callB (s_sum2 rfl).call B.z_sum bt_sum (da_cons (de_var 1) da_nil)) (de_ix (de_var 0) de_int))))),
    pf_is_deal_of⟩
theorem sc_law_rule : FnScope ["pot", "some", "firsts", "top", "bottom"] ["pot"] (defScope S_law_rule) := ⟨rfl, rfl, rfl, by decide +kernel, rfl, by decide +kernel, by decide +kernel⟩
theorem has_law_rule (h_law_draw : Has P w K mg base 1 "_law_draw" S_law_draw ["pot", "many"] sp_law_draw) (h_law_pick : Has P w K mg base 2 "_law_pick" S_law_pick ["pot", "some"] sp_law_pick) (h_law_lowest : Has P w K mg base 2 "_law_lowest" S_law_lowest ["top", "bottom"] sp_law_lowest) (T : Txt K mg "_law_rule" S_law_rule) : Has P w K mg base 3 "_law_rule" S_law_rule ["pot"] sp_law_rule :=
  T.has sc_law_rule len_law_rule fun f cdv A outer s H hr hgd => ⟨db_law_rule,
    (dss_cons (ds_asg (de_new (dl_lst (da_cons (de_tup (da_cons (de_tup da_nil) (da_cons de_int (da_cons de_int da_nil)))) (da_cons (de_tup (da_cons (de_tup da_nil) (da_cons de_int (da_cons de_int da_nil)))) (da_cons (de_tup (da_cons (de_tup da_nil) (da_cons de_int (da_cons de_int da_nil)))) (da_cons (de_tup (da_cons (de_tup (da_cons (de_tup (da_cons de_int (da_cons de_int da_nil))) da_nil)) (da_cons de_int (da_cons de_int da_nil)))) (da_cons (de_tup (da_cons (de_tup (da_cons (de_tup (da_cons de_int (da_cons de_int da_nil))) (da_cons (de_tup (da_cons de_int (da_cons de_int da_nil))) da_nil))) (da_cons de_int (da_cons de_int da_nil)))) (da_cons (de_tup (da_cons (de_tup (da_cons (de_tup (da_cons de_int (da_cons de_int da_nil))) da_nil)) (da_cons de_int (da_cons de_int da_nil)))) (da_cons (de_tup (da_cons (de_tup (da_cons (de_tup (da_cons de_int (da_cons de_int da_nil))) (da_cons (de_tup (da_cons de_int (da_cons de_int da_nil))) (da_cons (de_tup (da_cons de_int (da_cons de_int da_nil))) da_nil)))) (da_cons de_int (da_cons de_int da_nil)))) da_nil))))))))) (dg_name 1 sc_law_rule.nd)) (dss_cons (ds_if (dt_cmp o_gt (de_fn h_law_draw (hr.mono (by decide)) hgd (da_cons (de_var 0) (da_cons de_int da_nil)) (fun _ _ _ _ _ _ us ws h1 h2 => match us, ws, h1, h2 with | [_, _], [], _, _ => ⟨rfl, rfl⟩)) de_int) (dss_one (ds_asg (de_fn h_law_pick (hr.mono (by decide)) hgd (da_cons (de_var 0) (da_cons (de_var 1) da_nil)) (fun _ _ _ _ _ _ us ws h1 h2 => match us, ws, h1, h2 with | [_, _], [], _, _ => ⟨rfl, rfl⟩)) (dg_tup (dgs_cons (dg_name 2 sc_law_rule.nd) (dgs_cons (dg_name 3 sc_law_rule.nd) (dgs_cons (dg_name 4 sc_law_rule.nd) dgs_nil)))))) (dss_cons (ds_asg (de_op o_plus de_int (de_fn h_law_draw (hr.mono (by decide)) hgd (da_cons (de_var 0) (da_cons de_int da_nil)) (fun _ _ _ _ _ _ us ws h1 h2 => match us, ws, h1, h2 with | [_, _], [], _, _ => ⟨rfl, rfl⟩))) (dg_name 4 sc_law_rule.nd)) (dss_one (ds_par 3 2 sc_law_rule.nd (da_cons (de_op o_plus de_int (de_fn h_law_draw (hr.mono (by decide)) hgd (da_cons (de_var 0) (da_cons (de_var 4) da_nil)) (fun _ _ _ _ _ _ us ws h1 h2 => match us, ws, h1, h2 with | [_, _], [], _, _ => ⟨rfl, rfl⟩))) (da_cons (de_tup da_nil) da_nil)))))) (dss_one (ds_ret (de_op o_plus (de_tup (da_cons de_str (da_cons (de_var 2) da_nil))) (de_fn h_law_lowest (hr.mono (by decide)) hgd (da_cons (de_var 3) (da_cons (de_var 4) da_nil)) (fun _ _ _ _ _ _ us ws h1 h2 => match us, ws, h1, h2 with | [_, _], [], _, _ => ⟨rfl, rfl⟩))))))),
    pf_law_rule⟩
theorem sc_law_post : FnScope ["rule", "many"] ["rule", "many"] (defScope S_law_post) := ⟨rfl, rfl, rfl, by decide +kernel, rfl, by decide +kernel, by decide +kernel⟩
theorem has_law_post (B : Bt mg) (h_law_lowest : Has P w K mg base 2 "_law_lowest" S_law_lowest ["top", "bottom"] sp_law_lowest) (T : Txt K mg "_law_post" S_law_post) : Has P w K mg base 3 "_law_post" S_law_post ["rule", "many"] sp_law_post :=
  T.has sc_law_post len_law_post fun f cdv A outer s H hr hgd => ⟨db_law_post,
    (dss_cons (ds_if (dt_cmp (o_eq hr.units) (de_var 1) de_int) (dss_one (ds_ret (de_tup (da_cons de_int (da_cons de_int da_nil))))) dss_nil) (dss_cons (ds_if (dt_cmp o_le (de_var 1) (de_callB c_len B.z_len bt_len (da_cons (de_ix (de_var 0) de_int) da_nil))) (dss_one (ds_ret (de_ix (de_ix (de_var 0) de_int) (de_op o_sub (de_var 1) de_int)))) dss_nil) (dss_one (ds_ret (de_fn h_law_lowest (hr.mono (by decide)) hgd (da_cons (de_op o_plus (de_op o_times (de_op o_sub (de_var 1) de_int) (de_ix (de_var 0) de_int)) (de_ix (de_var 0) de_int)) (da_cons (de_ix (de_var 0) de_int) da_nil)) (fun _ _ _ _ _ _ us ws h1 h2 => match us, ws, h1, h2 with | [_, _], [], _, _ => ⟨rfl, rfl⟩)))))),
    pf_law_post⟩
theorem sc_law_votes : FnScope ["pot", "lists", "great", "one"] ["pot", "lists", "great"] (defScope S_law_votes) := ⟨rfl, rfl, rfl, by decide +kernel, rfl, by decide +kernel, by decide +kernel⟩
theorem has_law_votes (B : Bt mg) (h_law_draw : Has P w K mg base 1 "_law_draw" S_law_draw ["pot", "many"] sp_law_draw) (h_law_pick : Has P w K mg base 2 "_law_pick" S_law_pick ["pot", "some"] sp_law_pick) (T : Txt K mg "_law_votes" S_law_votes) : Has P w K mg base 3 "_law_votes" S_law_votes ["pot", "lists", "great"] sp_law_votes :=
  T.has sc_law_votes len_law_votes fun f cdv A outer s H hr hgd => ⟨db_law_votes,
    (dss_cons (ds_if (PWD.pt (dw_and (dt_val (de_var 2)) (dw_and1 (dt_cmp (o_eq hr.units) (de_fn h_law_draw (hr.mono (by decide)) hgd (da_cons (de_var 0) (da_cons de_int da_nil)) (fun _ _ _ _ _ _ us ws h1 h2 => match us, ws, h1, h2 with | [_, _], [], _, _ => ⟨rfl, rfl⟩)) de_int)))) (dss_one (ds_ret (de_ofTy s_tup B.z_tuple bt_tuple (dl_lc [("one", 3)] sc_law_votes.nd (di_r1 B.z_range (da_cons (de_var 1) da_nil)) (own_name 3 fun _ _ _ _ _ => pg_name sc_law_votes.nd rfl (by first | exact Or.inl rfl | exact Or.inr rfl | exact Or.inr (Or.inl rfl))) (fun _ _ _ _ _ => dts_nil) (fun _ _ _ _ _ => (de_fn h_law_pick (hr.mono (by decide)) hgd (da_cons (de_var 0) (da_cons (de_new (dl_lst (da_cons de_int (da_cons de_int (da_cons (de_op o_pow de_int de_int) (da_cons de_int (da_cons (de_op o_times de_int (de_op o_pow de_int de_int)) (da_cons de_int da_nil)))))))) da_nil)) (fun _ _ _ _ _ _ us ws h1 h2 => match us, ws, h1, h2 with | [_, _], [], _, _ => ⟨rfl, rfl⟩))))))) dss_nil) (dss_one (ds_ret (de_ofTy s_tup B.z_tuple bt_tuple (dl_lc [("one", 3)] sc_law_votes.nd (di_r1 B.z_range (da_cons (de_var 1) da_nil)) (own_name 3 fun _ _ _ _ _ => pg_name sc_law_votes.nd rfl (by first | exact Or.inl rfl | exact Or.inr rfl | exact Or.inr (Or.inl rfl))) (fun _ _ _ _ _ => dts_nil) (fun _ _ _ _ _ => (de_fn h_law_draw (hr.mono (by decide)) hgd (da_cons (de_var 0) (da_cons de_int da_nil)) (fun _ _ _ _ _ _ us ws h1 h2 => match us, ws, h1, h2 with | [_, _], [], _, _ => ⟨rfl, rfl⟩)))))))),
    pf_law_votes⟩
theorem sc_law_bent : FnScope ["pot", "value", "spots", "here", "way", "at", "around"] ["pot", "value"] (defScope S_law_bent) := ⟨rfl, rfl, rfl, by decide +kernel, rfl, by decide +kernel, by decide +kernel⟩
theorem has_law_bent (B : Bt mg) (h_law_draw : Has P w K mg base 1 "_law_draw" S_law_draw ["pot", "many"] sp_law_draw) (h_law_pick : Has P w K mg base 2 "_law_pick" S_law_pick ["pot", "some"] sp_law_pick) (T : Txt K mg "_law_bent" S_law_bent) : Has P w K mg base 3 "_law_bent" S_law_bent ["pot", "value"] sp_law_bent :=
  T.has sc_law_bent len_law_bent fun f cdv A outer s H hr hgd => ⟨db_law_bent,
    (dss_cons (ds_par 2 3 sc_law_bent.nd (da_cons (de_new (dl_lst da_nil)) (da_cons (de_var 1) da_nil))) (dss_cons (ds_while (PWD.pt (dw_and (dt_val (de_callB c_isi B.z_isinstance bt_isinstance (da_cons (de_var 3) (da_cons (de_ty B.z_tuple bt_tuple) da_nil)))) (dw_and (dt_cmp o_gt (de_callB c_len B.z_len bt_len (da_cons (de_var 3) da_nil)) de_int) (dw_and (dt_cmp o_lt (de_callB c_len B.z_len bt_len (da_cons (de_var 2) da_nil)) de_int) (dw_and1 (dt_cmp o_gt (de_fn h_law_draw (hr.mono (by decide)) hgd (da_cons (de_var 0) (da_cons de_int da_nil)) (fun _ _ _ _ _ _ us ws h1 h2 => match us, ws, h1, h2 with | [_, _], [], _, _ => ⟨rfl, rfl⟩)) de_int)))))) (dss_cons (ds_expr (de_append (de_var 2) (de_tup (da_cons (de_var 3) (da_cons (de_fn h_law_draw (hr.mono (by decide)) hgd (da_cons (de_var 0) (da_cons (de_callB c_len B.z_len bt_len (da_cons (de_var 3) da_nil)) da_nil)) (fun _ _ _ _ _ _ us ws h1 h2 => match us, ws, h1, h2 with | [_, _], [], _, _ => ⟨rfl, rfl⟩)) da_nil))))) (dss_one (ds_asg (de_ix (de_var 3) (de_ix (de_ix (de_var 2) (de_neg de_int)) de_int)) (dg_name 3 sc_law_bent.nd))))) (dss_cons (ds_asg (de_fn h_law_draw (hr.mono (by decide)) hgd (da_cons (de_var 0) (da_cons de_int da_nil)) (fun _ _ _ _ _ _ us ws h1 h2 => match us, ws, h1, h2 with | [_, _], [], _, _ => ⟨rfl, rfl⟩)) (dg_name 4 sc_law_bent.nd)) (dss_cons (ds_if (PWD.pt (dw_and (dt_val (de_callB c_isi B.z_isinstance bt_isinstance (da_cons (de_var 3) (da_cons (de_ty B.z_tuple bt_tuple) da_nil)))) (dw_and (dt_cmp o_gt (de_callB c_len B.z_len bt_len (da_cons (de_var 3) da_nil)) de_int) (dw_and1 (dt_cmp o_lt (de_var 4) de_int))))) (dss_cons (ds_asg (de_fn h_law_draw (hr.mono (by decide)) hgd (da_cons (de_var 0) (da_cons (de_callB c_len B.z_len bt_len (da_cons (de_var 3) da_nil)) da_nil)) (fun _ _ _ _ _ _ us ws h1 h2 => match us, ws, h1, h2 with | [_, _], [], _, _ => ⟨rfl, rfl⟩)) (dg_name 5 sc_law_bent.nd)) (dss_one (ds_asg (de_ix (de_new (dl_lst (da_cons (de_op o_plus (de_slice (de_var 3) do_none (do_some (de_var 5))) (de_slice (de_var 3) (do_some (de_op o_plus (de_var 5) de_int)) do_none)) (da_cons (de_op o_plus (de_slice (de_var 3) do_none (do_some (de_op o_plus (de_var 5) de_int))) (de_slice (de_var 3) (do_some (de_var 5)) do_none)) (da_cons (de_rev (de_var 3)) (da_cons (de_new (dl_callTy s_lst.call B.z_list bt_list (da_cons (de_var 3) da_nil))) da_nil)))))) (de_var 4)) (dg_name 3 sc_law_bent.nd)))) (dss_one (ds_if (PWD.pt (dw_and (dt_val (de_callB c_isi B.z_isinstance bt_isinstance (da_cons (de_var 3) (da_cons (de_ty B.z_int bt_int) da_nil)))) (dw_and1 (dt_cmp o_lt (de_var 4) de_int)))) (dss_one (ds_asg (de_fn h_law_pick (hr.mono (by decide)) hgd (da_cons (de_var 0) (da_cons (de_new (dl_lst (da_cons (de_op o_plus (de_var 3) de_int) (da_cons (de_op o_sub (de_var 3) de_int) (da_cons (de_op o_sub de_int (de_var 3)) (da_cons de_bl (da_cons de_non (da_cons de_int (da_cons de_int (da_cons de_int (da_cons de_int (da_cons de_int (da_cons de_int (da_cons (de_op o_plus (de_op o_pow de_int de_int) de_int) (da_cons (de_tup (da_cons (de_var 3) (da_cons de_int da_nil))) (da_cons de_str da_nil)))))))))))))))) da_nil)) (fun _ _ _ _ _ _ us ws h1 h2 => match us, ws, h1, h2 with | [_, _], [], _, _ => ⟨rfl, rfl⟩)) (dg_name 3 sc_law_bent.nd))) (dss_one (ds_asg (de_fn h_law_pick (hr.mono (by decide)) hgd (da_cons (de_var 0) (da_cons (de_new (dl_lst (da_cons de_non (da_cons de_int (da_cons de_str (da_cons de_str (da_cons de_str (da_cons (de_tup da_nil) (da_cons (de_tup (da_cons (de_tup da_nil) da_nil)) (da_cons (de_new (dl_lst da_nil)) (da_cons de_emp (da_cons (de_tup (da_cons de_int (da_cons de_int da_nil))) (da_cons (de_tup (da_cons de_int (da_cons de_int da_nil))) (da_cons (de_tup (da_cons de_int (da_cons de_int da_nil))) (da_cons (de_tup (da_cons de_int (da_cons de_int da_nil))) (da_cons (de_tup (da_cons (de_tup (da_cons de_int (da_cons de_int da_nil))) da_nil)) (da_cons de_int da_nil))))))))))))))))) da_nil)) (fun _ _ _ _ _ _ us ws h1 h2 => match us, ws, h1, h2 with | [_, _], [], _, _ => ⟨rfl, rfl⟩)) (dg_name 3 sc_law_bent.nd)))))) (dss_cons (ds_for (di_seq (de_rev (de_var 2))) (dg_tup (dgs_cons (dg_name 6 sc_law_bent.nd) (dgs_cons (dg_name 5 sc_law_bent.nd) dgs_nil))) (dss_one (ds_asg (de_op o_plus (de_op o_plus (de_slice (de_var 6) do_none (do_some (de_var 5))) (de_tup (da_cons (de_var 3) da_nil))) (de_slice (de_var 6) (do_some (de_op o_plus (de_var 5) de_int)) do_none)) (dg_name 3 sc_law_bent.nd)))) (dss_one (ds_ret (de_var 3)))))))),
    pf_law_bent⟩
theorem sc_is_rule_any : FnScope ["value", "word", "firsts", "top", "bottom", "one", "posts", "many", "near", "far", "post"] ["value"] (defScope S_is_rule_any) := ⟨rfl, rfl, rfl, by decide +kernel, rfl, by decide +kernel, by decide +kernel⟩
theorem has_is_rule_any (B : Bt mg) (C : Ct K mg) (h_is_tuple : Has P w K mg base 1 "is_tuple" S_is_tuple ["value", "many"] sp_is_tuple) (h_is_small : Has P w K mg base 3 "is_small" S_is_small ["value"] sp_is_small) (h_is_within : Has P w K mg base 2 "is_within" S_is_within ["value", "least", "most"] sp_is_within) (h_common : Has P w K mg base 1 "common" S_common ["near", "far"] sp_common) (h_signpost : Has P w K mg base 3 "signpost" S_signpost ["rule", "many"] sp_signpost) (h_is_less : Has P w K mg base 1 "is_less" S_is_less ["near", "far"] sp_is_less) (h_is_at_most : Has P w K mg base 1 "is_at_most" S_is_at_most ["near", "far"] sp_is_at_most) (T : Txt K mg "is_rule_any" S_is_rule_any) : Has P w K mg base 4 "is_rule_any" S_is_rule_any ["value"] sp_is_rule_any :=
  T.has sc_is_rule_any len_is_rule_any fun f cdv A outer s H hr hgd => ⟨db_is_rule_any,
    (dss_cons (ds_if (PWD.pt (dw_or (dt_not (dt_val (de_fn h_is_tuple (hr.mono (by decide)) hgd (da_cons (de_var 0) (da_cons de_int da_nil)) (fun _ _ _ _ _ _ us ws h1 h2 => match us, ws, h1, h2 with | [_, _], [], _, _ => ⟨rfl, rfl⟩)))) (dw_or (dt_not (dt_val (de_callB c_isi B.z_isinstance bt_isinstance (da_cons (de_ix (de_var 0) de_int) (da_cons (de_ty B.z_str bt_str) da_nil))))) (dw_or1 (dt_cmp (o_ne hr.units) (de_ix (de_var 0) de_int) (de_glob C.c_RULE)))))) (dss_one (ds_ret de_bl)) dss_nil) (dss_cons (ds_asg (de_var 0) (dg_tup (dgs_cons (dg_name 1 sc_is_rule_any.nd) (dgs_cons (dg_name 2 sc_is_rule_any.nd) (dgs_cons (dg_name 3 sc_is_rule_any.nd) (dgs_cons (dg_name 4 sc_is_rule_any.nd) dgs_nil)))))) (dss_cons (ds_if (PWD.pt (dw_or (dt_not (dt_val (de_callB c_isi B.z_isinstance bt_isinstance (da_cons (de_var 2) (da_cons (de_ty B.z_tuple bt_tuple) da_nil))))) (dw_or (dt_cmp o_gt (de_callB c_len B.z_len bt_len (da_cons (de_var 2) da_nil)) (de_glob C.c_MOST_FIRSTS)) (dw_or1 (dt_not (dt_val (de_ofB (s_all rfl) B.z_all bt_all (dl_lc [("one", 5)] sc_is_rule_any.nd (di_seq (de_var 2)) (own_name 5 fun _ _ _ _ _ => pg_name sc_is_rule_any.nd rfl (by first | exact Or.inl rfl | exact Or.inr rfl | exact Or.inr (Or.inl rfl))) (fun _ _ _ _ _ => dts_nil) (fun _ _ _ _ _ => (de_fn h_is_small (hr.mono (by decide)) hgd (da_cons (de_var 5) da_nil) (fun _ _ _ _ _ _ us ws h1 h2 => match us, ws, h1, h2 with | [_], [], _, _ => ⟨rfl, rfl⟩))))))))))) (dss_one (ds_ret de_bl)) dss_nil) (dss_cons (ds_if (PWD.pt (dw_or (dt_not (dt_val (de_fn h_is_within (hr.mono (by decide)) hgd (da_cons (de_var 4) (da_cons de_int (da_cons (de_glob C.c_MOST_BOTTOM) da_nil))) (fun _ _ _ _ _ _ us ws h1 h2 => match us, ws, h1, h2 with | [_, _, _], [], _, _ => ⟨rfl, rfl⟩)))) (dw_or (dt_not (dt_val (de_fn h_is_within (hr.mono (by decide)) hgd (da_cons (de_var 3) (da_cons de_int (da_cons (de_var 4) da_nil))) (fun _ _ _ _ _ _ us ws h1 h2 => match us, ws, h1, h2 with | [_, _, _], [], _, _ => ⟨rfl, rfl⟩)))) (dw_or1 (dt_cmp (o_ne hr.units) (de_fn h_common (hr.mono (by decide)) hgd (da_cons (de_var 3) (da_cons (de_var 4) da_nil)) (fun _ _ _ _ _ _ us ws h1 h2 => match us, ws, h1, h2 with | [_, _], [], _, _ => ⟨rfl, rfl⟩)) de_int))))) (dss_one (ds_ret de_bl)) dss_nil) (dss_cons (ds_setLc 6 [("many", 7)] sc_is_rule_any.nd (di_r1 B.z_range (da_cons (de_op o_plus (de_callB c_len B.z_len bt_len (da_cons (de_var 2) da_nil)) de_int) da_nil)) (own_name 7 fun _ _ _ _ _ => pg_name sc_is_rule_any.nd rfl (by first | exact Or.inl rfl | exact Or.inr rfl | exact Or.inr (Or.inl rfl))) (fun _ _ _ _ _ => dts_nil) (fun _ _ _ _ _ => (de_fn h_signpost (hr.mono (by decide)) hgd (da_cons (de_var 0) (da_cons (de_var 7) da_nil)) (fun _ _ _ _ _ _ us ws h1 h2 => match us, ws, h1, h2 with | [_, _], [], _, _ => ⟨rfl, rfl⟩)))) (dss_cons (ds_if (dt_not (dt_val (de_ofB (s_all rfl) B.z_all bt_all (dl_lc [("near", 8), ("far", 9)] sc_is_rule_any.nd (di_z2 B.z_zip (de_var 6) (de_slice (de_var 6) (do_some de_int) do_none)) (own_pair 8 9 fun _ _ _ _ _ => pg_tup rfl (pgs_cons (pg_name (i := 8) sc_is_rule_any.nd rfl (by first | exact Or.inl rfl | exact Or.inr rfl | exact Or.inr (Or.inl rfl))) (pgs_cons (pg_name (i := 9) sc_is_rule_any.nd rfl (by first | exact Or.inl rfl | exact Or.inr rfl | exact Or.inr (Or.inl rfl))) pgs_nil))) (fun _ _ _ _ _ => dts_nil) (fun _ _ _ _ _ => (de_fn h_is_less (hr.mono (by decide)) hgd (da_cons (de_var 8) (da_cons (de_var 9) da_nil)) (fun _ _ _ _ _ _ us ws h1 h2 => match us, ws, h1, h2 with | [_, _], [], _, _ => ⟨rfl, rfl⟩))))))) (dss_one (ds_ret de_bl)) dss_nil) (dss_one (ds_ret (de_ofB (s_all rfl) B.z_all bt_all (dl_lc [("many", 7), ("post", 10)] sc_is_rule_any.nd (di_enum2 B.z_enumerate (de_slice (de_var 6) (do_some de_int) do_none)) (own_pair 7 10 fun _ _ _ _ _ => pg_tup rfl (pgs_cons (pg_name (i := 7) sc_is_rule_any.nd rfl (by first | exact Or.inl rfl | exact Or.inr rfl | exact Or.inr (Or.inl rfl))) (pgs_cons (pg_name (i := 10) sc_is_rule_any.nd rfl (by first | exact Or.inl rfl | exact Or.inr rfl | exact Or.inr (Or.inl rfl))) pgs_nil))) (fun _ _ _ _ _ => dts_nil) (fun _ _ _ _ _ => (de_and (de_fn h_is_at_most (hr.mono (by decide)) hgd (da_cons (de_tup (da_cons (de_var 7) (da_cons de_int da_nil))) (da_cons (de_var 10) da_nil)) (fun _ _ _ _ _ _ us ws h1 h2 => match us, ws, h1, h2 with | [_, _], [], _, _ => ⟨rfl, rfl⟩)) (de_one (de_fn h_is_at_most (hr.mono (by decide)) hgd (da_cons (de_var 10) (da_cons (de_tup (da_cons (de_op o_plus (de_var 7) de_int) (da_cons de_int da_nil))) da_nil)) (fun _ _ _ _ _ _ us ws h1 h2 => match us, ws, h1, h2 with | [_, _], [], _, _ => ⟨rfl, rfl⟩))))))))))))))),
    pf_is_rule_any⟩
theorem sc_is_votes : FnScope ["value"] ["value"] (defScope S_is_votes) := ⟨rfl, rfl, rfl, by decide +kernel, rfl, by decide +kernel, by decide +kernel⟩
theorem has_is_votes (h_is_row_of_votes : Has P w K mg base 3 "is_row_of_votes" S_is_row_of_votes ["value"] sp_is_row_of_votes) (T : Txt K mg "is_votes" S_is_votes) : Has P w K mg base 4 "is_votes" S_is_votes ["value"] sp_is_votes :=
  T.has sc_is_votes len_is_votes fun f cdv A outer s H hr hgd => ⟨db_is_votes,
    (dss_one (ds_ret (de_fn h_is_row_of_votes (hr.mono (by decide)) hgd (da_cons (de_var 0) da_nil) (fun _ _ _ _ _ _ us ws h1 h2 => match us, ws, h1, h2 with | [_], [], _, _ => ⟨rfl, rfl⟩)))),
    pf_is_votes⟩
theorem sc_law_is_rule : FnScope ["value", "one", "posts", "many", "near", "far", "post"] ["value"] (defScope S_law_is_rule) := ⟨rfl, rfl, rfl, by decide +kernel, rfl, by decide +kernel, by decide +kernel⟩
theorem has_law_is_rule (B : Bt mg) (h_law_is_fraction : Has P w K mg base 2 "_law_is_fraction" S_law_is_fraction ["value"] sp_law_is_fraction) (h_law_is_whole : Has P w K mg base 1 "_law_is_whole" S_law_is_whole ["value", "least", "most"] sp_law_is_whole) (h_law_divisor : Has P w K mg base 1 "_law_divisor" S_law_divisor ["near", "far"] sp_law_divisor) (h_law_post : Has P w K mg base 3 "_law_post" S_law_post ["rule", "many"] sp_law_post) (h_law_below : Has P w K mg base 1 "_law_below" S_law_below ["near", "far"] sp_law_below) (T : Txt K mg "_law_is_rule" S_law_is_rule) : Has P w K mg base 4 "_law_is_rule" S_law_is_rule ["value"] sp_law_is_rule :=
  T.has sc_law_is_rule len_law_is_rule fun f cdv A outer s H hr hgd => ⟨db_law_is_rule,
    (dss_cons (ds_if (PWD.pt (dw_or (dt_not (dt_val (de_callB c_isi B.z_isinstance bt_isinstance (da_cons (de_var 0) (da_cons (de_ty B.z_tuple bt_tuple) da_nil))))) (dw_or (dt_cmp (o_ne hr.units) (de_callB c_len B.z_len bt_len (da_cons (de_var 0) da_nil)) de_int) (dw_or (dt_not (dt_val (de_callB c_isi B.z_isinstance bt_isinstance (da_cons (de_ix (de_var 0) de_int) (da_cons (de_ty B.z_str bt_str) da_nil))))) (dw_or (dt_cmp (o_ne hr.units) (de_ix (de_var 0) de_int) de_str) (dw_or1 (dt_not (dt_val (de_callB c_isi B.z_isinstance bt_isinstance (da_cons (de_ix (de_var 0) de_int) (da_cons (de_ty B.z_tuple bt_tuple) da_nil))))))))))) (dss_one (ds_ret de_bl)) dss_nil) (dss_cons (ds_if (PWD.pt (dw_or (dt_cmp o_gt (de_callB c_len B.z_len bt_len (da_cons (de_ix (de_var 0) de_int) da_nil)) de_int) (dw_or1 (dt_not (dt_val (de_ofB (s_all rfl) B.z_all bt_all (dl_lc [("one", 1)] sc_law_is_rule.nd (di_seq (de_ix (de_var 0) de_int)) (own_name 1 fun _ _ _ _ _ => pg_name sc_law_is_rule.nd rfl (by first | exact Or.inl rfl | exact Or.inr rfl | exact Or.inr (Or.inl rfl))) (fun _ _ _ _ _ => dts_nil) (fun _ _ _ _ _ => (de_fn h_law_is_fraction (hr.mono (by decide)) hgd (da_cons (de_var 1) da_nil) (fun _ _ _ _ _ _ us ws h1 h2 => match us, ws, h1, h2 with | [_], [], _, _ => ⟨rfl, rfl⟩)))))))))) (dss_one (ds_ret de_bl)) dss_nil) (dss_cons (ds_if (PWD.pt (dw_or (dt_not (dt_val (de_fn h_law_is_whole (hr.mono (by decide)) hgd (da_cons (de_ix (de_var 0) de_int) (da_cons de_int (da_cons de_int da_nil))) (fun _ _ _ _ _ _ us ws h1 h2 => match us, ws, h1, h2 with | [_, _, _], [], _, _ => ⟨rfl, rfl⟩)))) (dw_or (dt_not (dt_val (de_fn h_law_is_whole (hr.mono (by decide)) hgd (da_cons (de_ix (de_var 0) de_int) (da_cons de_int (da_cons (de_ix (de_var 0) de_int) da_nil))) (fun _ _ _ _ _ _ us ws h1 h2 => match us, ws, h1, h2 with | [_, _, _], [], _, _ => ⟨rfl, rfl⟩)))) (dw_or1 (dt_cmp (o_ne hr.units) (de_fn h_law_divisor (hr.mono (by decide)) hgd (da_cons (de_ix (de_var 0) de_int) (da_cons (de_ix (de_var 0) de_int) da_nil)) (fun _ _ _ _ _ _ us ws h1 h2 => match us, ws, h1, h2 with | [_, _], [], _, _ => ⟨rfl, rfl⟩)) de_int))))) (dss_one (ds_ret de_bl)) dss_nil) (dss_cons (ds_setLc 2 [("many", 3)] sc_law_is_rule.nd (di_r1 B.z_range (da_cons (de_op o_plus (de_callB c_len B.z_len bt_len (da_cons (de_ix (de_var 0) de_int) da_nil)) de_int) da_nil)) (own_name 3 fun _ _ _ _ _ => pg_name sc_law_is_rule.nd rfl (by first | exact Or.inl rfl | exact Or.inr rfl | exact Or.inr (Or.inl rfl))) (fun _ _ _ _ _ => dts_nil) (fun _ _ _ _ _ => (de_fn h_law_post (hr.mono (by decide)) hgd (da_cons (de_var 0) (da_cons (de_var 3) da_nil)) (fun _ _ _ _ _ _ us ws h1 h2 => match us, ws, h1, h2 with | [_, _], [], _, _ => ⟨rfl, rfl⟩)))) (dss_cons (ds_if (dt_not (dt_val (de_ofB (s_all rfl) B.z_all bt_all (dl_lc [("near", 4), ("far", 5)] sc_law_is_rule.nd (di_z2 B.z_zip (de_var 2) (de_slice (de_var 2) (do_some de_int) do_none)) (own_pair 4 5 fun _ _ _ _ _ => pg_tup rfl (pgs_cons (pg_name (i := 4) sc_law_is_rule.nd rfl (by first | exact Or.inl rfl | exact Or.inr rfl | exact Or.inr (Or.inl rfl))) (pgs_cons (pg_name (i := 5) sc_law_is_rule.nd rfl (by first | exact Or.inl rfl | exact Or.inr rfl | exact Or.inr (Or.inl rfl))) pgs_nil))) (fun _ _ _ _ _ => dts_nil) (fun _ _ _ _ _ => (de_fn h_law_below (hr.mono (by decide)) hgd (da_cons (de_var 4) (da_cons (de_var 5) da_nil)) (fun _ _ _ _ _ _ us ws h1 h2 => match us, ws, h1, h2 with | [_, _], [], _, _ => ⟨rfl, rfl⟩))))))) (dss_one (ds_ret de_bl)) dss_nil) (dss_one (ds_ret (de_ofB (s_all rfl) B.z_all bt_all (dl_lc [("many", 3), ("post", 6)] sc_law_is_rule.nd (di_enum2 B.z_enumerate (de_slice (de_var 2) (do_some de_int) do_none)) (own_pair 3 6 fun _ _ _ _ _ => pg_tup rfl (pgs_cons (pg_name (i := 3) sc_law_is_rule.nd rfl (by first | exact Or.inl rfl | exact Or.inr rfl | exact Or.inr (Or.inl rfl))) (pgs_cons (pg_name (i := 6) sc_law_is_rule.nd rfl (by first | exact Or.inl rfl | exact Or.inr rfl | exact Or.inr (Or.inl rfl))) pgs_nil))) (fun _ _ _ _ _ => dts_nil) (fun _ _ _ _ _ => (de_chain o_le o_le (de_op o_times (de_var 3) (de_ix (de_var 6) de_int)) (de_ix (de_var 6) de_int) (de_op o_times (de_op o_plus (de_var 3) de_int) (de_ix (de_var 6) de_int))))))))))))),
    pf_law_is_rule⟩
theorem sc_is_race_any : FnScope ["value"] ["value"] (defScope S_is_race_any) := ⟨rfl, rfl, rfl, by decide +kernel, rfl, by decide +kernel, by decide +kernel⟩
theorem has_is_race_any (B : Bt mg) (C : Ct K mg) (h_is_tuple : Has P w K mg base 1 "is_tuple" S_is_tuple ["value", "many"] sp_is_tuple) (h_is_rule_any : Has P w K mg base 4 "is_rule_any" S_is_rule_any ["value"] sp_is_rule_any) (h_is_row_of_votes : Has P w K mg base 3 "is_row_of_votes" S_is_row_of_votes ["value"] sp_is_row_of_votes) (h_is_within : Has P w K mg base 2 "is_within" S_is_within ["value", "least", "most"] sp_is_within) (T : Txt K mg "is_race_any" S_is_race_any) : Has P w K mg base 5 "is_race_any" S_is_race_any ["value"] sp_is_race_any :=
  T.has sc_is_race_any len_is_race_any fun f cdv A outer s H hr hgd => ⟨db_is_race_any,
    (dss_cons (ds_if (PWD.pt (dw_or (dt_not (dt_val (de_fn h_is_tuple (hr.mono (by decide)) hgd (da_cons (de_var 0) (da_cons de_int da_nil)) (fun _ _ _ _ _ _ us ws h1 h2 => match us, ws, h1, h2 with | [_, _], [], _, _ => ⟨rfl, rfl⟩)))) (dw_or (dt_not (dt_val (de_callB c_isi B.z_isinstance bt_isinstance (da_cons (de_ix (de_var 0) de_int) (da_cons (de_ty B.z_str bt_str) da_nil))))) (dw_or (dt_cmp (o_ne hr.units) (de_ix (de_var 0) de_int) (de_glob C.c_RACE)) (dw_or1 (dt_not (dt_val (de_fn h_is_rule_any (hr.mono (by decide)) hgd (da_cons (de_ix (de_var 0) de_int) da_nil) (fun _ _ _ _ _ _ us ws h1 h2 => match us, ws, h1, h2 with | [_], [], _, _ => ⟨rfl, rfl⟩))))))))) (dss_one (ds_ret de_bl)) dss_nil) (dss_one (ds_ret (de_and (de_fn h_is_row_of_votes (hr.mono (by decide)) hgd (da_cons (de_ix (de_var 0) de_int) da_nil) (fun _ _ _ _ _ _ us ws h1 h2 => match us, ws, h1, h2 with | [_], [], _, _ => ⟨rfl, rfl⟩)) (de_one (de_fn h_is_within (hr.mono (by decide)) hgd (da_cons (de_ix (de_var 0) de_int) (da_cons de_int (da_cons (de_glob C.c_MOST_HOUSE) da_nil))) (fun _ _ _ _ _ _ us ws h1 h2 => match us, ws, h1, h2 with | [_, _, _], [], _, _ => ⟨rfl, rfl⟩))))))),
    pf_is_race_any⟩
theorem sc_is_rule : FnScope ["value"] ["value"] (defScope S_is_rule) := ⟨rfl, rfl, rfl, by decide +kernel, rfl, by decide +kernel, by decide +kernel⟩
theorem has_is_rule (h_is_rule_any : Has P w K mg base 4 "is_rule_any" S_is_rule_any ["value"] sp_is_rule_any) (T : Txt K mg "is_rule" S_is_rule) : Has P w K mg base 5 "is_rule" S_is_rule ["value"] sp_is_rule :=
  T.has sc_is_rule len_is_rule fun f cdv A outer s H hr hgd => ⟨db_is_rule,
    (dss_one (ds_ret (de_fn h_is_rule_any (hr.mono (by decide)) hgd (da_cons (de_var 0) da_nil) (fun _ _ _ _ _ _ us ws h1 h2 => match us, ws, h1, h2 with | [_], [], _, _ => ⟨rfl, rfl⟩)))),
    pf_is_rule⟩
theorem sc_law_is_race : FnScope ["value"] ["value"] (defScope S_law_is_race) := ⟨rfl, rfl, rfl, by decide +kernel, rfl, by decide +kernel, by decide +kernel⟩
theorem has_law_is_race (B : Bt mg) (h_law_is_rule : Has P w K mg base 4 "_law_is_rule" S_law_is_rule ["value"] sp_law_is_rule) (h_law_is_votes : Has P w K mg base 2 "_law_is_votes" S_law_is_votes ["value"] sp_law_is_votes) (h_law_is_whole : Has P w K mg base 1 "_law_is_whole" S_law_is_whole ["value", "least", "most"] sp_law_is_whole) (T : Txt K mg "_law_is_race" S_law_is_race) : Has P w K mg base 5 "_law_is_race" S_law_is_race ["value"] sp_law_is_race :=
  T.has sc_law_is_race len_law_is_race fun f cdv A outer s H hr hgd => ⟨db_law_is_race,
    (dss_cons (ds_if (PWD.pt (dw_or (dt_not (dt_val (de_callB c_isi B.z_isinstance bt_isinstance (da_cons (de_var 0) (da_cons (de_ty B.z_tuple bt_tuple) da_nil))))) (dw_or (dt_cmp (o_ne hr.units) (de_callB c_len B.z_len bt_len (da_cons (de_var 0) da_nil)) de_int) (dw_or (dt_not (dt_val (de_callB c_isi B.z_isinstance bt_isinstance (da_cons (de_ix (de_var 0) de_int) (da_cons (de_ty B.z_str bt_str) da_nil))))) (dw_or1 (dt_cmp (o_ne hr.units) (de_ix (de_var 0) de_int) de_str)))))) (dss_one (ds_ret de_bl)) dss_nil) (dss_one (ds_ret (de_and (de_fn h_law_is_rule (hr.mono (by decide)) hgd (da_cons (de_ix (de_var 0) de_int) da_nil) (fun _ _ _ _ _ _ us ws h1 h2 => match us, ws, h1, h2 with | [_], [], _, _ => ⟨rfl, rfl⟩)) (de_and (de_fn h_law_is_votes (hr.mono (by decide)) hgd (da_cons (de_ix (de_var 0) de_int) da_nil) (fun _ _ _ _ _ _ us ws h1 h2 => match us, ws, h1, h2 with | [_], [], _, _ => ⟨rfl, rfl⟩)) (de_one (de_fn h_law_is_whole (hr.mono (by decide)) hgd (da_cons (de_ix (de_var 0) de_int) (da_cons de_int (da_cons de_int da_nil))) (fun _ _ _ _ _ _ us ws h1 h2 => match us, ws, h1, h2 with | [_, _, _], [], _, _ => ⟨rfl, rfl⟩)))))))),
    pf_law_is_race⟩
theorem sc_want_race : FnScope ["race"] ["race"] (defScope S_want_race) := ⟨rfl, rfl, rfl, by decide +kernel, rfl, by decide +kernel, by decide +kernel⟩
theorem has_want_race (h_is_race_any : Has P w K mg base 5 "is_race_any" S_is_race_any ["value"] sp_is_race_any) (T : Txt K mg "want_race" S_want_race) : Has P w K mg base 6 "want_race" S_want_race ["race"] sp_want_race :=
  T.has sc_want_race len_want_race fun f cdv A outer s H hr hgd => ⟨db_want_race,
    (dss_one (ds_if (dt_not (dt_val (de_fn h_is_race_any (hr.mono (by decide)) hgd (da_cons (de_var 0) da_nil) (fun _ _ _ _ _ _ us ws h1 h2 => match us, ws, h1, h2 with | [_], [], _, _ => ⟨rfl, rfl⟩)))) (dss_one ds_never) dss_nil)),
    pf_want_race⟩
theorem sc_is_race : FnScope ["value"] ["value"] (defScope S_is_race) := ⟨rfl, rfl, rfl, by decide +kernel, rfl, by decide +kernel, by decide +kernel⟩
theorem has_is_race (h_is_race_any : Has P w K mg base 5 "is_race_any" S_is_race_any ["value"] sp_is_race_any) (T : Txt K mg "is_race" S_is_race) : Has P w K mg base 6 "is_race" S_is_race ["value"] sp_is_race :=
  T.has sc_is_race len_is_race fun f cdv A outer s H hr hgd => ⟨db_is_race,
    (dss_one (ds_ret (de_fn h_is_race_any (hr.mono (by decide)) hgd (da_cons (de_var 0) da_nil) (fun _ _ _ _ _ _ us ws h1 h2 => match us, ws, h1, h2 with | [_], [], _, _ => ⟨rfl, rfl⟩)))),
    pf_is_race⟩
theorem sc_is_deal : FnScope ["race", "value"] ["race", "value"] (defScope S_is_deal) := ⟨rfl, rfl, rfl, by decide +kernel, rfl, by decide +kernel, by decide +kernel⟩
theorem has_is_deal (h_want_race : Has P w K mg base 6 "want_race" S_want_race ["race"] sp_want_race) (h_is_deal_of : Has P w K mg base 3 "is_deal_of" S_is_deal_of ["race", "value"] sp_is_deal_of) (T : Txt K mg "is_deal" S_is_deal) : Has P w K mg base 7 "is_deal" S_is_deal ["race", "value"] sp_is_deal :=
  T.has sc_is_deal len_is_deal fun f cdv A outer s H hr hgd => ⟨db_is_deal,
    (dss_cons (ds_expr (de_fn h_want_race (hr.mono (by decide)) hgd (da_cons (de_var 0) da_nil) (fun _ _ _ _ _ _ us ws h1 h2 => match us, ws, h1, h2 with | [_], [], _, _ => ⟨rfl, rfl⟩))) (dss_one (ds_ret (de_fn h_is_deal_of (hr.mono (by decide)) hgd (da_cons (de_var 0) (da_cons (de_var 1) da_nil)) (fun _ _ _ _ _ _ us ws h1 h2 => match us, ws, h1, h2 with | [_, _], [], _, _ => ⟨rfl, rfl⟩))))),
    pf_is_deal⟩
theorem sc_law_asked : FnScope ["race", "value", "dues", "shown", "told", "named"] ["race", "value"] (defScope S_law_asked) := ⟨rfl, rfl, rfl, by decide +kernel, rfl, by decide +kernel, by decide +kernel⟩
theorem has_law_asked (B : Bt mg) (h_law_is_deal : Has P w K mg base 2 "_law_is_deal" S_law_is_deal ["race", "value"] sp_law_is_deal) (h_law_is_race : Has P w K mg base 5 "_law_is_race" S_law_is_race ["value"] sp_law_is_race) (h_law_is_votes : Has P w K mg base 2 "_law_is_votes" S_law_is_votes ["value"] sp_law_is_votes) (h_law_is_rule : Has P w K mg base 4 "_law_is_rule" S_law_is_rule ["value"] sp_law_is_rule) (h_is_deal : Has P w K mg base 7 "is_deal" S_is_deal ["race", "value"] sp_is_deal) (h_is_race : Has P w K mg base 6 "is_race" S_is_race ["value"] sp_is_race) (h_is_votes : Has P w K mg base 4 "is_votes" S_is_votes ["value"] sp_is_votes) (h_is_rule : Has P w K mg base 5 "is_rule" S_is_rule ["value"] sp_is_rule) (T : Txt K mg "_law_asked" S_law_asked) : Has P w K mg base 8 "_law_asked" S_law_asked ["race", "value"] sp_law_asked :=
  T.has sc_law_asked len_law_asked fun f cdv A outer s H hr hgd => ⟨db_law_asked,
    (dss_cons (ds_par 2 3 sc_law_asked.nd (da_cons (de_new (dl_lst (da_cons (de_fn h_law_is_rule (hr.mono (by decide)) hgd (da_cons (de_var 1) da_nil) (fun _ _ _ _ _ _ us ws h1 h2 => match us, ws, h1, h2 with | [_], [], _, _ => ⟨rfl, rfl⟩)) (da_cons (de_fn h_law_is_votes (hr.mono (by decide)) hgd (da_cons (de_var 1) da_nil) (fun _ _ _ _ _ _ us ws h1 h2 => match us, ws, h1, h2 with | [_], [], _, _ => ⟨rfl, rfl⟩)) (da_cons (de_fn h_law_is_race (hr.mono (by decide)) hgd (da_cons (de_var 1) da_nil) (fun _ _ _ _ _ _ us ws h1 h2 => match us, ws, h1, h2 with | [_], [], _, _ => ⟨rfl, rfl⟩)) (da_cons (de_fn h_law_is_deal (hr.mono (by decide)) hgd (da_cons (de_var 0) (da_cons (de_var 1) da_nil)) (fun _ _ _ _ _ _ us ws h1 h2 => match us, ws, h1, h2 with | [_, _], [], _, _ => ⟨rfl, rfl⟩)) da_nil)))))) (da_cons (de_callB (c_repr3 hgd hr.units) B.z_repr bt_repr (da_cons (de_var 1) da_nil)) da_nil))) (dss_cons (ds_asg (de_new (dl_lst (da_cons (de_fn h_is_rule (hr.mono (by decide)) hgd (da_cons (de_var 1) da_nil) (fun _ _ _ _ _ _ us ws h1 h2 => match us, ws, h1, h2 with | [_], [], _, _ => ⟨rfl, rfl⟩)) (da_cons (de_fn h_is_votes (hr.mono (by decide)) hgd (da_cons (de_var 1) da_nil) (fun _ _ _ _ _ _ us ws h1 h2 => match us, ws, h1, h2 with | [_], [], _, _ => ⟨rfl, rfl⟩)) (da_cons (de_fn h_is_race (hr.mono (by decide)) hgd (da_cons (de_var 1) da_nil) (fun _ _ _ _ _ _ us ws h1 h2 => match us, ws, h1, h2 with | [_], [], _, _ => ⟨rfl, rfl⟩)) (da_cons (de_fn h_is_deal (hr.mono (by decide)) hgd (da_cons (de_var 0) (da_cons (de_var 1) da_nil)) (fun _ _ _ _ _ _ us ws h1 h2 => match us, ws, h1, h2 with | [_, _], [], _, _ => ⟨rfl, rfl⟩)) da_nil)))))) (dg_name 4 sc_law_asked.nd)) (dss_cons (ds_asg (de_new (dl_lst (da_cons (de_fnK (ks := ["value"]) [0] h_is_rule (hr.mono (by decide)) hgd (dk_cons (de_var 1) dk_nil) (fun _ _ _ _ _ _ us ws h1 h2 => match us, ws, h1, h2 with | [], [_], _, _ => ⟨rfl, rfl⟩)) (da_cons (de_fnK (ks := ["value"]) [0] h_is_votes (hr.mono (by decide)) hgd (dk_cons (de_var 1) dk_nil) (fun _ _ _ _ _ _ us ws h1 h2 => match us, ws, h1, h2 with | [], [_], _, _ => ⟨rfl, rfl⟩)) (da_cons (de_fnK (ks := ["value"]) [0] h_is_race (hr.mono (by decide)) hgd (dk_cons (de_var 1) dk_nil) (fun _ _ _ _ _ _ us ws h1 h2 => match us, ws, h1, h2 with | [], [_], _, _ => ⟨rfl, rfl⟩)) (da_cons (de_fnK (ks := ["value", "race"]) [1, 0] h_is_deal (hr.mono (by decide)) hgd (dk_cons (de_var 1) (dk_cons (de_var 0) dk_nil)) (fun _ _ _ _ _ _ us ws h1 h2 => match us, ws, h1, h2 with | [], [_, _], _, _ => ⟨rfl, rfl⟩)) da_nil)))))) (dg_name 5 sc_law_asked.nd)) (dss_one (ds_ret (de_and (de_cmp (o_eq hr.units) (de_callB (c_repr3 hgd hr.units) B.z_repr bt_repr (da_cons (de_new (dl_lst (da_cons (de_var 4) (da_cons (de_var 5) da_nil)))) da_nil)) (de_callB (c_repr3 hgd hr.units) B.z_repr bt_repr (da_cons (de_new (dl_lst (da_cons (de_var 2) (da_cons (de_var 2) da_nil)))) da_nil))) (de_one (de_cmp (o_eq hr.units) (de_callB (c_repr3 hgd hr.units) B.z_repr bt_repr (da_cons (de_var 1) da_nil)) (de_var 3))))))))),
    pf_law_asked⟩
theorem sc_law_right : FnScope ["pot", "rule", "votes", "race", "deal", "left", "one", "values", "step", "value"] ["pot"] (defScope S_law_right) := ⟨rfl, rfl, rfl, by decide +kernel, rfl, by decide +kernel, by decide +kernel⟩
theorem has_law_right (B : Bt mg) (h_law_draw : Has P w K mg base 1 "_law_draw" S_law_draw ["pot", "many"] sp_law_draw) (h_law_votes : Has P w K mg base 3 "_law_votes" S_law_votes ["pot", "lists", "great"] sp_law_votes) (h_law_rule : Has P w K mg base 3 "_law_rule" S_law_rule ["pot"] sp_law_rule) (h_law_pick : Has P w K mg base 2 "_law_pick" S_law_pick ["pot", "some"] sp_law_pick) (h_law_bent : Has P w K mg base 3 "_law_bent" S_law_bent ["pot", "value"] sp_law_bent) (h_law_edges : Has P w K mg base 1 "_law_edges" S_law_edges [] sp_law_edges) (h_law_asked : Has P w K mg base 8 "_law_asked" S_law_asked ["race", "value"] sp_law_asked) (T : Txt K mg "_law_right" S_law_right) : Has P w K mg base 9 "_law_right" S_law_right ["pot"] sp_law_right :=
  T.has sc_law_right len_law_right fun f cdv A outer s H hr hgd => ⟨db_law_right,
    (dss_cons (ds_par 1 2 sc_law_right.nd (da_cons (de_fn h_law_rule (hr.mono (by decide)) hgd (da_cons (de_var 0) da_nil) (fun _ _ _ _ _ _ us ws h1 h2 => match us, ws, h1, h2 with | [_], [], _, _ => ⟨rfl, rfl⟩)) (da_cons (de_fn h_law_votes (hr.mono (by decide)) hgd (da_cons (de_var 0) (da_cons (de_op o_plus de_int (de_fn h_law_draw (hr.mono (by decide)) hgd (da_cons (de_var 0) (da_cons de_int da_nil)) (fun _ _ _ _ _ _ us ws h1 h2 => match us, ws, h1, h2 with | [_, _], [], _, _ => ⟨rfl, rfl⟩))) (da_cons de_bl da_nil))) (fun _ _ _ _ _ _ us ws h1 h2 => match us, ws, h1, h2 with | [_, _, _], [], _, _ => ⟨rfl, rfl⟩)) da_nil))) (dss_cons (ds_asg (de_tup (da_cons (de_tup (da_cons de_str (da_cons (de_var 1) (da_cons (de_var 2) (da_cons (de_fn h_law_pick (hr.mono (by decide)) hgd (da_cons (de_var 0) (da_cons (de_new (dl_lst (da_cons de_int (da_cons de_int (da_cons de_int (da_cons de_int da_nil)))))) da_nil)) (fun _ _ _ _ _ _ us ws h1 h2 => match us, ws, h1, h2 with | [_, _], [], _, _ => ⟨rfl, rfl⟩)) da_nil))))) (da_cons (de_new (dl_lst da_nil)) da_nil))) (dg_tup (dgs_cons (dg_name 3 sc_law_right.nd) (dgs_cons (dg_name 4 sc_law_right.nd) dgs_nil)))) (dss_cons (ds_asg (de_ix (de_var 3) de_int) (dg_name 5 sc_law_right.nd)) (dss_cons (ds_for (di_seq (de_slice (de_var 2) (do_some de_int) do_none)) (dg_name 6 sc_law_right.nd) (dss_cons (ds_expr (de_append (de_var 4) (de_fn h_law_draw (hr.mono (by decide)) hgd (da_cons (de_var 0) (da_cons (de_op o_plus (de_var 5) de_int) da_nil)) (fun _ _ _ _ _ _ us ws h1 h2 => match us, ws, h1, h2 with | [_, _], [], _, _ => ⟨rfl, rfl⟩)))) (dss_one (ds_asg (de_op o_sub (de_var 5) (de_ix (de_var 4) (de_neg de_int))) (dg_name 5 sc_law_right.nd))))) (dss_cons (ds_asg (de_callTy s_tup.call B.z_tuple bt_tuple (da_cons (de_op o_plus (de_var 4) (de_new (dl_lst (da_cons (de_var 5) da_nil)))) da_nil)) (dg_name 4 sc_law_right.nd)) (dss_cons (ds_asg (de_new (dl_lst (da_cons (de_var 1) (da_cons (de_var 2) (da_cons (de_var 3) (da_cons (de_var 4) (da_cons (de_rev (de_var 4)) (da_cons (de_slice (de_var 4) do_none (do_some (de_neg de_int))) (da_cons (de_new (dl_callTy s_lst.call B.z_list bt_list (da_cons (de_var 4) da_nil))) (da_cons (de_op o_plus (de_var 4) (de_tup (da_cons de_int da_nil))) (da_cons (de_op o_plus (de_tup (da_cons (de_op o_plus (de_ix (de_var 3) de_int) de_int) (da_cons (de_neg de_int) da_nil))) (de_op o_times2 (de_tup (da_cons de_int da_nil)) (de_callB (c_max rfl) B.z_max bt_max (da_cons de_int (da_cons (de_op o_sub (de_callB c_len B.z_len bt_len (da_cons (de_var 2) da_nil)) de_int) da_nil))))) da_nil))))))))))) (dg_name 7 sc_law_right.nd)) (dss_cons (ds_for (di_r1 B.z_range (da_cons de_int da_nil)) (dg_name 8 sc_law_right.nd) (dss_one (ds_asg (de_op o_plus (de_var 7) (de_new (dl_lst (da_cons (de_fn h_law_bent (hr.mono (by decide)) hgd (da_cons (de_var 0) (da_cons (de_var 1) da_nil)) (fun _ _ _ _ _ _ us ws h1 h2 => match us, ws, h1, h2 with | [_, _], [], _, _ => ⟨rfl, rfl⟩)) (da_cons (de_fn h_law_bent (hr.mono (by decide)) hgd (da_cons (de_var 0) (da_cons (de_var 2) da_nil)) (fun _ _ _ _ _ _ us ws h1 h2 => match us, ws, h1, h2 with | [_, _], [], _, _ => ⟨rfl, rfl⟩)) (da_cons (de_fn h_law_bent (hr.mono (by decide)) hgd (da_cons (de_var 0) (da_cons (de_var 3) da_nil)) (fun _ _ _ _ _ _ us ws h1 h2 => match us, ws, h1, h2 with | [_, _], [], _, _ => ⟨rfl, rfl⟩)) (da_cons (de_fn h_law_bent (hr.mono (by decide)) hgd (da_cons (de_var 0) (da_cons (de_var 4) da_nil)) (fun _ _ _ _ _ _ us ws h1 h2 => match us, ws, h1, h2 with | [_, _], [], _, _ => ⟨rfl, rfl⟩)) da_nil))))))) (dg_name 7 sc_law_right.nd)))) (dss_one (ds_ret (de_ofB (s_all rfl) B.z_all bt_all (dl_lc [("value", 9)] sc_law_right.nd (di_seq (de_op o_plus (de_var 7) (de_fn0 h_law_edges (hr.mono (by decide)) hgd (fun _ _ _ _ _ _ us ws h1 h2 => match us, ws, h1, h2 with | [], [], _, _ => ⟨rfl, rfl⟩)))) (own_name 9 fun _ _ _ _ _ => pg_name sc_law_right.nd rfl (by first | exact Or.inl rfl | exact Or.inr rfl | exact Or.inr (Or.inl rfl))) (fun _ _ _ _ _ => dts_nil) (fun _ _ _ _ _ => (de_fn h_law_asked (hr.mono (by decide)) hgd (da_cons (de_var 3) (da_cons (de_var 9) da_nil)) (fun _ _ _ _ _ _ us ws h1 h2 => match us, ws, h1, h2 with | [_, _], [], _, _ => ⟨rfl, rfl⟩)))))))))))))),
    pf_law_right⟩
theorem sc_law : FnScope ["script", "k"] ["script"] (defScope S_law) := ⟨rfl, rfl, rfl, by decide +kernel, rfl, by decide +kernel, by decide +kernel⟩
theorem has_law (B : Bt mg) (h_law_pot : Has P w K mg base 1 "_law_pot" S_law_pot ["script", "k"] sp_law_pot) (h_law_right : Has P w K mg base 9 "_law_right" S_law_right ["pot"] sp_law_right) (T : Txt K mg "law" S_law) : Has P w K mg base 10 "law" S_law ["script"] sp_law :=
  T.has sc_law len_law fun f cdv A outer s H hr hgd => ⟨db_law,
    (dss_one (ds_ret (de_ofB (s_all rfl) B.z_all bt_all (dl_lc [("k", 1)] sc_law.nd (di_r1 B.z_range (da_cons (de_callB (c_max rfl) B.z_max bt_max (da_cons de_int (da_cons (de_callB (c_min rfl) B.z_min bt_min (da_cons de_int (da_cons (de_callB c_len B.z_len bt_len (da_cons (de_var 0) da_nil)) da_nil))) da_nil))) da_nil)) (own_name 1 fun _ _ _ _ _ => pg_name sc_law.nd rfl (by first | exact Or.inl rfl | exact Or.inr rfl | exact Or.inr (Or.inl rfl))) (fun _ _ _ _ _ => dts_nil) (fun _ _ _ _ _ => (de_fn h_law_right (hr.mono (by decide)) hgd (da_cons (de_fn h_law_pot (hr.mono (by decide)) hgd (da_cons (de_var 0) (da_cons (de_var 1) da_nil)) (fun _ _ _ _ _ _ us ws h1 h2 => match us, ws, h1, h2 with | [_, _], [], _, _ => ⟨rfl, rfl⟩)) da_nil) (fun _ _ _ _ _ _ us ws h1 h2 => match us, ws, h1, h2 with | [_], [], _, _ => ⟨rfl, rfl⟩))))))),
    pf_law⟩
end
theorem law_has {P : Program} {w : World} {K : PySem.W.Frag} {h : Heap} {mg : Str → Option Value} (X : K.In h) (G : h.Ns mainGlobals mg) (c : He.SaysD fa fn K) (base : Heap) : Has P w K mg base 10 "law" S_law ["script"] sp_law := by
  have B : Bt mg := ⟨He.free_ok X G (c.fact 40 (f := .free "abs") rfl), He.free_ok X G (c.fact 41 (f := .free "all") rfl), He.free_ok X G (c.fact 42 (f := .free "bool") rfl), He.free_ok X G (c.fact 43 (f := .free "divmod") rfl), He.free_ok X G (c.fact 44 (f := .free "enumerate") rfl), He.free_ok X G (c.fact 45 (f := .free "int") rfl), He.free_ok X G (c.fact 46 (f := .free "isinstance") rfl), He.free_ok X G (c.fact 47 (f := .free "len") rfl), He.free_ok X G (c.fact 48 (f := .free "list") rfl), He.free_ok X G (c.fact 49 (f := .free "max") rfl), He.free_ok X G (c.fact 50 (f := .free "min") rfl), He.free_ok X G (c.fact 51 (f := .free "range") rfl), He.free_ok X G (c.fact 52 (f := .free "repr") rfl), He.free_ok X G (c.fact 53 (f := .free "str") rfl), He.free_ok X G (c.fact 54 (f := .free "sum") rfl), He.free_ok X G (c.fact 55 (f := .free "tuple") rfl), He.free_ok X G (c.fact 56 (f := .free "zip") rfl)⟩
  have C : Ct K mg := ⟨gc_int X G c 57 rfl, gc_int X G c 58 rfl, gc_int X G c 59 rfl, gc_int X G c 60 rfl, gc_int X G c 61 rfl, gc_str X G c 62 rfl, gc_str X G c 63 rfl⟩
  have h_is_integer := has_is_integer (P := P) (w := w) (K := K) (mg := mg) (base := base) B (txt_of X G c 0 0 rfl rfl)
  have h_is_tuple := has_is_tuple (P := P) (w := w) (K := K) (mg := mg) (base := base) B (txt_of X G c 1 1 rfl rfl)
  have h_common := has_common (P := P) (w := w) (K := K) (mg := mg) (base := base) B (txt_of X G c 2 2 rfl rfl)
  have h_is_less := has_is_less (P := P) (w := w) (K := K) (mg := mg) (base := base) (txt_of X G c 3 3 rfl rfl)
  have h_is_at_most := has_is_at_most (P := P) (w := w) (K := K) (mg := mg) (base := base) (txt_of X G c 4 4 rfl rfl)
  have h_law_pot := has_law_pot (P := P) (w := w) (K := K) (mg := mg) (base := base) B (txt_of X G c 5 5 rfl rfl)
  have h_law_draw := has_law_draw (P := P) (w := w) (K := K) (mg := mg) (base := base) B (txt_of X G c 6 6 rfl rfl)
  have h_law_divisor := has_law_divisor (P := P) (w := w) (K := K) (mg := mg) (base := base) B (txt_of X G c 7 7 rfl rfl)
  have h_law_below := has_law_below (P := P) (w := w) (K := K) (mg := mg) (base := base) (txt_of X G c 8 8 rfl rfl)
  have h_law_is_whole := has_law_is_whole (P := P) (w := w) (K := K) (mg := mg) (base := base) B (txt_of X G c 9 9 rfl rfl)
  have h_law_edges := has_law_edges (P := P) (w := w) (K := K) (mg := mg) (base := base) (txt_of X G c 10 10 rfl rfl)
  have h_is_within := has_is_within (P := P) (w := w) (K := K) (mg := mg) (base := base) h_is_integer (txt_of X G c 11 11 rfl rfl)
  have h_is_count := has_is_count (P := P) (w := w) (K := K) (mg := mg) (base := base) h_is_integer (txt_of X G c 12 12 rfl rfl)
  have h_lowest := has_lowest (P := P) (w := w) (K := K) (mg := mg) (base := base) B h_common (txt_of X G c 13 13 rfl rfl)
  have h_is_fraction_any := has_is_fraction_any (P := P) (w := w) (K := K) (mg := mg) (base := base) B h_is_tuple h_is_integer h_common (txt_of X G c 14 14 rfl rfl)
  have h_law_pick := has_law_pick (P := P) (w := w) (K := K) (mg := mg) (base := base) B h_law_draw (txt_of X G c 15 15 rfl rfl)
  have h_law_lowest := has_law_lowest (P := P) (w := w) (K := K) (mg := mg) (base := base) h_law_divisor (txt_of X G c 16 16 rfl rfl)
  have h_law_is_fraction := has_law_is_fraction (P := P) (w := w) (K := K) (mg := mg) (base := base) B h_law_divisor (txt_of X G c 17 17 rfl rfl)
  have h_law_is_votes := has_law_is_votes (P := P) (w := w) (K := K) (mg := mg) (base := base) B h_law_is_whole (txt_of X G c 18 18 rfl rfl)
  have h_law_is_deal := has_law_is_deal (P := P) (w := w) (K := K) (mg := mg) (base := base) B h_law_is_whole (txt_of X G c 19 19 rfl rfl)
  have h_is_small := has_is_small (P := P) (w := w) (K := K) (mg := mg) (base := base) C h_is_fraction_any (txt_of X G c 20 20 rfl rfl)
  have h_signpost := has_signpost (P := P) (w := w) (K := K) (mg := mg) (base := base) B h_lowest (txt_of X G c 21 21 rfl rfl)
  have h_is_row_of_votes := has_is_row_of_votes (P := P) (w := w) (K := K) (mg := mg) (base := base) B C h_is_within (txt_of X G c 22 22 rfl rfl)
  have h_is_deal_of := has_is_deal_of (P := P) (w := w) (K := K) (mg := mg) (base := base) B h_is_tuple h_is_count (txt_of X G c 23 23 rfl rfl)
  have h_law_rule := has_law_rule (P := P) (w := w) (K := K) (mg := mg) (base := base) h_law_draw h_law_pick h_law_lowest (txt_of X G c 24 24 rfl rfl)
  have h_law_post := has_law_post (P := P) (w := w) (K := K) (mg := mg) (base := base) B h_law_lowest (txt_of X G c 25 25 rfl rfl)
  have h_law_votes := has_law_votes (P := P) (w := w) (K := K) (mg := mg) (base := base) B h_law_draw h_law_pick (txt_of X G c 26 26 rfl rfl)
  have h_law_bent := has_law_bent (P := P) (w := w) (K := K) (mg := mg) (base := base) B h_law_draw h_law_pick (txt_of X G c 27 27 rfl rfl)
  have h_is_rule_any := has_is_rule_any (P := P) (w := w) (K := K) (mg := mg) (base := base) B C h_is_tuple h_is_small h_is_within h_common h_signpost h_is_less h_is_at_most (txt_of X G c 28 28 rfl rfl)
  have h_is_votes := has_is_votes (P := P) (w := w) (K := K) (mg := mg) (base := base) h_is_row_of_votes (txt_of X G c 29 29 rfl rfl)
  have h_law_is_rule := has_law_is_rule (P := P) (w := w) (K := K) (mg := mg) (base := base) B h_law_is_fraction h_law_is_whole h_law_divisor h_law_post h_law_below (txt_of X G c 30 30 rfl rfl)
  have h_is_race_any := has_is_race_any (P := P) (w := w) (K := K) (mg := mg) (base := base) B C h_is_tuple h_is_rule_any h_is_row_of_votes h_is_within (txt_of X G c 31 31 rfl rfl)
  have h_is_rule := has_is_rule (P := P) (w := w) (K := K) (mg := mg) (base := base) h_is_rule_any (txt_of X G c 32 32 rfl rfl)
  have h_law_is_race := has_law_is_race (P := P) (w := w) (K := K) (mg := mg) (base := base) B h_law_is_rule h_law_is_votes h_law_is_whole (txt_of X G c 33 33 rfl rfl)
  have h_want_race := has_want_race (P := P) (w := w) (K := K) (mg := mg) (base := base) h_is_race_any (txt_of X G c 34 34 rfl rfl)
  have h_is_race := has_is_race (P := P) (w := w) (K := K) (mg := mg) (base := base) h_is_race_any (txt_of X G c 35 35 rfl rfl)
  have h_is_deal := has_is_deal (P := P) (w := w) (K := K) (mg := mg) (base := base) h_want_race h_is_deal_of (txt_of X G c 36 36 rfl rfl)
  have h_law_asked := has_law_asked (P := P) (w := w) (K := K) (mg := mg) (base := base) B h_law_is_deal h_law_is_race h_law_is_votes h_law_is_rule h_is_deal h_is_race h_is_votes h_is_rule (txt_of X G c 37 37 rfl rfl)
  have h_law_right := has_law_right (P := P) (w := w) (K := K) (mg := mg) (base := base) B h_law_draw h_law_votes h_law_rule h_law_pick h_law_bent h_law_edges h_law_asked (txt_of X G c 38 38 rfl rfl)
  have h_law := has_law (P := P) (w := w) (K := K) (mg := mg) (base := base) B h_law_pot h_law_right (txt_of X G c 39 39 rfl rfl)
  exact h_law
end K10
open PySem PySem.W PySem.Calls PyProof.Rows
set_option maxHeartbeats 0 in
theorem PySem.Challenge.cw_seatworks_k10_any_value_as_rule_race_dea_holds : PySem.Challenge.rw_seatworks_k10_any_value_as_rule_race_dea.Holds := by
  w_on; o_law
  refine HandSHeadRun.head_any (r := K10.topR) (q := view K10.topR.prog [57]) (H := K10.topK) (ob := K10.topB) (M := 6000) (loose := K10.names) (d := HandSHeadRun.topDef K10.topR.prog 57) (kwd := []) K10.topB_eq
    (by kernel_rfl) (fun s => by kernel_rfl) K10.topRun (by kernel_rfl) (by kernel_rfl) (by kernel_rfl) (by rfl) (by first | assumption | decide +kernel) (by decide +kernel) ⟨rfl, rfl, rfl, rfl, rfl, by decide +kernel⟩ ?hw ?hc
  case hw => w_witness2
  case hc =>
    refine Dl.walk_ofD (l := PySem.Challenge.rw_seatworks_k10_any_value_as_rule_race_dea) (n := 63) (k := 10) (x := "script") (st := K10.S_law) (sp := K10.sp_law) rfl (by decide) (by kernel_rfl) ⟨rfl, by decide, by decide⟩ ?F ?bd (fun ns Q hl hQ => ⟨ns, rfl, hl, hQ _⟩)
    case F =>
      intro w mg h Y G
      obtain ⟨K, X, c⟩ := Y
      exact ⟨K, X, fun base => K10.law_has X G c base⟩
    case bd =>
      intro kV doc pm an cdv ct u
      rfl
