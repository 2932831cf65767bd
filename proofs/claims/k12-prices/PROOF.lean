import PyProof.Rows.All
import Wide.All
import OpenK.AllK
import Wide.FinOn
import KE.KStateDown
import HandS.Comp
import HandS.List
import HandS.Iter
import HandS.Conv
import HandS.Ends
import HandS.Wide
import HandS.IsInst
import HandS.TupAny
import HandS.ForMost
import KE.GoesEnum
import KE.GoesMore
import HandS.Style
import PyProof.P3Eq
import PyProof.ReprBulk
import HandS.HeadEnd
import HandS.HeadHook1
import HandS.HeadHook2
import HandS.Head0
import HandS.Head1
import HandS.Head2
import PySem.Challenge.RW_seatworks_k12_whole_prices_and_rows_of_s
set_option Elab.async false
set_option linter.all false
set_option maxRecDepth 100000
set_option maxHeartbeats 4000000
/-! Dat0: a store of plain data over the hand layer's heaps: values D, stores Mu, how both lie in a heap. -/
namespace Dl
open PySem PySem.Spec PyProof.Rows L2

/-- plain data; a list that may change is a cell of the store -/
inductive D where
  | non | bl (b : Bool) | int (i : Int) | str (x : Str) | tup (ds : List D) | frz (ds : List D) | cell (k : Nat) | ty (n : String)
abbrev Mu := Nat → Option (List D)
def Mu.upd (μ : Mu) (k : Nat) (xs : List D) : Mu := fun j => if j = k then some xs else μ j
/-- knows no more -/
def Mu.Sub (μ' μ : Mu) : Prop := ∀ k xs, μ' k = some xs → μ k = some xs
theorem Mu.Sub.refl (μ : Mu) : Mu.Sub μ μ := fun _ _ h => h
theorem Mu.Sub.trans {a b c : Mu} (h : Mu.Sub a b) (g : Mu.Sub b c) : Mu.Sub a c := fun k xs e => g k xs (h k xs e)
@[simp] theorem Mu.upd_same {μ : Mu} {k : Nat} {xs : List D} : μ.upd k xs k = some xs := if_pos rfl
theorem Mu.upd_ne {μ : Mu} {j k : Nat} {xs : List D} (h : j ≠ k) : μ.upd k xs j = μ j := if_neg h
theorem Mu.upd_upd {μ : Mu} {k : Nat} {xs ys : List D} : (μ.upd k xs).upd k ys = μ.upd k ys := by
  funext j
  unfold Mu.upd
  split <;> rfl
theorem Mu.sub_upd {μ : Mu} {k : Nat} {xs : List D} (h : μ k = none) : Mu.Sub μ (μ.upd k xs) := fun j ys e => by
  rw [Mu.upd_ne]
  · exact e
  · intro z
    rw [z, h] at e
    cases e
theorem Mu.Sub.upd {μ' μ : Mu} (s : Mu.Sub μ' μ) (k : Nat) (xs : List D) : Mu.Sub (μ'.upd k xs) (μ.upd k xs) := fun j ys e => by
  by_cases h : j = k
  · subst h
    rw [Mu.upd_same] at e ⊢
    exact e
  · rw [Mu.upd_ne h] at e ⊢
    exact s j ys e
theorem Mu.ne_of {μ : Mu} {j k : Nat} {xs : List D} (h : μ j = some xs) (g : μ k = none) : j ≠ k := fun e => by
  rw [e, g] at h
  cases h

/-! ### how heaps grow -/
structure Ext (H H' : Hp) : Prop where
  tup : ∀ a xs, H a = some (.tup xs) → H' a = some (.tup xs)
  frz : ∀ a o u, H a = some (.frz o u) → H' a = some (.frz o u)
  live : ∀ a o, H a = some o → ∃ o', H' a = some o'
theorem Ext.refl (H : Hp) : Ext H H := ⟨fun _ _ h => h, fun _ _ _ h => h, fun _ o h => ⟨o, h⟩⟩
theorem Ext.trans {H H1 H2 : Hp} (a : Ext H H1) (b : Ext H1 H2) : Ext H H2 :=
  ⟨fun c xs h => b.tup c xs (a.tup c xs h), fun c o u h => b.frz c o u (a.frz c o u h), fun c o h => by
    obtain ⟨o', h'⟩ := a.live c o h
    exact b.live c o' h'⟩
theorem Ext.new {H : Hp} {p : Addr} {o : HO} (h : H p = none) : Ext H (upd H p o) :=
  ⟨fun a xs e => by rw [L2.upd_ne (L2.ne_of_none e h)]; exact e, fun a ob u e => by rw [L2.upd_ne (L2.ne_of_none e h)]; exact e,
    fun a ob e => ⟨ob, by rw [L2.upd_ne (L2.ne_of_none e h)]; exact e⟩⟩
theorem Ext.lst {H : Hp} {p : Addr} {vs ws : List V} (h : H p = some (.lst vs)) : Ext H (upd H p (.lst ws)) :=
  ⟨fun a xs e => by rw [L2.upd_ne (L2.ne_of e h (by intro z; cases z))]; exact e, fun a ob u e => by rw [L2.upd_ne (L2.ne_of e h (by intro z; cases z))]; exact e,
    fun a ob e => by
      by_cases q : a = p
      · exact ⟨_, by rw [q, L2.upd_same]⟩
      · exact ⟨ob, by rw [L2.upd_ne q]; exact e⟩⟩

/-- a list that never changes: the script, or one of the written part -/
def FrzL (K : PySem.W.Frag) (H : Hp) (a : Addr) (xs : List V) : Prop := (∃ o, H a = some (.frz o (.lst xs))) ∨ SqL K (fun _ => none) a xs
theorem none_seq {K : PySem.W.Frag} {H : Hp} {a : Addr} {xs : List V} (h : SqL K (fun _ => none) a xs) : SqL K H a xs := by
  rcases h with h | h
  · rcases h with h | ⟨o, h⟩
    · cases h
    · cases h
  · exact .inr h
theorem FrzL.seq {K : PySem.W.Frag} {H : Hp} {a : Addr} {xs : List V} (h : FrzL K H a xs) : SqL K H a xs := by
  rcases h with ⟨o, h⟩ | h
  · exact .inl (.inr ⟨o, h⟩)
  · exact none_seq h
theorem Ext.seqT {K : PySem.W.Frag} {H H' : Hp} {a : Addr} {xs : List V} (e : Ext H H') (h : SqT K H a xs) : SqT K H' a xs := by
  rcases h with (h | ⟨o, h⟩) | h
  · exact .inl (.inl (e.tup _ _ h))
  · exact .inl (.inr ⟨o, e.frz _ _ _ h⟩)
  · exact .inr h
theorem Ext.frzL {K : PySem.W.Frag} {H H' : Hp} {a : Addr} {xs : List V} (e : Ext H H') (h : FrzL K H a xs) : FrzL K H' a xs := by
  rcases h with ⟨o, h⟩ | h
  · exact .inl ⟨o, e.frz _ _ _ h⟩
  · exact .inr h

/-- addresses of cells, and the heap, grown -/
structure Gr (α : List Addr) (H : Hp) (α' : List Addr) (H' : Hp) : Prop where
  pre : ∀ (k : Nat) a, α[k]? = some a → α'[k]? = some a
  ext : Ext H H'
theorem Gr.refl (α : List Addr) (H : Hp) : Gr α H α H := ⟨fun _ _ h => h, Ext.refl H⟩
theorem Gr.trans {α α1 α2 : List Addr} {H H1 H2 : Hp} (a : Gr α H α1 H1) (b : Gr α1 H1 α2 H2) : Gr α H α2 H2 := ⟨fun k c h => b.pre k c (a.pre k c h), a.ext.trans b.ext⟩

mutual
inductive Rl (K : PySem.W.Frag) (α : List Addr) (H : Hp) : V → D → Prop
  | non : Rl K α H .non .non
  | bl (b : Bool) : Rl K α H (.bl b) (.bl b)
  | int (i : Int) : Rl K α H (.int i) (.int i)
  | str (x : Str) : Rl K α H (.str x) (.str x)
  | ty (n : String) : Rl K α H (.ty n) (.ty n)
  | tup {a : Addr} {vs : List V} {ds : List D} : SqT K H a vs → RlAll K α H vs ds → Rl K α H (.ref a) (.tup ds)
  | frz {a : Addr} {vs : List V} {ds : List D} : FrzL K H a vs → RlAll K α H vs ds → Rl K α H (.ref a) (.frz ds)
  | cell {a : Addr} {k : Nat} : α[k]? = some a → Rl K α H (.ref a) (.cell k)
inductive RlAll (K : PySem.W.Frag) (α : List Addr) (H : Hp) : List V → List D → Prop
  | nil : RlAll K α H [] []
  | cons {v : V} {vs : List V} {d : D} {ds : List D} : Rl K α H v d → RlAll K α H vs ds → RlAll K α H (v :: vs) (d :: ds)
end

section
variable {K : PySem.W.Frag} {α α' : List Addr} {H H' : Hp}
mutual
theorem Rl.mono (g : Gr α H α' H') : ∀ {v : V} {d : D}, Rl K α H v d → Rl K α' H' v d
  | _, _, .non => .non
  | _, _, .bl b => .bl b
  | _, _, .int i => .int i
  | _, _, .str x => .str x
  | _, _, .ty n => .ty n
  | _, _, .tup s r => .tup (g.ext.seqT s) (RlAll.mono g r)
  | _, _, .frz s r => .frz (g.ext.frzL s) (RlAll.mono g r)
  | _, _, .cell h => .cell (g.pre _ _ h)
theorem RlAll.mono (g : Gr α H α' H') : ∀ {vs : List V} {ds : List D}, RlAll K α H vs ds → RlAll K α' H' vs ds
  | _, _, .nil => .nil
  | _, _, .cons a b => .cons (Rl.mono g a) (RlAll.mono g b)
end
theorem RlAll.length : ∀ {vs : List V} {ds : List D}, RlAll K α H vs ds → vs.length = ds.length
  | _, _, .nil => rfl
  | _, _, .cons _ b => by rw [List.length_cons, List.length_cons, RlAll.length b]
theorem RlAll.append : ∀ {vs ws : List V} {ds es : List D}, RlAll K α H vs ds → RlAll K α H ws es → RlAll K α H (vs ++ ws) (ds ++ es)
  | _, _, _, _, .nil, r => r
  | _, _, _, _, .cons a b, r => .cons a (RlAll.append b r)
theorem RlAll.get : ∀ {vs : List V} {ds : List D} {i : Nat} {d : D}, RlAll K α H vs ds → ds[i]? = some d → ∃ v, vs[i]? = some v ∧ Rl K α H v d
  | _, _, _, _, .nil, e => by simp at e
  | _, _, 0, _, .cons a _, e => by
    simp at e
    subst e
    exact ⟨_, rfl, a⟩
  | _, _, i + 1, d, .cons _ b, e => by
    obtain ⟨v, h1, h2⟩ := RlAll.get (i := i) (d := d) b (by simpa using e)
    exact ⟨v, by simpa using h1, h2⟩
theorem RlAll.getV : ∀ {vs : List V} {ds : List D} {i : Nat} {v : V}, RlAll K α H vs ds → vs[i]? = some v → ∃ d, ds[i]? = some d ∧ Rl K α H v d
  | _, _, _, _, .nil, e => by simp at e
  | _, _, 0, _, .cons a _, e => by
    simp at e
    subst e
    exact ⟨_, rfl, a⟩
  | _, _, i + 1, v, .cons _ b, e => by
    obtain ⟨d, h1, h2⟩ := RlAll.getV (i := i) (v := v) b (by simpa using e)
    exact ⟨d, by simpa using h1, h2⟩
theorem RlAll.set {v : V} {d : D} (r : Rl K α H v d) : ∀ {vs : List V} {ds : List D} (i : Nat), RlAll K α H vs ds → RlAll K α H (vs.set i v) (ds.set i d)
  | _, _, _, .nil => .nil
  | _, _, 0, .cons _ b => .cons r b
  | _, _, i + 1, .cons a b => .cons a (RlAll.set r i b)
theorem RlAll.take : ∀ {vs : List V} {ds : List D} (n : Nat), RlAll K α H vs ds → RlAll K α H (vs.take n) (ds.take n)
  | _, _, 0, _ => .nil
  | _, _, _ + 1, .nil => .nil
  | _, _, n + 1, .cons a b => .cons a (RlAll.take n b)
theorem RlAll.drop : ∀ {vs : List V} {ds : List D} (n : Nat), RlAll K α H vs ds → RlAll K α H (vs.drop n) (ds.drop n)
  | _, _, 0, r => r
  | _, _, _ + 1, .nil => .nil
  | _, _, n + 1, .cons _ b => RlAll.drop n b
theorem RlAll.flat : ∀ (n : Nat) {vs : List V} {ds : List D}, RlAll K α H vs ds → RlAll K α H (List.replicate n vs).flatten (List.replicate n ds).flatten
  | 0, _, _, _ => .nil
  | n + 1, _, _, r => by
    rw [List.replicate_succ, List.replicate_succ, List.flatten_cons, List.flatten_cons]
    exact r.append (RlAll.flat n r)
theorem RlAll.nilV {ds : List D} (r : RlAll K α H [] ds) : ds = [] := by cases r; rfl
theorem RlAll.rev : ∀ {vs : List V} {ds : List D}, RlAll K α H vs ds → RlAll K α H vs.reverse ds.reverse
  | _, _, .nil => .nil
  | _, _, .cons a b => by
    rw [List.reverse_cons, List.reverse_cons]
    exact (RlAll.rev b).append (.cons a .nil)
theorem rlInts : ∀ (ns : List Int), RlAll K α H (ns.map V.int) (ns.map D.int)
  | [] => .nil
  | n :: ns => .cons (.int n) (rlInts ns)
theorem RlAll.ints : ∀ {vs : List V} {ns : List Int}, RlAll K α H vs (ns.map D.int) → vs = ns.map V.int
  | _, [], r => by cases r; rfl
  | _, n :: ns, r => by
    cases r with
    | cons a b =>
      cases a
      rw [RlAll.ints b]
      rfl
theorem RlAll.bls : ∀ {vs : List V} {ns : List Bool}, RlAll K α H vs (ns.map D.bl) → vs = ns.map V.bl
  | _, [], r => by cases r; rfl
  | _, n :: ns, r => by
    cases r with
    | cons a b =>
      cases a
      rw [RlAll.bls b]
      rfl

/-- the store lies in the heap -/
structure Sat (K : PySem.W.Frag) (α : List Addr) (H : Hp) (μ : Mu) : Prop where
  cell : ∀ k xs, μ k = some xs → ∃ a vs, α[k]? = some a ∧ H a = some (.lst vs) ∧ RlAll K α H vs xs
  inj : ∀ (j k : Nat) a, α[j]? = some a → α[k]? = some a → j = k
  live : ∀ (k : Nat) a, α[k]? = some a → ∃ o, H a = some o
theorem Sat.sub {μ μ' : Mu} (s : Sat K α H μ) (h : Mu.Sub μ' μ) : Sat K α H μ' := ⟨fun k xs e => s.cell k xs (h k xs e), s.inj, s.live⟩
theorem Sat.fresh {μ : Mu} (s : Sat K α H μ) : μ α.length = none := by
  cases e : μ α.length with
  | none => rfl
  | some xs =>
    obtain ⟨a, vs, h, _⟩ := s.cell _ _ e
    rw [List.getElem?_eq_none (Nat.le_refl _)] at h
    cases h
theorem gr_push {a : Addr} (e : Ext H H') : Gr α H (α ++ [a]) H' := ⟨fun k c h => by
  have hk := (List.getElem?_eq_some_iff.mp h).1
  rw [List.getElem?_append_left hk]
  exact h, e⟩
theorem at_push {a : Addr} : (α ++ [a])[α.length]? = some a := by
  rw [List.getElem?_append_right (Nat.le_refl _), Nat.sub_self]
  rfl
theorem push_cases {a b : Addr} {k : Nat} (h : (α ++ [a])[k]? = some b) : α[k]? = some b ∨ (k = α.length ∧ b = a) := by
  by_cases hk : k < α.length
  · rw [List.getElem?_append_left hk] at h
    exact .inl h
  · rw [List.getElem?_append_right (by omega)] at h
    have hk2 : k - α.length = 0 := by
      have := (List.getElem?_eq_some_iff.mp h).1
      simp at this
      omega
    rw [hk2] at h
    exact .inr ⟨by omega, (Option.some.inj h).symm⟩
/-- a thing is tracked that is no cell -/
theorem Sat.new {μ : Mu} {p : Addr} {o : HO} (s : Sat K α H μ) (h : H p = none) : Sat K α (upd H p o) μ := by
  refine ⟨fun k xs e => ?_, s.inj, fun k a e => ?_⟩
  · obtain ⟨a, vs, h1, h2, h3⟩ := s.cell k xs e
    exact ⟨a, vs, h1, by rw [L2.upd_ne (L2.ne_of_none h2 h)]; exact h2, h3.mono ⟨fun _ _ z => z, Ext.new h⟩⟩
  · obtain ⟨o', h'⟩ := s.live k a e
    exact ⟨o', by rw [L2.upd_ne (L2.ne_of_none h' h)]; exact h'⟩
/-- a new cell -/
theorem Sat.alloc {μ : Mu} {p : Addr} {vs : List V} {xs : List D} (s : Sat K α H μ) (h : H p = none) (r : RlAll K α H vs xs) :
    Sat K (α ++ [p]) (upd H p (.lst vs)) (μ.upd α.length xs) := by
  have g : Gr α H (α ++ [p]) (upd H p (.lst vs)) := gr_push (Ext.new h)
  refine ⟨fun k ys e => ?_, fun j k a hj hk => ?_, fun k a e => ?_⟩
  · by_cases hk : k = α.length
    · subst hk
      rw [Mu.upd_same] at e
      cases e
      exact ⟨p, vs, at_push, L2.upd_same, r.mono g⟩
    · rw [Mu.upd_ne hk] at e
      obtain ⟨a, ws, h1, h2, h3⟩ := s.cell k ys e
      exact ⟨a, ws, g.pre _ _ h1, by rw [L2.upd_ne (L2.ne_of_none h2 h)]; exact h2, h3.mono g⟩
  · rcases push_cases hj with hj | ⟨ej, aj⟩ <;> rcases push_cases hk with hk | ⟨ek, ak⟩
    · exact s.inj _ _ _ hj hk
    · obtain ⟨o, z⟩ := s.live _ _ hj
      rw [ak, h] at z
      cases z
    · obtain ⟨o, z⟩ := s.live _ _ hk
      rw [aj, h] at z
      cases z
    · omega
  · rcases push_cases e with e | ⟨_, rfl⟩
    · obtain ⟨o', h'⟩ := s.live k a e
      exact ⟨o', by rw [L2.upd_ne (L2.ne_of_none h' h)]; exact h'⟩
    · exact ⟨_, L2.upd_same⟩
/-- a cell is changed -/
theorem Sat.set {μ : Mu} {a : Addr} {k : Nat} {ws vs : List V} {xs : List D} (s : Sat K α H μ) (ha : α[k]? = some a) (h : H a = some (.lst ws)) (r : RlAll K α H vs xs) :
    Sat K α (upd H a (.lst vs)) (μ.upd k xs) := by
  have g : Gr α H α (upd H a (.lst vs)) := ⟨fun _ _ z => z, Ext.lst h⟩
  refine ⟨fun j ys e => ?_, s.inj, fun j b e => ?_⟩
  · by_cases hj : j = k
    · subst hj
      rw [Mu.upd_same] at e
      cases e
      exact ⟨a, vs, ha, L2.upd_same, r.mono g⟩
    · rw [Mu.upd_ne hj] at e
      obtain ⟨b, us, h1, h2, h3⟩ := s.cell j ys e
      have hb : b ≠ a := fun z => hj (s.inj _ _ _ h1 (by rw [z]; exact ha))
      exact ⟨b, us, h1, by rw [L2.upd_ne hb]; exact h2, h3.mono g⟩
  · obtain ⟨o', h'⟩ := s.live j b e
    by_cases hb : b = a
    · exact ⟨_, by rw [hb, L2.upd_same]⟩
    · exact ⟨o', by rw [L2.upd_ne hb]; exact h'⟩
theorem gr_set {a : Addr} {ws vs : List V} (h : H a = some (.lst ws)) : Gr α H α (upd H a (.lst vs)) := ⟨fun _ _ z => z, Ext.lst h⟩
theorem gr_new {a : Addr} {o : HO} (h : H a = none) : Gr α H α (upd H a o) := ⟨fun _ _ z => z, Ext.new h⟩

/-! ### what is read as a sequence -/
def items (μ : Mu) : D → Option (List D)
  | .tup ds => some ds
  | .frz ds => some ds
  | .cell k => μ k
  | _ => none
def litems (μ : Mu) : D → Option (List D)
  | .frz ds => some ds
  | .cell k => μ k
  | _ => none
theorem Sat.list {μ : Mu} {v : V} {d : D} {xs : List D} (s : Sat K α H μ) (r : Rl K α H v d) (h : litems μ d = some xs) : ∃ a vs, v = .ref a ∧ SqL K H a vs ∧ RlAll K α H vs xs := by
  cases r with
  | frz q r =>
    cases h
    exact ⟨_, _, rfl, q.seq, r⟩
  | cell q =>
    obtain ⟨a, vs, h1, h2, h3⟩ := s.cell _ _ h
    rw [q] at h1
    cases h1
    exact ⟨_, _, rfl, .inl (.inl h2), h3⟩
  | _ => cases h
theorem Sat.seq {μ : Mu} {v : V} {d : D} {xs : List D} (s : Sat K α H μ) (r : Rl K α H v d) (h : items μ d = some xs) : ∃ a vs, v = .ref a ∧ (SqL K H a vs ∨ SqT K H a vs) ∧ RlAll K α H vs xs := by
  cases r with
  | tup q r =>
    cases h
    exact ⟨_, _, rfl, .inr q, r⟩
  | frz q r =>
    cases h
    exact ⟨_, _, rfl, .inl q.seq, r⟩
  | cell q =>
    obtain ⟨a, vs, h1, h2, h3⟩ := s.cell _ _ h
    rw [q] at h1
    cases h1
    exact ⟨_, _, rfl, .inl (.inl (.inl h2)), h3⟩
  | _ => cases h
end

/-! ### slots -/
abbrev Rho := List (Option D)
def EnvOk (K : PySem.W.Frag) (α : List Addr) (H : Hp) (σ : L2.St) (ρ : Rho) : Prop :=
  ρ.length = σ.length ∧ ∀ (i : Nat) d, ρ[i]? = some (some d) → ∃ v, σ[i]? = some (some v) ∧ Rl K α H v d
section
variable {K : PySem.W.Frag} {α α' : List Addr} {H H' : Hp} {σ : L2.St} {ρ : Rho}
theorem EnvOk.mono (g : Gr α H α' H') (e : EnvOk K α H σ ρ) : EnvOk K α' H' σ ρ := ⟨e.1, fun i d h => by
  obtain ⟨v, h1, h2⟩ := e.2 i d h
  exact ⟨v, h1, h2.mono g⟩⟩
theorem EnvOk.set {i : Nat} {v : V} {d : D} (e : EnvOk K α H σ ρ) (r : Rl K α H v d) : EnvOk K α H (σ.set i (some v)) (ρ.set i (some d)) := by
  refine ⟨by rw [List.length_set, List.length_set]; exact e.1, fun j c h => ?_⟩
  by_cases hj : i = j
  · subst hj
    have hl : i < ρ.length := by
      have := (List.getElem?_eq_some_iff.mp h).1
      rw [List.length_set] at this
      exact this
    rw [List.getElem?_set_self hl] at h
    cases h
    exact ⟨v, List.getElem?_set_self (by rw [← e.1]; exact hl), r⟩
  · rw [List.getElem?_set_ne hj] at h ⊢
    exact e.2 j c h
theorem EnvOk.clear {i : Nat} (e : EnvOk K α H σ ρ) : EnvOk K α H (σ.set i none) (ρ.set i none) := by
  refine ⟨by rw [List.length_set, List.length_set]; exact e.1, fun j c h => ?_⟩
  by_cases hj : i = j
  · subst hj
    have hl : i < ρ.length := by
      have := (List.getElem?_eq_some_iff.mp h).1
      rw [List.length_set] at this
      exact this
    rw [List.getElem?_set_self hl] at h
    cases h
  · rw [List.getElem?_set_ne hj] at h ⊢
    exact e.2 j c h
def wipeD (ρ : Rho) : List Nat → Rho
  | [] => ρ
  | v :: vs => (wipeD ρ vs).set v none
theorem EnvOk.wipe (e : EnvOk K α H σ ρ) : ∀ (vs : List Nat), EnvOk K α H (L2.wipe σ vs) (wipeD ρ vs)
  | [] => e
  | v :: vs => (EnvOk.wipe e vs).clear
end
end Dl
/-! Dat1: readings over plain data: expressions. -/
namespace Dl
open PySem PySem.Spec PyProof.Rows L2

abbrev DK := D → Mu → Prop
abbrev DTE := Rho → Mu → DK → Prop
abbrev DTT := Rho → Mu → (Bool → Mu → Prop) → Prop
abbrev DTA := Rho → Mu → (List D → Mu → Prop) → Prop
/-- a fresh list, by what it holds -/
abbrev DTL := Rho → Mu → (List D → Mu → Prop) → Prop

def PostE (K : PySem.W.Frag) (α : List Addr) (H : Hp) (Qd : DK) (Q : VK) : Prop := ∀ v H' α' μ' d, Gr α H α' H' → Sat K α' H' μ' → Rl K α' H' v d → Qd d μ' → Q v H'
def PostT (K : PySem.W.Frag) (α : List Addr) (H : Hp) (Qd : Bool → Mu → Prop) (Q : Bool → Hp → Prop) : Prop := ∀ b H' α' μ', Gr α H α' H' → Sat K α' H' μ' → Qd b μ' → Q b H'
def PostA (K : PySem.W.Frag) (α : List Addr) (H : Hp) (Qd : List D → Mu → Prop) (Q : List V → Hp → Prop) : Prop := ∀ vs H' α' μ' ds, Gr α H α' H' → Sat K α' H' μ' → RlAll K α' H' vs ds → Qd ds μ' → Q vs H'
/-- the list's cell k lies in the store apart -/
def PostL (K : PySem.W.Frag) (α : List Addr) (H : Hp) (Qd : List D → Mu → Prop) (Q : VK) : Prop := ∀ p k H' α' μ' xs, Gr α H α' H' → μ' k = none → α'[k]? = some p → Sat K α' H' (μ'.upd k xs) → Qd xs μ' → Q (.ref p) H'
def SndE (K : PySem.W.Frag) (te : TE) (de : DTE) : Prop := ∀ α σ H ρ μ Qd (Q : VK), Sat K α H μ → EnvOk K α H σ ρ → de ρ μ Qd → PostE K α H Qd Q → te σ H Q
def SndL (K : PySem.W.Frag) (te : TE) (de : DTL) : Prop := ∀ α σ H ρ μ Qd (Q : VK), Sat K α H μ → EnvOk K α H σ ρ → de ρ μ Qd → PostL K α H Qd Q → te σ H Q
def SndT (K : PySem.W.Frag) (tt : TT) (dt : DTT) : Prop := ∀ α σ H ρ μ Qd (Q : Bool → Hp → Prop), Sat K α H μ → EnvOk K α H σ ρ → dt ρ μ Qd → PostT K α H Qd Q → tt σ H Q
def SndA (K : PySem.W.Frag) (ta : TA) (da : DTA) : Prop := ∀ α σ H ρ μ Qd (Q : List V → Hp → Prop), Sat K α H μ → EnvOk K α H σ ρ → da ρ μ Qd → PostA K α H Qd Q → ta σ H Q
/-- operations by values -/
def SndR (K : PySem.W.Frag) (r : R2) (rd : D → D → Mu → DK → Prop) : Prop := ∀ α H μ x y dx dy Qd (Q : VK), Sat K α H μ → Rl K α H x dx → Rl K α H y dy → rd dx dy μ Qd → PostE K α H Qd Q → r x y H Q
def SndRL (K : PySem.W.Frag) (r : R2) (rd : D → D → Mu → (List D → Mu → Prop) → Prop) : Prop := ∀ α H μ x y dx dy Qd (Q : VK), Sat K α H μ → Rl K α H x dx → Rl K α H y dy → rd dx dy μ Qd → PostL K α H Qd Q → r x y H Q
def SndU (K : PySem.W.Frag) (r : V → Hp → VK → Prop) (rd : D → Mu → DK → Prop) : Prop := ∀ α H μ x dx Qd (Q : VK), Sat K α H μ → Rl K α H x dx → rd dx μ Qd → PostE K α H Qd Q → r x H Q
def SndC (K : PySem.W.Frag) (r : List V → Hp → VK → Prop) (rd : List D → Mu → DK → Prop) : Prop := ∀ α H μ xs dxs Qd (Q : VK), Sat K α H μ → RlAll K α H xs dxs → rd dxs μ Qd → PostE K α H Qd Q → r xs H Q
def SndCL (K : PySem.W.Frag) (r : List V → Hp → VK → Prop) (rd : List D → Mu → (List D → Mu → Prop) → Prop) : Prop := ∀ α H μ xs dxs Qd (Q : VK), Sat K α H μ → RlAll K α H xs dxs → rd dxs μ Qd → PostL K α H Qd Q → r xs H Q

section
variable {K : PySem.W.Frag} {α α1 : List Addr} {H H1 : Hp}
theorem PostE.mono {Qd : DK} {Q : VK} (g : Gr α H α1 H1) (p : PostE K α H Qd Q) : PostE K α1 H1 Qd Q := fun v H' α' μ' d g' => p v H' α' μ' d (g.trans g')
theorem PostT.mono {Qd : Bool → Mu → Prop} {Q : Bool → Hp → Prop} (g : Gr α H α1 H1) (p : PostT K α H Qd Q) : PostT K α1 H1 Qd Q := fun v H' α' μ' g' => p v H' α' μ' (g.trans g')
theorem PostA.mono {Qd : List D → Mu → Prop} {Q : List V → Hp → Prop} (g : Gr α H α1 H1) (p : PostA K α H Qd Q) : PostA K α1 H1 Qd Q := fun v H' α' μ' d g' => p v H' α' μ' d (g.trans g')
theorem PostL.mono {Qd : List D → Mu → Prop} {Q : VK} (g : Gr α H α1 H1) (p : PostL K α H Qd Q) : PostL K α1 H1 Qd Q := fun v k H' α' μ' d g' => p v k H' α' μ' d (g.trans g')
theorem PostE.here {μ : Mu} {v : V} {d : D} {Qd : DK} {Q : VK} (p : PostE K α H Qd Q) (s : Sat K α H μ) (r : Rl K α H v d) (q : Qd d μ) : Q v H := p v H α μ d (Gr.refl α H) s r q
theorem PostE.tup {μ : Mu} {vs : List V} {ds : List D} {Qd : DK} {Q : VK} (p : PostE K α H Qd Q) (s : Sat K α H μ) (r : RlAll K α H vs ds) (q : Qd (.tup ds) μ) {a : Addr} (h : H a = none) : Q (.ref a) (upd H a (.tup vs)) :=
  p _ _ α μ (.tup ds) (gr_new h) (s.new h) (.tup (.inl (.inl L2.upd_same)) (r.mono (gr_new h))) q
theorem PostL.here {μ : Mu} {vs : List V} {ds : List D} {Qd : List D → Mu → Prop} {Q : VK} (p : PostL K α H Qd Q) (s : Sat K α H μ) (r : RlAll K α H vs ds) (q : Qd ds μ) {a : Addr} (h : H a = none) : Q (.ref a) (upd H a (.lst vs)) :=
  p a α.length _ (α ++ [a]) μ ds (gr_push (Ext.new h)) s.fresh at_push (s.alloc h r) q

/-! ### combined judgements -/
variable {X : Cx}
structure PED (X : Cx) (e : Expr) (de : DTE) : Prop where
  ex : ∃ te, PE X e te ∧ SndE X.K te de
structure PLD (X : Cx) (e : Expr) (de : DTL) : Prop where
  ex : ∃ te, PE X e te ∧ SndL X.K te de
structure PTD (X : Cx) (e : Expr) (dt : DTT) : Prop where
  ex : ∃ tt, PT X e tt ∧ SndT X.K tt dt
structure PWD (X : Cx) (e : Expr) (dt : DTT) : Prop where
  ex : ∃ tt, PW X e tt ∧ SndT X.K tt dt
structure PAD (X : Cx) (es : List Expr) (da : DTA) : Prop where
  ex : ∃ ta, PA X es ta ∧ SndA X.K ta da

/-- a fresh list comes to stand in the store -/
def dNew (dl : DTL) : DTE := fun ρ μ Q => dl ρ μ fun xs μ' => ∀ k, μ' k = none → Q (.cell k) (μ'.upd k xs)
theorem de_new {e : Expr} {dl : DTL} (h : PLD X e dl) : PED X e (dNew dl) := by
  obtain ⟨te, pe, s⟩ := h.ex
  refine ⟨te, pe, fun α σ H ρ μ Qd Q S E q post => s α σ H ρ μ _ Q S E q fun p k H' α' μ' xs g n a S' q' => ?_⟩
  exact post _ _ _ _ (.cell k) g S' (.cell a) (q' k n)

/-! ### leaves -/
def dVar (i : Nat) : DTE := fun ρ μ Q => match ρ[i]? with | some (some d) => Q d μ | _ => False
def dC (d : D) : DTE := fun _ μ Q => Q d μ
theorem snd_var {i : Nat} : SndE K (tVar i) (dVar i) := fun α σ H ρ μ Qd Q S E h post => by
  unfold dVar at h
  split at h
  · rename_i d e
    obtain ⟨v, h1, h2⟩ := E.2 i d e
    exact ⟨v, h1, post.here S h2 h⟩
  · exact h.elim
theorem de_var (i : Nat) {x : Str} {pos : Pos} (hN : X.N[i]? = some x := by rfl) (hv : Vis X.env.scope x := by first | exact Or.inl rfl | exact Or.inr (Or.inl rfl) | exact Or.inr (Or.inr rfl)) (hd : (x == ("__debug__" : Str)) = false := by decide)
    (hcd : (x == ("__classdict__" : Str)) = false := by decide) : PED X (.Name x pos) (dVar i) := ⟨_, pe_var hN hv hd hcd, snd_var⟩
theorem snd_c {v : V} {d : D} (r : ∀ α H, Rl K α H v d) : SndE K (tC v) (dC d) := fun α σ H ρ μ Qd Q S E h post => post.here S (r α H) h
theorem de_int {i j pos} : PED X (.Constant (.int i) j pos) (dC (.int i)) := ⟨_, pe_int, snd_c fun _ _ => .int i⟩
theorem de_bl {b j pos} : PED X (.Constant (.bool b) j pos) (dC (.bl b)) := ⟨_, pe_bl, snd_c fun _ _ => .bl b⟩
theorem de_non {j pos} : PED X (.Constant .none j pos) (dC .non) := ⟨_, pe_non, snd_c fun _ _ => .non⟩
theorem de_str {x j pos} : PED X (.Constant (.str x) j pos) (dC (.str x)) := ⟨_, pe_str, snd_c fun _ _ => .str x⟩
/-- a constant of the module -/
structure Gc (K : PySem.W.Frag) (mg : Str → Option Value) (x : Str) (d : D) : Prop where
  ex : ∃ v u, mg x = some u ∧ RelV v u ∧ ∀ α H, Rl K α H v d
theorem de_glob {x : Str} {pos : Pos} {d : D} (g : Gc X.K X.mg x d) (hg : Gl X x := by rfl) (hd : (x == ("__debug__" : Str)) = false := by decide) : PED X (.Name x pos) (dC d) := by
  obtain ⟨v, u, h1, h2, h3⟩ := g.ex
  exact ⟨_, pe_glob hg h1 h2 hd, snd_c h3⟩
theorem de_ty {x : Str} {n : String} {pos : Pos} (hm : X.mg x = none) (hv : bootBuiltins x = some (.type n) := by decide +kernel) (hg : Gl X x := by rfl) (hn : x ≠ "__name__" := by decide) (hd : (x == ("__debug__" : Str)) = false := by decide) : PED X (.Name x pos) (dC (.ty n)) :=
  ⟨_, pe_bltn hg hm hv (show RelV (.ty n) _ from rfl) hn hd, snd_c fun _ _ => .ty n⟩

/-! ### operators -/
def dOp (rd : D → D → Mu → DK → Prop) (da db : DTE) : DTE := fun ρ μ Q => da ρ μ fun x μ1 => db ρ μ1 fun y μ2 => rd x y μ2 Q
def dOpL (rd : D → D → Mu → (List D → Mu → Prop) → Prop) (da db : DTE) : DTL := fun ρ μ Q => da ρ μ fun x μ1 => db ρ μ1 fun y μ2 => rd x y μ2 Q
def dUn (rd : D → Mu → DK → Prop) (da : DTE) : DTE := fun ρ μ Q => da ρ μ fun x μ1 => rd x μ1 Q
theorem snd_op {r : R2} {rd : D → D → Mu → DK → Prop} {ta tb : TE} {da db : DTE} (hr : SndR K r rd) (ha : SndE K ta da) (hb : SndE K tb db) : SndE K (tOp r ta tb) (dOp rd da db) := fun α σ H ρ μ Qd Q S E h post =>
  ha α σ H ρ μ _ _ S E h fun v1 H1 α1 μ1 d1 g1 s1 r1 q1 => hb α1 σ H1 ρ μ1 _ _ s1 (E.mono g1) q1 fun v2 H2 α2 μ2 d2 g2 s2 r2 q2 =>
    hr α2 H2 μ2 v1 v2 d1 d2 Qd Q s2 (r1.mono g2) r2 q2 (post.mono (g1.trans g2))
theorem snd_opL {r : R2} {rd : D → D → Mu → (List D → Mu → Prop) → Prop} {ta tb : TE} {da db : DTE} (hr : SndRL K r rd) (ha : SndE K ta da) (hb : SndE K tb db) : SndL K (tOp r ta tb) (dOpL rd da db) := fun α σ H ρ μ Qd Q S E h post =>
  ha α σ H ρ μ _ _ S E h fun v1 H1 α1 μ1 d1 g1 s1 r1 q1 => hb α1 σ H1 ρ μ1 _ _ s1 (E.mono g1) q1 fun v2 H2 α2 μ2 d2 g2 s2 r2 q2 =>
    hr α2 H2 μ2 v1 v2 d1 d2 Qd Q s2 (r1.mono g2) r2 q2 (post.mono (g1.trans g2))
theorem snd_un {r : V → Hp → VK → Prop} {rd : D → Mu → DK → Prop} {ta : TE} {da : DTE} (hr : SndU K r rd) (ha : SndE K ta da) : SndE K (tUn r ta) (dUn rd da) := fun α σ H ρ μ Qd Q S E h post =>
  ha α σ H ρ μ _ _ S E h fun v1 H1 α1 μ1 d1 g1 s1 r1 q1 => hr α1 H1 μ1 v1 d1 Qd Q s1 r1 q1 (post.mono g1)
/-- an operator's rule over data -/
structure OpD (X : Cx) (f : Value → Value → Sem Value) (rd : D → D → Mu → DK → Prop) : Prop where
  ex : ∃ r, OpR X f r ∧ SndR X.K r rd
structure OpLD (X : Cx) (f : Value → Value → Sem Value) (rd : D → D → Mu → (List D → Mu → Prop) → Prop) : Prop where
  ex : ∃ r, OpR X f r ∧ SndRL X.K r rd
theorem de_op {op : Operator} {rd : D → D → Mu → DK → Prop} {a b : Expr} {da db : DTE} {pos : Pos} (ho : OpD X (binaryOp op) rd) (ha : PED X a da) (hb : PED X b db) : PED X (.BinOp a op b pos) (dOp rd da db) := by
  obtain ⟨r, h1, h2⟩ := ho.ex
  obtain ⟨ta, a1, a2⟩ := ha.ex
  obtain ⟨tb, b1, b2⟩ := hb.ex
  exact ⟨_, pe_op h1 a1 b1, snd_op h2 a2 b2⟩
theorem dl_op {op : Operator} {rd : D → D → Mu → (List D → Mu → Prop) → Prop} {a b : Expr} {da db : DTE} {pos : Pos} (ho : OpLD X (binaryOp op) rd) (ha : PED X a da) (hb : PED X b db) : PLD X (.BinOp a op b pos) (dOpL rd da db) := by
  obtain ⟨r, h1, h2⟩ := ho.ex
  obtain ⟨ta, a1, a2⟩ := ha.ex
  obtain ⟨tb, b1, b2⟩ := hb.ex
  exact ⟨_, pe_op h1 a1 b1, snd_opL h2 a2 b2⟩
theorem de_cmp {op : CmpOp} {rd : D → D → Mu → DK → Prop} {a b : Expr} {da db : DTE} {pos : Pos} (ho : OpD X (compareOp op) rd) (ha : PED X a da) (hb : PED X b db) (hm : behindInMarks op b = false := by first | exact nomark _ | rfl) : PED X (.Compare a [op] [b] pos) (dOp rd da db) := by
  obtain ⟨r, h1, h2⟩ := ho.ex
  obtain ⟨ta, a1, a2⟩ := ha.ex
  obtain ⟨tb, b1, b2⟩ := hb.ex
  exact ⟨_, pe_cmpR h1 a1 b1 hm, snd_op h2 a2 b2⟩
def dTest (da : DTE) : DTT := fun ρ μ Q => da ρ μ fun x μ1 => match x with | .bl b => Q b μ1 | _ => False
theorem snd_test {t : TE} {da : DTE} (ha : SndE K t da) : SndT K (tTest t) (dTest da) := fun α σ H ρ μ Qd Q S E h post =>
  ha α σ H ρ μ _ _ S E h fun v1 H1 α1 μ1 d1 g1 s1 r1 q1 => by
    cases r1 with
    | bl b => exact ⟨b, rfl, post b H1 α1 μ1 g1 s1 q1⟩
    | _ => exact False.elim q1
theorem dt_cmp {op : CmpOp} {rd : D → D → Mu → DK → Prop} {a b : Expr} {da db : DTE} {pos : Pos} (ho : OpD X (compareOp op) rd) (ha : PED X a da) (hb : PED X b db) (hm : behindInMarks op b = false := by first | exact nomark _ | rfl) : PTD X (.Compare a [op] [b] pos) (dTest (dOp rd da db)) := by
  obtain ⟨r, h1, h2⟩ := ho.ex
  obtain ⟨ta, a1, a2⟩ := ha.ex
  obtain ⟨tb, b1, b2⟩ := hb.ex
  exact ⟨_, pt_cmpR h1 a1 b1 hm, snd_test (snd_op h2 a2 b2)⟩
theorem dt_val {e : Expr} {da : DTE} (h : PED X e da) (he : ∀ whole, isTrue e X.env whole = (do let v ← whole; standAt e.pos; holding [v] (truthy v)) := by intro _; rfl) : PTD X e (dTest da) := by
  obtain ⟨te, a1, a2⟩ := h.ex
  exact ⟨_, pt_val a1 he, snd_test a2⟩
/-- a op b op' c -/
def dChain (rd rd' : D → D → Mu → DK → Prop) (da db dc : DTE) : DTE := fun ρ μ Q => da ρ μ fun x μ1 => db ρ μ1 fun y μ2 => rd x y μ2 fun z μ3 => match z with
  | .bl b => if b = true then dc ρ μ3 fun w μ4 => rd' y w μ4 Q else Q (.bl false) μ3
  | _ => False
theorem snd_chain {r r' : R2} {rd rd' : D → D → Mu → DK → Prop} {ta tb tc : TE} {da db dc : DTE} (hr : SndR K r rd) (hr' : SndR K r' rd') (ha : SndE K ta da) (hb : SndE K tb db) (hc : SndE K tc dc) :
    SndE K (tChain r r' ta tb tc) (dChain rd rd' da db dc) := fun α σ H ρ μ Qd Q S E h post =>
  ha α σ H ρ μ _ _ S E h fun v1 H1 α1 μ1 d1 g1 s1 r1 q1 => hb α1 σ H1 ρ μ1 _ _ s1 (E.mono g1) q1 fun v2 H2 α2 μ2 d2 g2 s2 r2 q2 =>
    hr α2 H2 μ2 v1 v2 d1 d2 _ _ s2 (r1.mono g2) r2 q2 fun z H3 α3 μ3 dz g3 s3 r3 q3 => by
      cases r3 with
      | bl b =>
        refine ⟨b, rfl, ?_⟩
        cases b with
        | false => exact post _ _ _ _ _ ((g1.trans g2).trans g3) s3 (.bl false) q3
        | true => exact hc α3 σ H3 ρ μ3 _ _ s3 (((E.mono g1).mono g2).mono g3) q3 fun w H4 α4 μ4 dw g4 s4 r4 q4 => hr' α4 H4 μ4 v2 w d2 dw Qd Q s4 ((r2.mono g3).mono g4) r4 q4 (post.mono (((g1.trans g2).trans g3).trans g4))
      | _ => exact False.elim q3
theorem de_chain {op op' : CmpOp} {rd rd' : D → D → Mu → DK → Prop} {a b c : Expr} {da db dc : DTE} {pos : Pos} (ho : OpD X (compareOp op) rd) (ho' : OpD X (compareOp op') rd') (ha : PED X a da) (hb : PED X b db) (hc : PED X c dc)
    (hm : lastMarks [op, op'] [b, c] = false := by with_unfolding_all rfl) : PED X (.Compare a [op, op'] [b, c] pos) (dChain rd rd' da db dc) := by
  obtain ⟨r, h1, h2⟩ := ho.ex
  obtain ⟨r', h3, h4⟩ := ho'.ex
  obtain ⟨ta, a1, a2⟩ := ha.ex
  obtain ⟨tb, b1, b2⟩ := hb.ex
  obtain ⟨tc, c1, c2⟩ := hc.ex
  exact ⟨_, pe_chain h1 h3 a1 b1 c1 hm, snd_chain h2 h4 a2 b2 c2⟩
theorem dt_chain {op op' : CmpOp} {rd rd' : D → D → Mu → DK → Prop} {a b c : Expr} {da db dc : DTE} {pos : Pos} (ho : OpD X (compareOp op) rd) (ho' : OpD X (compareOp op') rd') (ha : PED X a da) (hb : PED X b db) (hc : PED X c dc)
    (hm : lastMarks [op, op'] [b, c] = false := by with_unfolding_all rfl) : PTD X (.Compare a [op, op'] [b, c] pos) (dTest (dChain rd rd' da db dc)) := by
  obtain ⟨r, h1, h2⟩ := ho.ex
  obtain ⟨r', h3, h4⟩ := ho'.ex
  obtain ⟨ta, a1, a2⟩ := ha.ex
  obtain ⟨tb, b1, b2⟩ := hb.ex
  obtain ⟨tc, c1, c2⟩ := hc.ex
  exact ⟨_, pt_chain h1 h3 a1 b1 c1 hm, snd_test (snd_chain h2 h4 a2 b2 c2)⟩

/-! ### and, or, not, if -/
def dAnd (da db : DTE) : DTE := fun ρ μ Q => da ρ μ fun x μ1 => match x with | .bl b => (if b = true then db ρ μ1 Q else Q (.bl false) μ1) | _ => False
def dOr (da db : DTE) : DTE := fun ρ μ Q => da ρ μ fun x μ1 => match x with | .bl b => (if b = true then Q (.bl true) μ1 else db ρ μ1 Q) | _ => False
def dNot (da : DTE) : DTE := fun ρ μ Q => da ρ μ fun x μ1 => match x with | .bl b => Q (.bl (!b)) μ1 | _ => False
def dIf (dt : DTT) (da db : DTE) : DTE := fun ρ μ Q => dt ρ μ fun b μ1 => if b = true then da ρ μ1 Q else db ρ μ1 Q
def dIfL (dt : DTT) (da db : DTL) : DTL := fun ρ μ Q => dt ρ μ fun b μ1 => if b = true then da ρ μ1 Q else db ρ μ1 Q
theorem snd_and {ta tb : TE} {da db : DTE} (ha : SndE K ta da) (hb : SndE K tb db) : SndE K (tAndV ta tb) (dAnd da db) := fun α σ H ρ μ Qd Q S E h post =>
  ha α σ H ρ μ _ _ S E h fun v1 H1 α1 μ1 d1 g1 s1 r1 q1 => by
    cases r1 with
    | bl b =>
      refine ⟨b, rfl, ?_⟩
      cases b with
      | false => exact post _ _ _ _ _ g1 s1 (.bl false) q1
      | true => exact hb α1 σ H1 ρ μ1 _ _ s1 (E.mono g1) q1 (post.mono g1)
    | _ => exact False.elim q1
theorem snd_or {ta tb : TE} {da db : DTE} (ha : SndE K ta da) (hb : SndE K tb db) : SndE K (tOrV ta tb) (dOr da db) := fun α σ H ρ μ Qd Q S E h post =>
  ha α σ H ρ μ _ _ S E h fun v1 H1 α1 μ1 d1 g1 s1 r1 q1 => by
    cases r1 with
    | bl b =>
      refine ⟨b, rfl, ?_⟩
      cases b with
      | true => exact post _ _ _ _ _ g1 s1 (.bl true) q1
      | false => exact hb α1 σ H1 ρ μ1 _ _ s1 (E.mono g1) q1 (post.mono g1)
    | _ => exact False.elim q1
theorem snd_not {ta : TE} {da : DTE} (ha : SndE K ta da) : SndE K (tNotV ta) (dNot da) := fun α σ H ρ μ Qd Q S E h post =>
  ha α σ H ρ μ _ _ S E h fun v1 H1 α1 μ1 d1 g1 s1 r1 q1 => by
    cases r1 with
    | bl b => exact ⟨b, rfl, post _ _ _ _ _ g1 s1 (.bl _) q1⟩
    | _ => exact False.elim q1
theorem snd_if {tt : TT} {ta tb : TE} {dt : DTT} {da db : DTE} (ht : SndT K tt dt) (ha : SndE K ta da) (hb : SndE K tb db) : SndE K (tIf tt ta tb) (dIf dt da db) := fun α σ H ρ μ Qd Q S E h post =>
  ht α σ H ρ μ _ _ S E h fun b H1 α1 μ1 g1 s1 q1 => by
    cases b with
    | true => exact ha α1 σ H1 ρ μ1 _ _ s1 (E.mono g1) q1 (post.mono g1)
    | false => exact hb α1 σ H1 ρ μ1 _ _ s1 (E.mono g1) q1 (post.mono g1)
theorem snd_ifL {tt : TT} {ta tb : TE} {dt : DTT} {da db : DTL} (ht : SndT K tt dt) (ha : SndL K ta da) (hb : SndL K tb db) : SndL K (tIf tt ta tb) (dIfL dt da db) := fun α σ H ρ μ Qd Q S E h post =>
  ht α σ H ρ μ _ _ S E h fun b H1 α1 μ1 g1 s1 q1 => by
    cases b with
    | true => exact ha α1 σ H1 ρ μ1 _ _ s1 (E.mono g1) q1 (post.mono g1)
    | false => exact hb α1 σ H1 ρ μ1 _ _ s1 (E.mono g1) q1 (post.mono g1)
theorem de_one {op} {a : Expr} {pos : Pos} {da : DTE} (h : PED X a da) : PED X (.BoolOp op [a] pos) da := by
  obtain ⟨te, a1, a2⟩ := h.ex
  exact ⟨te, pe_one a1, a2⟩
theorem de_and {a b : Expr} {rest : List Expr} {pos : Pos} {da db : DTE} (ha : PED X a da) (hb : PED X (.BoolOp .And (b :: rest) pos) db) : PED X (.BoolOp .And (a :: b :: rest) pos) (dAnd da db) := by
  obtain ⟨ta, a1, a2⟩ := ha.ex
  obtain ⟨tb, b1, b2⟩ := hb.ex
  exact ⟨_, pe_and a1 b1, snd_and a2 b2⟩
theorem de_or {a b : Expr} {rest : List Expr} {pos : Pos} {da db : DTE} (ha : PED X a da) (hb : PED X (.BoolOp .Or (b :: rest) pos) db) : PED X (.BoolOp .Or (a :: b :: rest) pos) (dOr da db) := by
  obtain ⟨ta, a1, a2⟩ := ha.ex
  obtain ⟨tb, b1, b2⟩ := hb.ex
  exact ⟨_, pe_or a1 b1, snd_or a2 b2⟩
theorem de_not {a : Expr} {pos : Pos} {da : DTE} (ha : PED X a da) : PED X (.UnaryOp .Not a pos) (dNot da) := by
  obtain ⟨ta, a1, a2⟩ := ha.ex
  exact ⟨_, pe_not a1, snd_not a2⟩
theorem de_if {c a b : Expr} {pos : Pos} {dt : DTT} {da db : DTE} (hc : PTD X c dt) (ha : PED X a da) (hb : PED X b db) : PED X (.IfExp c a b pos) (dIf dt da db) := by
  obtain ⟨tt, c1, c2⟩ := hc.ex
  obtain ⟨ta, a1, a2⟩ := ha.ex
  obtain ⟨tb, b1, b2⟩ := hb.ex
  exact ⟨_, pe_ifExp c1 a1 b1, snd_if c2 a2 b2⟩
theorem dl_if {c a b : Expr} {pos : Pos} {dt : DTT} {da db : DTL} (hc : PTD X c dt) (ha : PLD X a da) (hb : PLD X b db) : PLD X (.IfExp c a b pos) (dIfL dt da db) := by
  obtain ⟨tt, c1, c2⟩ := hc.ex
  obtain ⟨ta, a1, a2⟩ := ha.ex
  obtain ⟨tb, b1, b2⟩ := hb.ex
  exact ⟨_, pe_ifExp c1 a1 b1, snd_ifL c2 a2 b2⟩
/-- as tests -/
def dtAnd (da db : DTT) : DTT := fun ρ μ Q => da ρ μ fun b μ1 => if b = true then db ρ μ1 Q else Q false μ1
def dtOr (da db : DTT) : DTT := fun ρ μ Q => da ρ μ fun b μ1 => if b = true then Q true μ1 else db ρ μ1 Q
def dtNot (da : DTT) : DTT := fun ρ μ Q => da ρ μ fun b μ1 => Q (!b) μ1
theorem PWD.pt {e : Expr} {dt : DTT} (h : PWD X e dt) : PTD X e dt := by
  obtain ⟨tt, c1, c2⟩ := h.ex
  exact ⟨tt, c1.pt, c2⟩
theorem dw_and1 {a : Expr} {pos : Pos} {da : DTT} (ha : PTD X a da) : PWD X (.BoolOp .And [a] pos) da := by
  obtain ⟨ta, a1, a2⟩ := ha.ex
  exact ⟨_, pw_and1 a1, a2⟩
theorem dw_or1 {a : Expr} {pos : Pos} {da : DTT} (ha : PTD X a da) : PWD X (.BoolOp .Or [a] pos) da := by
  obtain ⟨ta, a1, a2⟩ := ha.ex
  exact ⟨_, pw_or1 a1, a2⟩
theorem dw_and {a b : Expr} {rest : List Expr} {pos : Pos} {da db : DTT} (ha : PTD X a da) (hb : PWD X (.BoolOp .And (b :: rest) pos) db) : PWD X (.BoolOp .And (a :: b :: rest) pos) (dtAnd da db) := by
  obtain ⟨ta, a1, a2⟩ := ha.ex
  obtain ⟨tb, b1, b2⟩ := hb.ex
  refine ⟨_, pw_and a1 b1, fun α σ H ρ μ Qd Q S E h post => a2 α σ H ρ μ _ _ S E h fun b H1 α1 μ1 g1 s1 q1 => ?_⟩
  cases b with
  | true => exact b2 α1 σ H1 ρ μ1 _ _ s1 (E.mono g1) q1 (post.mono g1)
  | false => exact post _ _ _ _ g1 s1 q1
theorem dw_or {a b : Expr} {rest : List Expr} {pos : Pos} {da db : DTT} (ha : PTD X a da) (hb : PWD X (.BoolOp .Or (b :: rest) pos) db) : PWD X (.BoolOp .Or (a :: b :: rest) pos) (dtOr da db) := by
  obtain ⟨ta, a1, a2⟩ := ha.ex
  obtain ⟨tb, b1, b2⟩ := hb.ex
  refine ⟨_, pw_or a1 b1, fun α σ H ρ μ Qd Q S E h post => a2 α σ H ρ μ _ _ S E h fun b H1 α1 μ1 g1 s1 q1 => ?_⟩
  cases b with
  | false => exact b2 α1 σ H1 ρ μ1 _ _ s1 (E.mono g1) q1 (post.mono g1)
  | true => exact post _ _ _ _ g1 s1 q1
theorem dt_not {a : Expr} {pos : Pos} {da : DTT} (ha : PTD X a da) : PTD X (.UnaryOp .Not a pos) (dtNot da) := by
  obtain ⟨ta, a1, a2⟩ := ha.ex
  exact ⟨_, pt_not a1, fun α σ H ρ μ Qd Q S E h post => a2 α σ H ρ μ _ _ S E h fun b H1 α1 μ1 g1 s1 q1 => post _ _ _ _ g1 s1 q1⟩

/-! ### argument lists, displays -/
def daNil : DTA := fun _ μ Q => Q [] μ
def daCons (de : DTE) (dr : DTA) : DTA := fun ρ μ Q => de ρ μ fun x μ1 => dr ρ μ1 fun xs μ2 => Q (x :: xs) μ2
theorem da_nil : PAD X [] daNil := ⟨_, pa_nil, fun α σ H ρ μ Qd Q S E h post => post _ _ _ _ _ (Gr.refl α H) S .nil h⟩
theorem snd_cons {te : TE} {tr : TA} {de : DTE} {dr : DTA} (h1 : SndE K te de) (h2 : SndA K tr dr) : SndA K (tCons te tr) (daCons de dr) := fun α σ H ρ μ Qd Q S E h post =>
  h1 α σ H ρ μ _ _ S E h fun v1 H1 α1 μ1 d1 g1 s1 r1 q1 => h2 α1 σ H1 ρ μ1 _ _ s1 (E.mono g1) q1 fun vs H2 α2 μ2 ds g2 s2 r2 q2 => post _ _ _ _ _ (g1.trans g2) s2 (.cons (r1.mono g2) r2) q2
theorem da_cons {e : Expr} {es : List Expr} {de : DTE} {dr : DTA} (he : PED X e de) (hr : PAD X es dr) (hs : starEach (e :: es) X.env = (false, eval e X.env) :: starEach es X.env := by rfl) : PAD X (e :: es) (daCons de dr) := by
  obtain ⟨te, a1, a2⟩ := he.ex
  obtain ⟨tr, b1, b2⟩ := hr.ex
  exact ⟨_, pa_cons a1 b1 hs, snd_cons a2 b2⟩
def dTup (da : DTA) : DTE := fun ρ μ Q => da ρ μ fun xs μ1 => xs.length ≤ sizeLine ∧ Q (.tup xs) μ1
def dLst (da : DTA) : DTL := fun ρ μ Q => da ρ μ fun xs μ1 => xs.length ≤ sizeLine ∧ Q xs μ1
theorem de_tup {es : List Expr} {da : DTA} {x1} {pos : Pos} (h : PAD X es da) : PED X (.Tuple es x1 pos) (dTup da) := by
  obtain ⟨ta, a1, a2⟩ := h.ex
  refine ⟨_, pe_tup a1, fun α σ H ρ μ Qd Q S E h post => a2 α σ H ρ μ _ _ S E h fun vs H1 α1 μ1 ds g1 s1 r1 q1 => ⟨by rw [r1.length]; exact q1.1, fun p hp => ?_⟩⟩
  exact (post.mono g1).tup s1 r1 q1.2 hp
theorem dl_lst {es : List Expr} {da : DTA} {pos : Pos} (h : PAD X es da) : PLD X (.List es pos) (dLst da) := by
  obtain ⟨ta, a1, a2⟩ := h.ex
  refine ⟨_, pe_lst a1, fun α σ H ρ μ Qd Q S E h post => a2 α σ H ρ μ _ _ S E h fun vs H1 α1 μ1 ds g1 s1 r1 q1 => ⟨by rw [r1.length]; exact q1.1, fun p hp => ?_⟩⟩
  exact (post.mono g1).here s1 r1 q1.2 hp

/-! ### operators, case by case -/
def rdI (C : Int → Int → Prop) (g : Int → Int → D) : D → D → Mu → DK → Prop := fun x y μ Q => match x, y with | .int i, .int j => C i j ∧ Q (g i j) μ | _, _ => False
def rdI0 (g : Int → Int → D) : D → D → Mu → DK → Prop := fun x y μ Q => match x, y with | .int i, .int j => Q (g i j) μ | _, _ => False
theorem snd_I {C : Int → Int → Prop} {g : Int → Int → V} {gd : Int → Int → D} (hg : ∀ i j α H, Rl K α H (g i j) (gd i j)) : SndR K (rI C g) (rdI C gd) := fun α H μ x y dx dy Qd Q S rx ry h post => by
  cases rx with
  | int i =>
    cases ry with
    | int j => exact ⟨i, j, rfl, rfl, h.1, post.here S (hg i j α H) h.2⟩
    | _ => exact False.elim h
  | _ => exact False.elim h
theorem snd_I0 {g : Int → Int → V} {gd : Int → Int → D} (hg : ∀ i j α H, Rl K α H (g i j) (gd i j)) : SndR K (rI0 g) (rdI0 gd) := fun α H μ x y dx dy Qd Q S rx ry h post => by
  cases rx with
  | int i =>
    cases ry with
    | int j => exact ⟨i, j, rfl, rfl, post.here S (hg i j α H) h⟩
    | _ => exact False.elim h
  | _ => exact False.elim h
abbrev oAdd := rdI0 fun i j => D.int (i + j)
abbrev oSub := rdI0 fun i j => D.int (i - j)
/-- a size that no sum of ours reaches -/
def bigN : Nat := 2 ^ 4000
theorem lt_big {n : Nat} (h : n < 2 ^ 250) : n < bigN := Nat.lt_trans h (Nat.pow_lt_pow_right (by decide) (by decide))
def MulOk (i j : Int) : Prop := (-(2 ^ 64) < i ∧ i < 2 ^ 64) ∨ (-(2 ^ 64) < j ∧ j < 2 ^ 64) ∨ (i.natAbs < bigN ∧ j.natAbs < bigN)
def DivOk (_ j : Int) : Prop := 0 < j ∧ j.natAbs < bigN
abbrev oMul := rdI MulOk fun i j => D.int (i * j)
abbrev oDiv := rdI DivOk fun i j => D.int (i / j)
abbrev oMod := rdI (fun _ j => 0 < j) fun i j => D.int (i % j)
abbrev oPow := rdI CPow fun i j => D.int (i ^ j.toNat)
abbrev oLt := rdI0 fun i j => D.bl (decide (i < j))
abbrev oLe := rdI0 fun i j => D.bl (decide (i ≤ j))
abbrev oGt := rdI0 fun i j => D.bl (decide (j < i))
abbrev oGe := rdI0 fun i j => D.bl (decide (j ≤ i))
theorem o_add : OpD X (binaryOp .Add) oAdd := ⟨_, op_add, snd_I0 fun _ _ _ _ => .int _⟩
theorem o_sub : OpD X (binaryOp .Sub) oSub := ⟨_, op_sub, snd_I0 fun _ _ _ _ => .int _⟩
theorem o_mul : OpD X (binaryOp .Mult) oMul := ⟨_, OpR.or op_mul op_mulW, fun α H μ x y dx dy Qd Q S rx ry h post => by
  cases rx with
  | int i =>
    cases ry with
    | int j =>
      obtain ⟨hc, h⟩ := h
      rcases hc with hc | hc | hc
      · exact .inl ⟨i, j, rfl, rfl, .inl hc, post.here S (.int _) h⟩
      · exact .inl ⟨i, j, rfl, rfl, .inr hc, post.here S (.int _) h⟩
      · exact .inr ⟨i, j, rfl, rfl, wide_mul hc.1 hc.2 (by decide) (by decide) (by decide), post.here S (.int _) h⟩
    | _ => exact False.elim h
  | _ => exact False.elim h⟩
theorem o_div : OpD X (binaryOp .FloorDiv) oDiv := ⟨_, op_fdivW, fun α H μ x y dx dy Qd Q S rx ry h post => by
  cases rx with
  | int i =>
    cases ry with
    | int j =>
      obtain ⟨hc, h⟩ := h
      exact ⟨i, j, rfl, rfl, wide_div hc.1 hc.2 (by decide) (by decide), post.here S (.int _) h⟩
    | _ => exact False.elim h
  | _ => exact False.elim h⟩
theorem o_mod : OpD X (binaryOp .Mod) oMod := ⟨_, op_mod, snd_I fun _ _ _ _ => .int _⟩
theorem o_pow : OpD X (binaryOp .Pow) oPow := ⟨_, op_pow, snd_I fun _ _ _ _ => .int _⟩
theorem o_lt : OpD X (compareOp .Lt) oLt := ⟨_, op_lt, snd_I0 fun _ _ _ _ => .bl _⟩
theorem o_le : OpD X (compareOp .LtE) oLe := ⟨_, op_le, snd_I0 fun _ _ _ _ => .bl _⟩
theorem o_gt : OpD X (compareOp .Gt) oGt := ⟨_, op_gt, snd_I0 fun _ _ _ _ => .bl _⟩
theorem o_ge : OpD X (compareOp .GtE) oGe := ⟨_, op_ge, snd_I0 fun _ _ _ _ => .bl _⟩
/-- -a -/
def uNeg : D → Mu → DK → Prop := fun x μ Q => match x with | .int i => Q (.int (-i)) μ | _ => False
theorem de_neg {a : Expr} {pos : Pos} {da : DTE} (ha : PED X a da) : PED X (.UnaryOp .USub a pos) (dUn uNeg da) := by
  obtain ⟨ta, a1, a2⟩ := ha.ex
  refine ⟨_, pe_un un_neg a1, snd_un (fun α H μ x dx Qd Q S r h post => ?_) a2⟩
  cases r with
  | int i => exact ⟨i, rfl, post.here S (.int _) h⟩
  | _ => exact False.elim h
/-- is None, is not None -/
def D.isNon : D → Bool
  | .non => true
  | _ => false
def oIsN : D → D → Mu → DK → Prop := fun x y μ Q => match y with | .non => Q (.bl x.isNon) μ | _ => False
def oNotN : D → D → Mu → DK → Prop := fun x y μ Q => match y with | .non => Q (.bl (!x.isNon)) μ | _ => False
theorem Rl.isNon {v : V} {d : D} (r : Rl K α H v d) : decide (v = .non) = d.isNon := by
  cases r <;> first | rfl | exact decide_eq_false (fun z => nomatch z)
theorem o_isN : OpD X (compareOp .Is) oIsN := ⟨_, op_isN, fun α H μ x y dx dy Qd Q S rx ry h post => by
  cases ry with
  | non => exact ⟨rfl, by rw [rx.isNon]; exact post.here S (.bl _) h⟩
  | _ => exact False.elim h⟩
theorem o_notN : OpD X (compareOp .IsNot) oNotN := ⟨_, op_notN, fun α H μ x y dx dy Qd Q S rx ry h post => by
  cases ry with
  | non => exact ⟨rfl, by rw [rx.isNon]; exact post.here S (.bl _) h⟩
  | _ => exact False.elim h⟩
end
end Dl
/-! Dat2: readings over plain data: equality, items, calls of built-ins. -/
namespace Dl
open PySem PySem.Spec PyProof.Rows L2
variable {K : PySem.W.Frag} {α α1 : List Addr} {H H1 : Hp} {X : Cx}

/-! ### data as a tree -/
mutual
inductive Rs (μ : Mu) : D → PyData → Prop
  | non : Rs μ .non .none
  | bl (b : Bool) : Rs μ (.bl b) (.bool b)
  | int (i : Int) : Rs μ (.int i) (.int i)
  | str (x : Str) : Rs μ (.str x) (.str x)
  | tup {ds : List D} {ps : List PyData} : RsAll μ ds ps → Rs μ (.tup ds) (.tuple ps)
  | frz {ds : List D} {ps : List PyData} : RsAll μ ds ps → Rs μ (.frz ds) (.list ps)
  | cell {k : Nat} {ds : List D} {ps : List PyData} : μ k = some ds → RsAll μ ds ps → Rs μ (.cell k) (.list ps)
inductive RsAll (μ : Mu) : List D → List PyData → Prop
  | nil : RsAll μ [] []
  | cons {d : D} {ds : List D} {p : PyData} {ps : List PyData} : Rs μ d p → RsAll μ ds ps → RsAll μ (d :: ds) (p :: ps)
end
mutual
theorem Rl.dp {μ : Mu} (S : Sat K α H μ) : ∀ {d : D} {p : PyData} {v : V}, Rs μ d p → Rl K α H v d → Dp K H v p
  | _, _, _, .non, .non => .non
  | _, _, _, .bl b, .bl _ => .bl b
  | _, _, _, .int i, .int _ => .int i
  | _, _, _, .str x, .str _ => .str x
  | _, _, _, .tup r, .tup q r' => .tup q (Rl.dpAll S r r')
  | _, _, _, .frz r, .frz q r' => .lst q.seq (Rl.dpAll S r r')
  | _, _, _, .cell e r, .cell q => by
    obtain ⟨a, vs, h1, h2, h3⟩ := S.cell _ _ e
    rw [q] at h1
    cases h1
    exact .lst (.inl (.inl h2)) (Rl.dpAll S r h3)
theorem Rl.dpAll {μ : Mu} (S : Sat K α H μ) : ∀ {ds : List D} {ps : List PyData} {vs : List V}, RsAll μ ds ps → RlAll K α H vs ds → DpAll K H vs ps
  | _, _, _, .nil, .nil => .nil
  | _, _, _, .cons a b, .cons a' b' => .cons (Rl.dp S a a') (Rl.dpAll S b b')
end
/-- == of data -/
def deepEq (neg : Bool) (x y : D) (μ : Mu) (Q : DK) : Prop := ∃ p q, Rs μ x p ∧ Rs μ y q ∧ SeqAt.shaped p = true ∧ SeqAt.shaped q = true ∧ Q (.bl (if neg then !PyData.eqv p q else PyData.eqv p q)) μ
def oEq : D → D → Mu → DK → Prop := fun x y μ Q => match x, y with
  | .int i, .int j => Q (.bl (decide (i = j))) μ
  | .str i, .str j => Q (.bl (decide (i = j))) μ
  | .bl i, .bl j => Q (.bl (decide (i = j))) μ
  | x, y => deepEq false x y μ Q
def oNe : D → D → Mu → DK → Prop := fun x y μ Q => match x, y with
  | .int i, .int j => Q (.bl (!decide (i = j))) μ
  | .str i, .str j => Q (.bl (!decide (i = j))) μ
  | .bl i, .bl j => Q (.bl (!decide (i = j))) μ
  | x, y => deepEq true x y μ Q
theorem dec_inj {α β : Type} [DecidableEq α] [DecidableEq β] (f : α → β) (inj : ∀ a b, f a = f b → a = b) (a b : α) : decide (f a = f b) = decide (a = b) := by
  by_cases h : a = b
  · subst h
    simp
  · rw [decide_eq_false h, decide_eq_false fun e => h (inj _ _ e)]
theorem o_eq (hu : X.A.units + 64 < cLine) : OpD X (compareOp .Eq) oEq := by
  refine ⟨_, OpR.or op_eq (op_eqD hu), fun α H μ x y dx dy Qd Q S rx ry h post => ?_⟩
  have deep : deepEq false dx dy μ Qd → rEqD X.K x y H Q := fun ⟨p, q, h1, h2, h3, h4, h5⟩ => ⟨p, q, rx.dp S h1, ry.dp S h2, h3, h4, post.here S (.bl _) h5⟩
  unfold oEq at h
  split at h
  · cases rx; cases ry
    exact .inl ⟨rfl, by rw [dec_inj V.int (fun _ _ e => V.int.inj e)]; exact post.here S (.bl _) h⟩
  · cases rx; cases ry
    exact .inl ⟨rfl, by rw [dec_inj V.str (fun _ _ e => V.str.inj e)]; exact post.here S (.bl _) h⟩
  · cases rx; cases ry
    exact .inl ⟨rfl, by rw [dec_inj V.bl (fun _ _ e => V.bl.inj e)]; exact post.here S (.bl _) h⟩
  · exact .inr (deep h)
theorem o_ne (hu : X.A.units + 64 < cLine) : OpD X (compareOp .NotEq) oNe := by
  refine ⟨_, OpR.or op_ne (op_neD hu), fun α H μ x y dx dy Qd Q S rx ry h post => ?_⟩
  have deep : deepEq true dx dy μ Qd → rNeD X.K x y H Q := fun ⟨p, q, h1, h2, h3, h4, h5⟩ => ⟨p, q, rx.dp S h1, ry.dp S h2, h3, h4, post.here S (.bl _) h5⟩
  unfold oNe at h
  split at h
  · cases rx; cases ry
    exact .inl ⟨rfl, by rw [dec_inj V.int (fun _ _ e => V.int.inj e)]; exact post.here S (.bl _) h⟩
  · cases rx; cases ry
    exact .inl ⟨rfl, by rw [dec_inj V.str (fun _ _ e => V.str.inj e)]; exact post.here S (.bl _) h⟩
  · cases rx; cases ry
    exact .inl ⟨rfl, by rw [dec_inj V.bl (fun _ _ e => V.bl.inj e)]; exact post.here S (.bl _) h⟩
  · exact .inr (deep h)

/-! ### places -/
theorem RlAll.atI {vs : List V} {ds : List D} {i : Int} {d : D} (r : RlAll K α H vs ds) (h : atI ds i = some d) : ∃ v, atI vs i = some v ∧ Rl K α H v d := by
  unfold L2.atI at h ⊢
  rw [r.length]
  cases e : ixN ds.length i with
  | none =>
    rw [e] at h
    cases h
  | some j =>
    rw [e] at h
    exact r.get h
def oIx : D → D → Mu → DK → Prop := fun x y μ Q => match items μ x, y with
  | some ds, .int i => (match atI ds i with | some d => Q d μ | none => False)
  | _, _ => False
theorem snd_ix : SndR K (fun x y H Q => rIxL K x y H Q ∨ rIxT K x y H Q) oIx := fun α H μ x y dx dy Qd Q S rx ry h post => by
  unfold oIx at h
  split at h
  · rename_i ds i e
    split at h
    · rename_i d e2
      cases ry
      obtain ⟨a, vs, rfl, q, r⟩ := S.seq rx e
      obtain ⟨v, h1, h2⟩ := r.atI e2
      rcases q with q | q
      · exact .inl ⟨a, vs, i, v, rfl, rfl, q, h1, post.here S h2 h⟩
      · exact .inr ⟨a, vs, i, v, rfl, rfl, q, h1, post.here S h2 h⟩
    · exact h.elim
  · exact h.elim
theorem de_ix {a b : Expr} {pos : Pos} {da db : DTE} (ha : PED X a da) (hb : PED X b db) (hs : PlainIx b := by exact fun _ _ => rfl) : PED X (.Subscript a b pos) (dOp oIx da db) := by
  obtain ⟨ta, a1, a2⟩ := ha.ex
  obtain ⟨tb, b1, b2⟩ := hb.ex
  exact ⟨_, pe_ix (IxR.or ix_list ix_tup) a1 b1 hs, snd_op snd_ix a2 b2⟩

/-! ### calls of built-ins -/
structure CallD (X : Cx) (f : Value) (rd : List D → Mu → DK → Prop) : Prop where
  ex : ∃ r, CallR X f r ∧ SndC X.K r rd
structure CallLD (X : Cx) (f : Value) (rd : List D → Mu → (List D → Mu → Prop) → Prop) : Prop where
  ex : ∃ r, CallR X f r ∧ SndCL X.K r rd
def dCall (rd : List D → Mu → DK → Prop) (da : DTA) : DTE := fun ρ μ Q => da ρ μ fun ds μ1 => rd ds μ1 Q
def dCallF (rd : List D → Mu → (List D → Mu → Prop) → Prop) (da : DTA) : DTL := fun ρ μ Q => da ρ μ fun ds μ1 => rd ds μ1 Q
theorem snd_call {r : List V → Hp → VK → Prop} {rd : List D → Mu → DK → Prop} {ta : TA} {da : DTA} (hr : SndC K r rd) (ha : SndA K ta da) : SndE K (tCB r ta) (dCall rd da) := fun α σ H ρ μ Qd Q S E h post =>
  ha α σ H ρ μ _ _ S E h fun vs H1 α1 μ1 ds g1 s1 r1 q1 => hr α1 H1 μ1 vs ds Qd Q s1 r1 q1 (post.mono g1)
theorem snd_callF {r : List V → Hp → VK → Prop} {rd : List D → Mu → (List D → Mu → Prop) → Prop} {ta : TA} {da : DTA} (hr : SndCL K r rd) (ha : SndA K ta da) : SndL K (tCB r ta) (dCallF rd da) := fun α σ H ρ μ Qd Q S E h post =>
  ha α σ H ρ μ _ _ S E h fun vs H1 α1 μ1 ds g1 s1 r1 q1 => hr α1 H1 μ1 vs ds Qd Q s1 r1 q1 (post.mono g1)
section
variable {x : Str} {p pos : Pos} {e : Expr} {es : List Expr} {id T : String} {da : DTA}
theorem de_callB {rd : List D → Mu → DK → Prop} (hc : CallD X (.builtin id) rd) (hm : X.mg x = none) (hv : bootBuiltins x = some (.builtin id)) (ha : PAD X (e :: es) da) (hg : Gl X x := by rfl) (hn : x ≠ "__name__" := by decide) (hdb : (x == ("__debug__" : Str)) = false := by decide)
    (he : starEach (e :: es) X.env = (false, eval e X.env) :: starEach es X.env := by rfl) (hpl : (backTo pos (starEach es X.env)).any (·.1) = false := by rfl) : PED X (.Call (.Name x p) (e :: es) [] pos) (dCall rd da) := by
  obtain ⟨r, h1, h2⟩ := hc.ex
  obtain ⟨ta, a1, a2⟩ := ha.ex
  exact ⟨_, pe_callB h1 hg hm hv a1 hn hdb he hpl, snd_call h2 a2⟩
theorem de_callTy {rd : List D → Mu → DK → Prop} (hc : CallD X (.type T) rd) (hm : X.mg x = none) (hv : bootBuiltins x = some (.type T)) (ha : PAD X (e :: es) da) (hg : Gl X x := by rfl) (hn : x ≠ "__name__" := by decide) (hdb : (x == ("__debug__" : Str)) = false := by decide)
    (he : starEach (e :: es) X.env = (false, eval e X.env) :: starEach es X.env := by rfl) (hpl : (backTo pos (starEach es X.env)).any (·.1) = false := by rfl) : PED X (.Call (.Name x p) (e :: es) [] pos) (dCall rd da) := by
  obtain ⟨r, h1, h2⟩ := hc.ex
  obtain ⟨ta, a1, a2⟩ := ha.ex
  exact ⟨_, pe_callTy h1 hg hm hv a1 hn hdb he hpl, snd_call h2 a2⟩
theorem dl_callB {rd : List D → Mu → (List D → Mu → Prop) → Prop} (hc : CallLD X (.builtin id) rd) (hm : X.mg x = none) (hv : bootBuiltins x = some (.builtin id)) (ha : PAD X (e :: es) da) (hg : Gl X x := by rfl) (hn : x ≠ "__name__" := by decide) (hdb : (x == ("__debug__" : Str)) = false := by decide)
    (he : starEach (e :: es) X.env = (false, eval e X.env) :: starEach es X.env := by rfl) (hpl : (backTo pos (starEach es X.env)).any (·.1) = false := by rfl) : PLD X (.Call (.Name x p) (e :: es) [] pos) (dCallF rd da) := by
  obtain ⟨r, h1, h2⟩ := hc.ex
  obtain ⟨ta, a1, a2⟩ := ha.ex
  exact ⟨_, pe_callB h1 hg hm hv a1 hn hdb he hpl, snd_callF h2 a2⟩
theorem dl_callTy {rd : List D → Mu → (List D → Mu → Prop) → Prop} (hc : CallLD X (.type T) rd) (hm : X.mg x = none) (hv : bootBuiltins x = some (.type T)) (ha : PAD X (e :: es) da) (hg : Gl X x := by rfl) (hn : x ≠ "__name__" := by decide) (hdb : (x == ("__debug__" : Str)) = false := by decide)
    (he : starEach (e :: es) X.env = (false, eval e X.env) :: starEach es X.env := by rfl) (hpl : (backTo pos (starEach es X.env)).any (·.1) = false := by rfl) : PLD X (.Call (.Name x p) (e :: es) [] pos) (dCallF rd da) := by
  obtain ⟨r, h1, h2⟩ := hc.ex
  obtain ⟨ta, a1, a2⟩ := ha.ex
  exact ⟨_, pe_callTy h1 hg hm hv a1 hn hdb he hpl, snd_callF h2 a2⟩
end
/-- f(xs) that reads one list (or tuple), by what it holds; tp: tuples too -/
structure SeqD (X : Cx) (f : Value) (tp : Bool) (rs : List D → Mu → DK → Prop) : Prop where
  ex : ∃ r, CallR X f r ∧ ∀ α H μ p vs xs Qd (Q : VK), Sat X.K α H μ → (SqL X.K H p vs ∨ (tp = true ∧ SqT X.K H p vs)) → RlAll X.K α H vs xs → rs xs μ Qd → PostE X.K α H Qd Q → r [.ref p] H Q
structure SeqLD (X : Cx) (f : Value) (tp : Bool) (rs : List D → Mu → (List D → Mu → Prop) → Prop) : Prop where
  ex : ∃ r, CallR X f r ∧ ∀ α H μ p vs xs Qd (Q : VK), Sat X.K α H μ → (SqL X.K H p vs ∨ (tp = true ∧ SqT X.K H p vs)) → RlAll X.K α H vs xs → rs xs μ Qd → PostL X.K α H Qd Q → r [.ref p] H Q
def sitems (tp : Bool) (μ : Mu) (d : D) : Option (List D) := if tp then items μ d else litems μ d
theorem Sat.sitems {tp : Bool} {μ : Mu} {v : V} {d : D} {xs : List D} (S : Sat K α H μ) (r : Rl K α H v d) (h : sitems tp μ d = some xs) : ∃ a vs, v = .ref a ∧ (SqL K H a vs ∨ (tp = true ∧ SqT K H a vs)) ∧ RlAll K α H vs xs := by
  unfold Dl.sitems at h
  cases tp with
  | true =>
    obtain ⟨a, vs, e, q, r⟩ := S.seq r (by simpa using h)
    exact ⟨a, vs, e, q.imp id fun z => ⟨rfl, z⟩, r⟩
  | false =>
    obtain ⟨a, vs, e, q, r⟩ := S.list r (by simpa using h)
    exact ⟨a, vs, e, .inl q, r⟩
def dSeq1 (tp : Bool) (rs : List D → Mu → DK → Prop) : List D → Mu → DK → Prop := fun ds μ Q => match ds with | [x] => (match sitems tp μ x with | some xs => rs xs μ Q | none => False) | _ => False
def dSeqL1 (tp : Bool) (rs : List D → Mu → (List D → Mu → Prop) → Prop) : List D → Mu → (List D → Mu → Prop) → Prop := fun ds μ Q => match ds with | [x] => (match sitems tp μ x with | some xs => rs xs μ Q | none => False) | _ => False
theorem SeqD.call {f : Value} {tp : Bool} {rs : List D → Mu → DK → Prop} (h : SeqD X f tp rs) : CallD X f (dSeq1 tp rs) := by
  obtain ⟨r, h1, h2⟩ := h.ex
  refine ⟨r, h1, fun α H μ vs ds Qd Q S rr h post => ?_⟩
  cases rr with
  | nil => exact False.elim h
  | cons a b =>
    cases b with
    | cons _ _ => exact False.elim h
    | nil =>
      unfold dSeq1 at h
      dsimp only at h
      split at h
      · rename_i xs e
        obtain ⟨p, vs, rfl, q, r⟩ := S.sitems a e
        exact h2 α H μ p vs xs Qd Q S q r h post
      · exact False.elim h
theorem SeqLD.call {f : Value} {tp : Bool} {rs : List D → Mu → (List D → Mu → Prop) → Prop} (h : SeqLD X f tp rs) : CallLD X f (dSeqL1 tp rs) := by
  obtain ⟨r, h1, h2⟩ := h.ex
  refine ⟨r, h1, fun α H μ vs ds Qd Q S rr h post => ?_⟩
  cases rr with
  | nil => exact False.elim h
  | cons a b =>
    cases b with
    | cons _ _ => exact False.elim h
    | nil =>
      unfold dSeqL1 at h
      dsimp only at h
      split at h
      · rename_i xs e
        obtain ⟨p, vs, rfl, q, r⟩ := S.sitems a e
        exact h2 α H μ p vs xs Qd Q S q r h post
      · exact False.elim h
/-- f([..]): the fresh list is read and dropped -/
def dOf (rs : List D → Mu → DK → Prop) (dl : DTL) : DTE := fun ρ μ Q => dl ρ μ fun xs μ1 => rs xs μ1 Q
def dOfL (rs : List D → Mu → (List D → Mu → Prop) → Prop) (dl : DTL) : DTL := fun ρ μ Q => dl ρ μ fun xs μ1 => rs xs μ1 Q
theorem fresh_of {μ : Mu} {k : Nat} {p : Addr} {xs : List D} (n : μ k = none) (a : α[k]? = some p) (S : Sat K α H (μ.upd k xs)) : Sat K α H μ ∧ ∃ vs, H p = some (.lst vs) ∧ RlAll K α H vs xs := by
  refine ⟨S.sub (Mu.sub_upd n), ?_⟩
  obtain ⟨b, vs, h1, h2, h3⟩ := S.cell k xs Mu.upd_same
  rw [a] at h1
  cases h1
  exact ⟨vs, h2, h3⟩
section
variable {x : Str} {p pos : Pos} {e : Expr} {id T : String} {dl : DTL} {tp : Bool}
theorem de_ofB {rs : List D → Mu → DK → Prop} (hc : SeqD X (.builtin id) tp rs) (hm : X.mg x = none) (hv : bootBuiltins x = some (.builtin id)) (ha : PLD X e dl) (hg : Gl X x := by rfl) (hn : x ≠ "__name__" := by decide) (hdb : (x == ("__debug__" : Str)) = false := by decide)
    (he : starEach [e] X.env = (false, eval e X.env) :: starEach [] X.env := by rfl) (hpl : (backTo pos (starEach [] X.env)).any (·.1) = false := by rfl) : PED X (.Call (.Name x p) [e] [] pos) (dOf rs dl) := by
  obtain ⟨r, h1, h2⟩ := hc.ex
  obtain ⟨ta, a1, a2⟩ := ha.ex
  refine ⟨_, pe_callB h1 hg hm hv (pa_cons a1 pa_nil he) hn hdb he hpl, fun α σ H ρ μ Qd Q S E h post => a2 α σ H ρ μ _ _ S E h fun p k H1 α1 μ1 xs g1 n1 l1 s1 q1 => ?_⟩
  obtain ⟨s2, vs, hp, r1⟩ := fresh_of n1 l1 s1
  exact h2 α1 H1 μ1 p vs xs Qd Q s2 (.inl (.inl (.inl hp))) r1 q1 (post.mono g1)
theorem de_ofTy {rs : List D → Mu → DK → Prop} (hc : SeqD X (.type T) tp rs) (hm : X.mg x = none) (hv : bootBuiltins x = some (.type T)) (ha : PLD X e dl) (hg : Gl X x := by rfl) (hn : x ≠ "__name__" := by decide) (hdb : (x == ("__debug__" : Str)) = false := by decide)
    (he : starEach [e] X.env = (false, eval e X.env) :: starEach [] X.env := by rfl) (hpl : (backTo pos (starEach [] X.env)).any (·.1) = false := by rfl) : PED X (.Call (.Name x p) [e] [] pos) (dOf rs dl) := by
  obtain ⟨r, h1, h2⟩ := hc.ex
  obtain ⟨ta, a1, a2⟩ := ha.ex
  refine ⟨_, pe_callTy h1 hg hm hv (pa_cons a1 pa_nil he) hn hdb he hpl, fun α σ H ρ μ Qd Q S E h post => a2 α σ H ρ μ _ _ S E h fun p k H1 α1 μ1 xs g1 n1 l1 s1 q1 => ?_⟩
  obtain ⟨s2, vs, hp, r1⟩ := fresh_of n1 l1 s1
  exact h2 α1 H1 μ1 p vs xs Qd Q s2 (.inl (.inl (.inl hp))) r1 q1 (post.mono g1)
theorem dl_ofB {rs : List D → Mu → (List D → Mu → Prop) → Prop} (hc : SeqLD X (.builtin id) tp rs) (hm : X.mg x = none) (hv : bootBuiltins x = some (.builtin id)) (ha : PLD X e dl) (hg : Gl X x := by rfl) (hn : x ≠ "__name__" := by decide) (hdb : (x == ("__debug__" : Str)) = false := by decide)
    (he : starEach [e] X.env = (false, eval e X.env) :: starEach [] X.env := by rfl) (hpl : (backTo pos (starEach [] X.env)).any (·.1) = false := by rfl) : PLD X (.Call (.Name x p) [e] [] pos) (dOfL rs dl) := by
  obtain ⟨r, h1, h2⟩ := hc.ex
  obtain ⟨ta, a1, a2⟩ := ha.ex
  refine ⟨_, pe_callB h1 hg hm hv (pa_cons a1 pa_nil he) hn hdb he hpl, fun α σ H ρ μ Qd Q S E h post => a2 α σ H ρ μ _ _ S E h fun p k H1 α1 μ1 xs g1 n1 l1 s1 q1 => ?_⟩
  obtain ⟨s2, vs, hp, r1⟩ := fresh_of n1 l1 s1
  exact h2 α1 H1 μ1 p vs xs Qd Q s2 (.inl (.inl (.inl hp))) r1 q1 (post.mono g1)
end

/-! ### the built-ins -/
theorem rl1 {vs : List V} {d : D} (r : RlAll K α H vs [d]) : ∃ v, vs = [v] ∧ Rl K α H v d := by
  cases r with
  | cons a b => cases b; exact ⟨_, rfl, a⟩
theorem rl2 {vs : List V} {d e : D} (r : RlAll K α H vs [d, e]) : ∃ v w, vs = [v, w] ∧ Rl K α H v d ∧ Rl K α H w e := by
  cases r with
  | cons a b =>
    obtain ⟨w, rfl, r2⟩ := rl1 b
    exact ⟨_, w, rfl, a, r2⟩
def cAbs : List D → Mu → DK → Prop := fun ds μ Q => match ds with | [.int i] => Q (.int (i.natAbs : Int)) μ | _ => False
theorem c_abs : CallD X (.builtin "abs") cAbs := ⟨_, call_abs, fun α H μ vs ds Qd Q S r h post => by
  unfold cAbs at h
  split at h
  · rename_i i
    obtain ⟨v, rfl, r1⟩ := rl1 r
    cases r1
    refine ⟨i, rfl, ?_⟩
    rw [show (if i < 0 then -i else i) = (i.natAbs : Int) by split <;> omega]
    exact post.here S (.int _) h
  · exact h.elim⟩
def cMax : List D → Mu → DK → Prop := fun ds μ Q => match ds with | [.int i, .int j] => Q (.int (max i j)) μ | _ => False
def cMin : List D → Mu → DK → Prop := fun ds μ Q => match ds with | [.int i, .int j] => Q (.int (min i j)) μ | _ => False
theorem c_max (hc : X.calm = true) : CallD X (.builtin "max") cMax := ⟨_, call_max2 hc, fun α H μ vs ds Qd Q S r h post => by
  unfold cMax at h
  split at h
  · rename_i i j
    obtain ⟨v, w, rfl, r1, r2⟩ := rl2 r
    cases r1; cases r2
    refine ⟨i, j, rfl, ?_⟩
    rw [show (if j > i then j else i) = max i j by split <;> omega]
    exact post.here S (.int _) h
  · exact h.elim⟩
theorem c_min (hc : X.calm = true) : CallD X (.builtin "min") cMin := ⟨_, call_min2 hc, fun α H μ vs ds Qd Q S r h post => by
  unfold cMin at h
  split at h
  · rename_i i j
    obtain ⟨v, w, rfl, r1, r2⟩ := rl2 r
    cases r1; cases r2
    refine ⟨i, j, rfl, ?_⟩
    rw [show (if j < i then j else i) = min i j by split <;> omega]
    exact post.here S (.int _) h
  · exact h.elim⟩
def cInt : List D → Mu → DK → Prop := fun ds μ Q => match ds with | [.int i] => Q (.int i) μ | _ => False
theorem c_int : CallD X (.type "int") cInt := ⟨_, call_int1, fun α H μ vs ds Qd Q S r h post => by
  unfold cInt at h
  split at h
  · rename_i i
    obtain ⟨v, rfl, r1⟩ := rl1 r
    cases r1
    exact .inl ⟨i, rfl, post.here S (.int _) h⟩
  · exact h.elim⟩
def cDivmod : List D → Mu → DK → Prop := fun ds μ Q => match ds with | [.int i, .int j] => CDiv i j ∧ Q (.tup [.int (i / j), .int (i % j)]) μ | _ => False
theorem c_divmod : CallD X (.builtin "divmod") cDivmod := ⟨_, call_divmod, fun α H μ vs ds Qd Q S r h post => by
  unfold cDivmod at h
  split at h
  · rename_i i j
    obtain ⟨v, w, rfl, r1, r2⟩ := rl2 r
    cases r1; cases r2
    exact ⟨i, j, rfl, h.1, fun p hp => post.tup S (.cons (.int _) (.cons (.int _) .nil)) h.2 hp⟩
  · exact h.elim⟩
def sLen : List D → Mu → DK → Prop := fun xs μ Q => Q (.int (xs.length : Nat)) μ
theorem s_len : SeqD X (.builtin "len") true sLen := ⟨_, call_len_seq, fun α H μ p vs xs Qd Q S q r h post => ⟨p, vs, rfl, q.imp id And.right, by rw [r.length]; exact post.here S (.int _) h⟩⟩
def sTup : List D → Mu → DK → Prop := fun xs μ Q => Q (.tup xs) μ
theorem s_tup : SeqD X (.type "tuple") true sTup := ⟨_, call_tuple_of, fun α H μ p vs xs Qd Q S q r h post => ⟨p, vs, rfl, by
  rcases q with q | ⟨_, q⟩
  · exact .inl ⟨q, fun l hl => post.tup S r h hl⟩
  · exact .inr ⟨q, post.here S (.tup q r) h⟩⟩⟩
def sLst : List D → Mu → (List D → Mu → Prop) → Prop := fun xs μ Q => Q xs μ
theorem s_lst : SeqLD X (.type "list") true sLst := ⟨_, call_list_of, fun α H μ p vs xs Qd Q S q r h post => ⟨p, vs, rfl, q.imp id And.right, fun l hl => post.here S r h hl⟩⟩
def sSum : List D → Mu → DK → Prop := fun xs μ Q => ∃ ns : List Int, xs = ns.map D.int ∧ Q (.int ns.sum) μ
theorem s_sum (hc : X.calm = true) : SeqD X (.builtin "sum") false sSum := ⟨_, cr_sum hc, fun α H μ p vs xs Qd Q S q r h post => by
  obtain ⟨ns, rfl, h⟩ := h
  have e := r.ints
  subst e
  exact ⟨p, ns, rfl, q.resolve_right (fun z => nomatch z.1), post.here S (.int _) h⟩⟩
def sAll : List D → Mu → DK → Prop := fun xs μ Q => ∃ bs : List Bool, xs = bs.map D.bl ∧ Q (.bl (bs.all id)) μ
def sAny : List D → Mu → DK → Prop := fun xs μ Q => ∃ bs : List Bool, xs = bs.map D.bl ∧ Q (.bl (bs.any id)) μ
theorem s_all (hc : X.calm = true) : SeqD X (.builtin "all") false sAll := ⟨_, cr_all hc, fun α H μ p vs xs Qd Q S q r h post => by
  obtain ⟨ns, rfl, h⟩ := h
  have e := r.bls
  subst e
  exact ⟨p, ns, rfl, q.resolve_right (fun z => nomatch z.1), post.here S (.bl _) h⟩⟩
theorem s_any (hc : X.calm = true) : SeqD X (.builtin "any") false sAny := ⟨_, cr_any hc, fun α H μ p vs xs Qd Q S q r h post => by
  obtain ⟨ns, rfl, h⟩ := h
  have e := r.bls
  subst e
  exact ⟨p, ns, rfl, q.resolve_right (fun z => nomatch z.1), post.here S (.bl _) h⟩⟩
/-- len of a text too -/
def sMax : List D → Mu → DK → Prop := fun xs μ Q => ∃ ns : List Int, xs = ns.map D.int ∧ 0 < ns.length ∧ ∀ m, m ∈ ns → (∀ y, y ∈ ns → y ≤ m) → Q (.int m) μ
def sMin : List D → Mu → DK → Prop := fun xs μ Q => ∃ ns : List Int, xs = ns.map D.int ∧ 0 < ns.length ∧ ∀ m, m ∈ ns → (∀ y, y ∈ ns → m ≤ y) → Q (.int m) μ
theorem s_max (hc : X.calm = true) : SeqD X (.builtin "max") false sMax := ⟨_, cr_max hc, fun α H μ p vs xs Qd Q S q r h post => by
  obtain ⟨ns, rfl, h0, h⟩ := h
  have e := r.ints
  subst e
  exact ⟨p, ns, rfl, q.resolve_right (fun z => nomatch z.1), h0, fun m h1 h2 => post.here S (.int _) (h m h1 h2)⟩⟩
theorem s_min (hc : X.calm = true) : SeqD X (.builtin "min") false sMin := ⟨_, cr_min hc, fun α H μ p vs xs Qd Q S q r h post => by
  obtain ⟨ns, rfl, h0, h⟩ := h
  have e := r.ints
  subst e
  exact ⟨p, ns, rfl, q.resolve_right (fun z => nomatch z.1), h0, fun m h1 h2 => post.here S (.int _) (h m h1 h2)⟩⟩

/-! ### isinstance -/
def tyD (μ : Mu) : D → Option String
  | .non => some "NoneType"
  | .bl _ => some "bool"
  | .int _ => some "int"
  | .str _ => some "str"
  | .tup _ => some "tuple"
  | .frz _ => some "list"
  | .cell k => (μ k).map fun _ => "list"
  | .ty _ => none
theorem Rl.tyX {μ : Mu} {v : V} {d : D} {t : String} (S : Sat K α H μ) (r : Rl K α H v d) (h : tyD μ d = some t) : TyX K H v (.type t) := by
  cases r with
  | non => cases h; exact .base .non
  | bl b => cases h; exact .base (.bl b)
  | int i => cases h; exact .base (.int i)
  | str x => cases h; exact .base (.str x)
  | ty n => cases h
  | tup q r =>
    cases h
    rcases q with (q | ⟨o, q⟩) | ⟨o, its, n, q, hc, _⟩
    · exact .base (.tup q)
    · exact .fTuple q
    · exact .kTuple q hc
  | frz q r =>
    cases h
    rcases q with ⟨o, q⟩ | q
    · exact .base (.frz q)
    · rcases q with (q | ⟨o, q⟩) | ⟨o, its, n, q, hc, _⟩
      · cases q
      · cases q
      · exact .kList q hc
  | @cell a k q =>
    cases e : μ k with
    | none =>
      rw [tyD, e] at h
      cases h
    | some xs =>
      rw [tyD, e] at h
      cases h
      obtain ⟨b, vs, h1, h2, h3⟩ := S.cell _ _ e
      rw [q] at h1
      cases h1
      exact .base (.lst h2)
def cIsi : List D → Mu → DK → Prop := fun ds μ Q => match ds with
  | [x, .ty n] => (match tyD μ x with | some t => (match kitB t n with | some b => Q (.bl b) μ | none => False) | none => False)
  | _ => False
theorem c_isi : CallD X (.builtin "isinstance") cIsi := ⟨_, call_isi, fun α H μ vs ds Qd Q S r h post => by
  unfold cIsi at h
  split at h
  · rename_i x n
    obtain ⟨v, w, rfl, r1, r2⟩ := rl2 r
    split at h
    · rename_i t e
      split at h
      · rename_i b e2
        cases r2
        exact ⟨v, .ty n, .type t, .type n, b, rfl, .ty n, r1.tyX S e, kit_ty e2, post.here S (.bl b) h⟩
      · exact h.elim
    · exact h.elim
  · exact h.elim⟩

/-! ### in, not in: numbers -/
def oIn (neg : Bool) : D → D → Mu → DK → Prop := fun x y μ Q => match x with
  | .int i => ∃ ns : List Int, items μ y = some (ns.map D.int) ∧ Q (.bl (if neg then !decide (i ∈ ns) else decide (i ∈ ns))) μ
  | _ => False
theorem inV_ints (i : Int) (ns : List Int) : inV (.int i) (ns.map V.int) = decide (i ∈ ns) := by
  unfold inV
  induction ns with
  | nil => simp
  | cons n ns ih =>
    rw [List.map_cons, List.any_cons, ih]
    have e : eqV (.int n) (.int i) = decide (n = i) := by
      by_cases h : n = i <;> simp [eqV, h]
    rw [e]
    by_cases h : n = i
    · subst h; simp
    · have h2 : ¬ i = n := fun z => h z.symm
      simp [h, h2]
theorem flat_ints (ns : List Int) : (ns.map V.int).all flatV = true := by
  rw [List.all_map, List.all_eq_true]
  intro x _
  rfl
theorem snd_in (neg : Bool) : SndR K (rIn K neg) (oIn neg) := fun α H μ x y dx dy Qd Q S rx ry h post => by
  unfold oIn at h
  split at h
  · rename_i i
    obtain ⟨ns, e, h⟩ := h
    obtain ⟨a, vs, rfl, q, r⟩ := S.seq ry e
    have e2 := r.ints
    subst e2
    cases rx
    refine ⟨a, _, rfl, q, rfl, flat_ints ns, ?_⟩
    rw [inV_ints]
    exact post.here S (.bl _) h
  · exact h.elim
theorem o_in : OpD X (compareOp .In) (oIn false) := ⟨_, op_in_seq, snd_in false⟩
theorem o_notIn : OpD X (compareOp .NotIn) (oIn true) := ⟨_, op_notIn_seq, snd_in true⟩

/-! ### tuples and lists put together, cut -/
def oCatT : D → D → Mu → DK → Prop := fun x y μ Q => match x, y with | .tup xs, .tup ys => xs.length + ys.length ≤ sizeLine ∧ Q (.tup (xs ++ ys)) μ | _, _ => False
theorem o_catT : OpD X (binaryOp .Add) oCatT := ⟨_, op_catA, fun α H μ x y dx dy Qd Q S rx ry h post => by
  unfold oCatT at h
  split at h
  · rename_i xs ys
    cases rx with
    | tup q r =>
      cases ry with
      | tup q' r' =>
        refine ⟨_, _, _, _, rfl, rfl, q, q', by rw [r.length, r'.length]; exact h.1, fun e => ?_, fun e e' => ?_, fun e e' p hp => ?_⟩
        · subst e
          have e2 := r.nilV
          subst e2
          exact post.here S (.tup q' r') h.2
        · subst e'
          have e2 := r'.nilV
          subst e2
          rw [List.append_nil] at h
          exact post.here S (.tup q r) h.2
        · exact post.tup S (r.append r') h.2 hp
  · exact h.elim⟩
def oCatL : D → D → Mu → (List D → Mu → Prop) → Prop := fun x y μ Q => match x, y with
  | .cell j, .cell k => (match μ j, μ k with | some xs, some ys => xs.length + ys.length ≤ sizeLine ∧ Q (xs ++ ys) μ | _, _ => False)
  | _, _ => False
theorem o_catL : OpLD X (binaryOp .Add) oCatL := ⟨_, op_cat, fun α H μ x y dx dy Qd Q S rx ry h post => by
  unfold oCatL at h
  split at h
  · rename_i j k
    split at h
    · rename_i xs ys e1 e2
      cases rx with
      | cell q =>
        cases ry with
        | cell q' =>
          obtain ⟨a, vs, h1, h2, h3⟩ := S.cell _ _ e1
          obtain ⟨b, ws, k1, k2, k3⟩ := S.cell _ _ e2
          rw [q] at h1
          rw [q'] at k1
          cases h1; cases k1
          exact ⟨_, _, _, _, rfl, rfl, h2, k2, by rw [h3.length, k3.length]; exact h.1, fun p hp => post.here S (h3.append k3) h.2 hp⟩
    · exact h.elim
  · exact h.elim⟩
def oRep : D → D → Mu → (List D → Mu → Prop) → Prop := fun x y μ Q => match x, y with
  | .cell j, .int n => (match μ j with | some xs => (-(2 ^ 63) ≤ n ∧ n < 2 ^ 63 ∧ xs.length * n.toNat ≤ sizeLine) ∧ Q (List.replicate n.toNat xs).flatten μ | _ => False)
  | _, _ => False
theorem o_rep : OpLD X (binaryOp .Mult) oRep := ⟨_, op_rep, fun α H μ x y dx dy Qd Q S rx ry h post => by
  unfold oRep at h
  split at h
  · rename_i j n
    split at h
    · rename_i xs e1
      cases rx with
      | cell q =>
        cases ry with
        | int n =>
          obtain ⟨a, vs, h1, h2, h3⟩ := S.cell _ _ e1
          rw [q] at h1
          cases h1
          exact ⟨_, n, _, rfl, rfl, h2, h.1.1, h.1.2.1, by rw [h3.length]; exact h.1.2.2, fun p hp => post.here S (h3.flat _) h.2 hp⟩
    · exact h.elim
  · exact h.elim⟩
/-- parts of slices -/
abbrev DTO := Rho → Mu → (Option Int → Mu → Prop) → Prop
structure POD (X : Cx) (e : Option Expr) (d : DTO) : Prop where
  ex : ∃ t, PO X e t ∧ ∀ α σ H ρ μ Qd (Q : Option Int → Hp → Prop), Sat X.K α H μ → EnvOk X.K α H σ ρ → d ρ μ Qd → (∀ o H' α' μ', Gr α H α' H' → Sat X.K α' H' μ' → Qd o μ' → Q o H') → t σ H Q
def doNone : DTO := fun _ μ Q => Q none μ
def doSome (de : DTE) : DTO := fun ρ μ Q => de ρ μ fun x μ1 => match x with | .int i => Q (some i) μ1 | _ => False
theorem do_none : POD X none doNone := ⟨_, po_none, fun α σ H ρ μ Qd Q S E h post => post _ _ _ _ (Gr.refl α H) S h⟩
theorem do_some {e : Expr} {de : DTE} (h : PED X e de) : POD X (some e) (doSome de) := by
  obtain ⟨te, a1, a2⟩ := h.ex
  refine ⟨_, po_some a1, fun α σ H ρ μ Qd Q S E h post => a2 α σ H ρ μ _ _ S E h fun v H1 α1 μ1 d g1 s1 r1 q1 => ?_⟩
  cases r1 with
  | int i => exact ⟨i, rfl, post _ _ _ _ g1 s1 q1⟩
  | _ => exact False.elim q1
/-- xs[lo:hi] of what stands at a list -/
def cutD (xs : List D) (lo hi : Option Int) : List D := (xs.drop (HT.sIx xs.length 0 lo)).take (HT.sIx xs.length xs.length hi - HT.sIx xs.length 0 lo)
theorem RlAll.cut {vs : List V} {ds : List D} (r : RlAll K α H vs ds) (lo hi : Option Int) : RlAll K α H (cutV vs lo hi) (cutD ds lo hi) := by
  unfold cutV cutD
  rw [r.length]
  exact (r.drop _).take _
def dSlL (de : DTE) (d1 d2 : DTO) : DTL := fun ρ μ Q => de ρ μ fun x μ1 => d1 ρ μ1 fun lo μ2 => d2 ρ μ2 fun hi μ3 => match litems μ3 x with | some xs => Q (cutD xs lo hi) μ3 | none => False
theorem dl_slice {e : Expr} {lo hi : Option Expr} {p2 pos : Pos} {de : DTE} {d1 d2 : DTO} (he : PED X e de) (h1 : POD X lo d1) (h2 : POD X hi d2) : PLD X (.Subscript e (.Slice lo hi none p2) pos) (dSlL de d1 d2) := by
  obtain ⟨te, a1, a2⟩ := he.ex
  obtain ⟨t1, b1, b2⟩ := h1.ex
  obtain ⟨t2, c1, c2⟩ := h2.ex
  refine ⟨_, pe_slice sl_list a1 b1 c1, fun α σ H ρ μ Qd Q S E h post => a2 α σ H ρ μ _ _ S E h fun v H1 α1 μ1 d g1 s1 r1 q1 =>
    b2 α1 σ H1 ρ μ1 _ _ s1 (E.mono g1) q1 fun o1 H2 α2 μ2 g2 s2 q2 => c2 α2 σ H2 ρ μ2 _ _ s2 ((E.mono g1).mono g2) q2 fun o2 H3 α3 μ3 g3 s3 q3 => ?_⟩
  split at q3
  · rename_i xs ex
    obtain ⟨a, vs, rfl, q, r⟩ := s3.list ((r1.mono g2).mono g3) ex
    exact ⟨a, vs, rfl, q, fun p hp => (post.mono ((g1.trans g2).trans g3)).here s3 (r.cut o1 o2) q3 hp⟩
  · exact False.elim q3
def dSlT (de : DTE) (d1 d2 : DTO) : DTE := fun ρ μ Q => de ρ μ fun x μ1 => d1 ρ μ1 fun lo μ2 => d2 ρ μ2 fun hi μ3 => match x with | .tup xs => Q (.tup (cutD xs lo hi)) μ3 | _ => False
theorem cut_all {β : Type} (xs : List β) (a b : Nat) (h0 : a = 0) (h1 : b = xs.length) : (xs.drop a).take (b - a) = xs := by
  subst h0 h1
  rw [List.drop_zero, Nat.sub_zero, List.take_length]
theorem de_sliceT {e : Expr} {lo hi : Option Expr} {p2 pos : Pos} {de : DTE} {d1 d2 : DTO} (he : PED X e de) (h1 : POD X lo d1) (h2 : POD X hi d2) : PED X (.Subscript e (.Slice lo hi none p2) pos) (dSlT de d1 d2) := by
  obtain ⟨te, a1, a2⟩ := he.ex
  obtain ⟨t1, b1, b2⟩ := h1.ex
  obtain ⟨t2, c1, c2⟩ := h2.ex
  refine ⟨_, pe_slice sl_tupA a1 b1 c1, fun α σ H ρ μ Qd Q S E h post => a2 α σ H ρ μ _ _ S E h fun v H1 α1 μ1 d g1 s1 r1 q1 =>
    b2 α1 σ H1 ρ μ1 _ _ s1 (E.mono g1) q1 fun o1 H2 α2 μ2 g2 s2 q2 => c2 α2 σ H2 ρ μ2 _ _ s2 ((E.mono g1).mono g2) q2 fun o2 H3 α3 μ3 g3 s3 q3 => ?_⟩
  have post3 := post.mono ((g1.trans g2).trans g3)
  have r3 := (r1.mono g2).mono g3
  cases r3 with
  | @tup a vs ds q r =>
    refine ⟨a, vs, rfl, q, fun w => ?_, fun _ p hp => post3.tup s3 (r.cut o1 o2) q3 hp⟩
    have e : cutD ds o1 o2 = ds := cut_all ds _ _ (by rw [← r.length]; exact w.1) (by rw [← r.length]; exact w.2)
    dsimp only at q3
    rw [e] at q3
    exact post3.here s3 (.tup q r) q3
  | _ => exact False.elim q3
end Dl
/-! Dat3: readings over plain data: statements, loops, comprehensions. -/
namespace Dl
open PySem PySem.Spec PyProof.Rows L2
variable {K : PySem.W.Frag} {α α1 : List Addr} {H H1 : Hp} {X : Cx}

structure DEnds where
  nx : Rho → Mu → Prop
  rt : DK
  bk : Rho → Mu → Prop := fun _ _ => False
  ct : Rho → Mu → Prop := fun _ _ => False
abbrev DTS := DEnds → Rho → Mu → Prop
/-- a mark whose kind names x: a simplifier told to let dependent arguments be (-dsimp) does not look into x -/
class Lk {β : Sort _} (x : β) : Type where
instance (priority := low) lkAll {β : Sort _} (x : β) : Lk x := ⟨⟩
def PostS (K : PySem.W.Frag) (α : List Addr) (H : Hp) (Qd : Rho → Mu → Prop) (Q : L2.St → Hp → Prop) : Prop := ∀ σ' H' α' ρ' μ', Gr α H α' H' → Sat K α' H' μ' → EnvOk K α' H' σ' ρ' → Qd ρ' μ' → Q σ' H'
theorem PostS.mono {Qd : Rho → Mu → Prop} {Q : L2.St → Hp → Prop} (g : Gr α H α1 H1) (p : PostS K α H Qd Q) : PostS K α1 H1 Qd Q := fun σ' H' α' ρ' μ' g' => p σ' H' α' ρ' μ' (g.trans g')
structure EndsOk (K : PySem.W.Frag) (α : List Addr) (H : Hp) (D : DEnds) (E : Ends) : Prop where
  nx : PostS K α H D.nx E.nx
  rt : PostE K α H D.rt E.rt
  bk : PostS K α H D.bk E.bk
  ct : PostS K α H D.ct E.ct
theorem EndsOk.mono {D : DEnds} {E : Ends} (g : Gr α H α1 H1) (e : EndsOk K α H D E) : EndsOk K α1 H1 D E := ⟨e.nx.mono g, e.rt.mono g, e.bk.mono g, e.ct.mono g⟩
def SndS (K : PySem.W.Frag) (ts : TS) (ds : DTS) : Prop := ∀ α σ H ρ μ (D : DEnds) (E : Ends), Sat K α H μ → EnvOk K α H σ ρ → ds D ρ μ → EndsOk K α H D E → ts E σ H
structure PSD (X : Cx) (st : Stmt) (ds : DTS) : Prop where
  ex : ∃ ts, PS X st ts ∧ SndS X.K ts ds
structure PSSD (X : Cx) (st : List Stmt) (ds : DTS) : Prop where
  ex : ∃ ts, PSs X st ts ∧ SndS X.K ts ds

def dNext : DTS := fun D ρ μ => D.nx ρ μ
/-- behind each statement what is known of the store may be less -/
def seqAt (t u : DTS) (D : DEnds) (ρ : Rho) (μ : Mu) [Lk t] [Lk u] [Lk D] : Prop := t { D with nx := fun ρ1 μ1 => ∃ μ2, Mu.Sub μ2 μ1 ∧ u D ρ1 μ2 } ρ μ
def dSeq (t u : DTS) [Lk t] [Lk u] : DTS := fun D ρ μ => seqAt t u D ρ μ
theorem dSeq_at (t u : DTS) (D : DEnds) (ρ : Rho) (μ : Mu) : dSeq t u D ρ μ = seqAt t u D ρ μ := rfl
theorem snd_next : SndS K tNext dNext := fun α σ H ρ μ D E S e h post => post.nx σ H α ρ μ (Gr.refl α H) S e h
theorem dss_nil : PSSD X [] dNext := ⟨_, pss_nil, snd_next⟩
theorem dss_cons {st : Stmt} {rest : List Stmt} {t u : DTS} (h1 : PSD X st t) (h2 : PSSD X rest u) : PSSD X (st :: rest) (dSeq t u) := by
  obtain ⟨t1, a1, a2⟩ := h1.ex
  obtain ⟨t2, b1, b2⟩ := h2.ex
  exact ⟨_, pss_cons a1 b1, fun α σ H ρ μ D E S e h post => a2 α σ H ρ μ _ _ S e h ⟨fun σ' H' α' ρ' μ' g S' e' ⟨μ2, sb, h'⟩ => b2 α' σ' H' ρ' μ2 D E (S'.sub sb) e' h' (post.mono g), post.rt, post.bk, post.ct⟩⟩
theorem dss_one {st : Stmt} {t : DTS} (h1 : PSD X st t) : PSSD X [st] t := by
  obtain ⟨t1, a1, a2⟩ := h1.ex
  exact ⟨_, pss_one a1, a2⟩
theorem ds_pass {pos : Pos} : PSD X (.Pass pos) dNext := ⟨_, ps_pass, snd_next⟩
def dBreak : DTS := fun D ρ μ => D.bk ρ μ
def dCont : DTS := fun D ρ μ => D.ct ρ μ
theorem ds_break {pos : Pos} : PSD X (.Break pos) dBreak := ⟨_, ps_break, fun α σ H ρ μ D E S e h post => post.bk σ H α ρ μ (Gr.refl α H) S e h⟩
theorem ds_continue {pos : Pos} : PSD X (.Continue pos) dCont := ⟨_, ps_continue, fun α σ H ρ μ D E S e h post => post.ct σ H α ρ μ (Gr.refl α H) S e h⟩
def dNever : DTS := fun _ _ _ => False
theorem ds_never {st : Stmt} : PSD X st dNever := ⟨_, ps_never, fun _ _ _ _ _ _ _ _ _ h _ => h.elim⟩
def dDrop (de : DTE) : DTS := fun D ρ μ => de ρ μ fun _ μ1 => D.nx ρ μ1
theorem ds_expr {e : Expr} {de : DTE} {pos : Pos} (he : PED X e de) (hs : swapsWith e none pos.line X.env = pure false := by rfl) : PSD X (.Expr e pos) (dDrop de) := by
  obtain ⟨te, a1, a2⟩ := he.ex
  exact ⟨_, ps_expr a1 hs, fun α σ H ρ μ D E S e h post => a2 α σ H ρ μ _ _ S e h fun v H' α' μ' d g S' r h' => post.nx σ H' α' ρ μ' g S' (e.mono g) h'⟩
def dRet (de : DTE) : DTS := fun D ρ μ => de ρ μ D.rt
theorem ds_ret {e : Expr} {de : DTE} {pos : Pos} (he : PED X e de) : PSD X (.Return (some e) pos) (dRet de) := by
  obtain ⟨te, a1, a2⟩ := he.ex
  exact ⟨_, ps_ret a1, fun α σ H ρ μ D E S e h post => a2 α σ H ρ μ _ _ S e h post.rt⟩
def dRetN : DTS := fun D _ μ => D.rt .non μ
theorem ds_retN {pos : Pos} : PSD X (.Return none pos) dRetN := ⟨_, ps_retN, fun α σ H ρ μ D E S e h post => post.rt _ _ _ _ _ (Gr.refl α H) S .non h⟩
def dIfS (dt : DTT) (t u : DTS) : DTS := fun D ρ μ => dt ρ μ fun b μ1 => if b = true then t D ρ μ1 else u D ρ μ1
theorem ds_if {c : Expr} {a b : List Stmt} {dt : DTT} {t u : DTS} {pos : Pos} (hc : PTD X c dt) (ha : PSSD X a t) (hb : PSSD X b u) : PSD X (.If c a b pos) (dIfS dt t u) := by
  obtain ⟨tc, c1, c2⟩ := hc.ex
  obtain ⟨ta, a1, a2⟩ := ha.ex
  obtain ⟨tb, b1, b2⟩ := hb.ex
  refine ⟨_, ps_if c1 a1 b1, fun α σ H ρ μ D E S e h post => c2 α σ H ρ μ _ _ S e h fun k H' α' μ' g S' h' => ?_⟩
  cases k with
  | true => exact a2 α' σ H' ρ μ' D E S' (e.mono g) h' (post.mono g)
  | false => exact b2 α' σ H' ρ μ' D E S' (e.mono g) h' (post.mono g)

/-! ### targets -/
abbrev DTG := D → Rho → Mu → (Rho → Mu → Prop) → Prop
abbrev DTGs := List D → Rho → Mu → (Rho → Mu → Prop) → Prop
def SndG (K : PySem.W.Frag) (g : TG) (dg : DTG) : Prop := ∀ α σ H ρ μ v d Qd (Q : L2.St → Hp → Prop), Sat K α H μ → EnvOk K α H σ ρ → Rl K α H v d → dg d ρ μ Qd → PostS K α H Qd Q → g v σ H Q
def SndGs (K : PySem.W.Frag) (g : TGs) (dg : DTGs) : Prop := ∀ α σ H ρ μ vs ds Qd (Q : L2.St → Hp → Prop), Sat K α H μ → EnvOk K α H σ ρ → RlAll K α H vs ds → dg ds ρ μ Qd → PostS K α H Qd Q → g vs σ H Q
structure PGD (X : Cx) (e : Expr) (dg : DTG) : Prop where
  ex : ∃ g, PG X e g ∧ SndG X.K g dg
structure PGsD (X : Cx) (es : List Expr) (dg : DTGs) : Prop where
  ex : ∃ g, PGs X es g ∧ SndGs X.K g dg
def gdName (i : Nat) : DTG := fun d ρ μ Q => Q (ρ.set i (some d)) μ
theorem dg_name (i : Nat) {x : Str} {pos : Pos} (hN : X.N.Nodup) (hi : X.N[i]? = some x := by rfl) (hx : Loc X.env.scope x := by first | exact Or.inl rfl | exact Or.inr rfl) (hf : X.fn x = true ∨ X.env.scope.names.lookup x = some .local := by first | exact .inl rfl | exact .inr rfl | assumption) : PGD X (.Name x pos) (gdName i) :=
  ⟨_, pg_name hN hi hx hf, fun α σ H ρ μ v d Qd Q S e r h post => post _ _ _ _ _ (Gr.refl α H) S (e.set r) h⟩
def gdNil : DTGs := fun ds ρ μ Q => match ds with | [] => Q ρ μ | _ => False
def gdCons (g : DTG) (gs : DTGs) : DTGs := fun ds ρ μ Q => match ds with | d :: r => g d ρ μ fun ρ1 μ1 => gs r ρ1 μ1 Q | [] => False
def gdTup (n : Nat) (gs : DTGs) : DTG := fun d ρ μ Q => match d with | .tup ds => ds.length = n ∧ gs ds ρ μ Q | _ => False
theorem dgs_nil : PGsD X [] gdNil := ⟨_, pgs_nil, fun α σ H ρ μ vs ds Qd Q S e r h post => by
  cases r with
  | nil => exact ⟨rfl, post _ _ _ _ _ (Gr.refl α H) S e h⟩
  | cons _ _ => exact False.elim h⟩
theorem dgs_cons {e : Expr} {es : List Expr} {g : DTG} {gs : DTGs} (h1 : PGD X e g) (h2 : PGsD X es gs) (hs : ∀ {t : TG} {u : TGs}, PG X e t → PGs X es u → PGs X (e :: es) (gCons t u) := by intro _ _ a b; exact pgs_cons a b) : PGsD X (e :: es) (gdCons g gs) := by
  obtain ⟨t1, a1, a2⟩ := h1.ex
  obtain ⟨t2, b1, b2⟩ := h2.ex
  refine ⟨_, hs a1 b1, fun α σ H ρ μ vs ds Qd Q S e r h post => ?_⟩
  cases r with
  | nil => exact False.elim h
  | cons r rs => exact ⟨_, _, rfl, a2 α σ H ρ μ _ _ _ _ S e r h fun σ' H' α' ρ' μ' g S' e' h' => b2 α' σ' H' ρ' μ' _ _ _ _ S' e' (rs.mono g) h' (post.mono g)⟩
def gdSub (da di : DTE) : DTG := fun d ρ μ Q => da ρ μ fun o μ1 => di ρ μ1 fun i μ2 => match o, i with
  | .cell k, .int j => (match μ2 k with | some xs => (match ixN xs.length j with | some n => Q ρ (μ2.upd k (xs.set n d)) | none => False) | none => False)
  | _, _ => False
theorem dg_sub {o i : Expr} {da di : DTE} {pos : Pos} (ho : PED X o da) (hi : PED X i di) (mk : ∀ {ta ti : TE}, PE X o ta → PE X i ti → PG X (.Subscript o i pos) (gSub ta ti rSetL) := by intro _ _ a b; exact pg_sub a b set_list) : PGD X (.Subscript o i pos) (gdSub da di) := by
  obtain ⟨t1, a1, a2⟩ := ho.ex
  obtain ⟨t2, b1, b2⟩ := hi.ex
  refine ⟨_, mk a1 b1, fun α σ H ρ μ v d Qd Q S e r h post => a2 α σ H ρ μ _ _ S e h fun o H1 α1 μ1 od g1 S1 r1 q1 => b2 α1 σ H1 ρ μ1 _ _ S1 (e.mono g1) q1 fun j H2 α2 μ2 jd g2 S2 r2 q2 => ?_⟩
  have r1' := r1.mono g2
  split at q2
  · rename_i k j
    split at q2
    · rename_i xs e1
      split at q2
      · rename_i n en
        cases r1' with
        | cell qa =>
          cases r2
          obtain ⟨a, vs, h1, h2, h3⟩ := S2.cell _ _ e1
          rw [qa] at h1
          cases h1
          refine ⟨_, vs, j, n, rfl, rfl, h2, by rw [h3.length]; exact en, ?_⟩
          exact post _ _ _ _ _ ((g1.trans g2).trans (gr_set h2)) (S2.set qa h2 (h3.set (r.mono (g1.trans g2)) n)) (((e.mono g1).mono g2).mono (gr_set h2)) q2
      · exact False.elim q2
    · exact False.elim q2
  · exact False.elim q2

/-! ### assignments -/
def dAsg (de : DTE) (g : DTG) : DTS := fun D ρ μ => de ρ μ fun x μ1 => g x ρ μ1 D.nx
theorem snd_asg {te : TE} {de : DTE} {g : TG} {dg : DTG} (h1 : SndE K te de) (h2 : SndG K g dg) : SndS K (tAsg te g) (dAsg de dg) := fun α σ H ρ μ D E S e h post =>
  h1 α σ H ρ μ _ _ S e h fun v H' α' μ' d g S' r h' => h2 α' σ H' ρ μ' v d _ _ S' (e.mono g) r h' (post.nx.mono g)
theorem ds_asg {tg e : Expr} {de : DTE} {dg : DTG} {pos : Pos} (he : PED X e de) (hg : PGD X tg dg) (mk : ∀ {te : TE} {g : TG}, PE X e te → PG X tg g → PS X (.Assign [tg] e pos) (tAsg te g) := by intro _ _ a b; exact ps_asg a b) : PSD X (.Assign [tg] e pos) (dAsg de dg) := by
  obtain ⟨t1, a1, a2⟩ := he.ex
  obtain ⟨t2, b1, b2⟩ := hg.ex
  exact ⟨_, mk a1 b1, snd_asg a2 b2⟩
/-- a fresh list to one name, told apart: the cell's number is any new one -/
def dPar (i j : Nat) (da : DTA) : DTS := fun D ρ μ => da ρ μ fun ds μ1 => match ds with | [v, w] => D.nx ((ρ.set i (some v)).set j (some w)) μ1 | _ => False
theorem ds_par (i j : Nat) {x y : Str} {a b : Expr} {da : DTA} {px py pt pos : Pos} {kt k2 pt2} (hN : X.N.Nodup) (ha : PAD X [a, b] da) (hc : X.calm = true := by rfl) (hi : X.N[i]? = some x := by rfl) (hj : X.N[j]? = some y := by rfl) (hij : i ≠ j := by decide)
    (hx : X.env.scope.names.lookup x = some .local := by rfl) (hy : X.env.scope.names.lookup y = some .local := by rfl)
    (hw : swappedStores [.Tuple [.Name x px, .Name y py] kt pt] (.Tuple [a, b] k2 pt2) X.env = pure (some [x, y]) := by rfl)
    (hs : swapsWithSole [.Tuple [.Name x px, .Name y py] kt pt] (.Tuple [a, b] k2 pt2) pos.line X.env = pure false := by rfl) :
    PSD X (.Assign [.Tuple [.Name x px, .Name y py] kt pt] (.Tuple [a, b] k2 pt2) pos) (dPar i j da) := by
  obtain ⟨t1, a1, a2⟩ := ha.ex
  refine ⟨_, ps_par hc hN hi hj hij hx hy a1 hw hs, fun α σ H ρ μ D E S e h post => a2 α σ H ρ μ _ _ S e h fun vs H' α' μ' ds g S' r h' => ?_⟩
  unfold dPar at h
  split at h'
  · obtain ⟨v, w, rfl, r1, r2⟩ := rl2 r
    exact ⟨v, w, rfl, post.nx _ _ _ _ _ g S' (((e.mono g).set r1).set r2) h'⟩
  · exact False.elim h'

/-! ### what is walked -/
structure Src where
  its : List D
  keep : List (Nat × List D)
def Src.held (s : Src) (μ : Mu) : Prop := ∀ p ∈ s.keep, μ p.1 = some p.2
abbrev DTI := Rho → Mu → (Src → Mu → Prop) → Prop
structure ItOk (K : PySem.W.Frag) (J : It) (s : Src) (α : List Addr) (H : Hp) : Prop where
  ok : ∀ α' H' μ', Gr α H α' H' → Sat K α' H' μ' → s.held μ' → (∀ i, i < s.its.length → J.go i H') ∧ (∀ i, s.its.length ≤ i → J.stop i H') ∧
    ∀ i d v H2, s.its[i]? = some d → J.yld i H' v H2 → Gr α' H' α' H2 ∧ Sat K α' H2 μ' ∧ Rl K α' H2 v d
def SndI (K : PySem.W.Frag) (wi : TI) (di : DTI) : Prop := ∀ α σ H ρ μ Qd (R : It → Hp → Prop), Sat K α H μ → EnvOk K α H σ ρ → di ρ μ Qd →
  (∀ J H' α' μ' s, Gr α H α' H' → Sat K α' H' μ' → s.held μ' → ItOk K J s α' H' → Qd s μ' → R J H') → wi σ H R
structure PID (X : Cx) (tg iter : Expr) (di : DTI) : Prop where
  ex : ∃ wi, PI X tg iter wi ∧ SndI X.K wi di
theorem held_nil {xs : List D} {μ : Mu} : Src.held ⟨xs, []⟩ μ := fun _ h => nomatch h
theorem held_one {xs : List D} {μ : Mu} {k : Nat} {ys : List D} (h : μ k = some ys) : Src.held ⟨xs, [(k, ys)]⟩ μ := fun p hp => by
  cases hp with
  | head => exact h
  | tail _ hp => cases hp
theorem held_of {xs : List D} {μ : Mu} {k : Nat} {ys : List D} {r : List (Nat × List D)} (h : Src.held ⟨xs, (k, ys) :: r⟩ μ) : μ k = some ys := h (k, ys) (.head _)

def diLst (de : DTE) : DTI := fun ρ μ Q => de ρ μ fun x μ1 => match x with
  | .frz ds => Q ⟨ds, []⟩ μ1
  | .cell k => (match μ1 k with | some xs => Q ⟨xs, [(k, xs)]⟩ μ1 | none => False)
  | _ => False
def diTup (de : DTE) : DTI := fun ρ μ Q => de ρ μ fun x μ1 => match x with
  | .tup ds => Q ⟨ds, []⟩ μ1
  | _ => False
theorem itl_cell {a : Addr} {k : Nat} {xs : List D} (h : α[k]? = some a) : ItOk K (Itl K a) ⟨xs, [(k, xs)]⟩ α H := ⟨fun α' H' μ' g S hd => by
  obtain ⟨b, vs, h1, h2, h3⟩ := S.cell k xs (held_of hd)
  rw [g.pre _ _ h] at h1
  cases h1
  refine ⟨fun i hi => ⟨vs, vs[i]'(by rw [h3.length]; exact hi), .of h2, by simp⟩, fun i hi => ⟨vs, .of h2, by rw [h3.length]; exact hi⟩, fun i d v H2 hd hy => ?_⟩
  obtain ⟨rfl, hy⟩ := hy
  obtain ⟨w, e, r⟩ := h3.get hd
  have e2 := hy vs (.of h2)
  rw [e] at e2
  cases e2
  exact ⟨Gr.refl _ _, S, r⟩⟩
theorem itl_frz {a : Addr} {vs : List V} {xs : List D} (q : FrzL K H a vs) (r0 : RlAll K α H vs xs) : ItOk K (Itl K a) ⟨xs, []⟩ α H := ⟨fun α' H' μ' g S hd => by
  have q' := (g.ext.frzL q).seq
  have h3 := r0.mono g
  refine ⟨fun i hi => ⟨vs, vs[i]'(by rw [h3.length]; exact hi), q', by simp⟩, fun i hi => ⟨vs, q', by rw [h3.length]; exact hi⟩, fun i d v H2 hd hy => ?_⟩
  obtain ⟨rfl, hy⟩ := hy
  obtain ⟨w, e, r⟩ := h3.get hd
  have e2 := hy vs q'
  rw [e] at e2
  cases e2
  exact ⟨Gr.refl _ _, S, r⟩⟩
theorem itt_tup {a : Addr} {vs : List V} {xs : List D} (q : SqT K H a vs) (r0 : RlAll K α H vs xs) : ItOk K (Itt K a) ⟨xs, []⟩ α H := ⟨fun α' H' μ' g S hd => by
  have q' := g.ext.seqT q
  have h3 := r0.mono g
  refine ⟨fun i hi => ⟨vs, vs[i]'(by rw [h3.length]; exact hi), q', by simp⟩, fun i hi => ⟨vs, q', by rw [h3.length]; exact hi⟩, fun i d v H2 hd hy => ?_⟩
  obtain ⟨rfl, hy⟩ := hy
  obtain ⟨w, e, r⟩ := h3.get hd
  have e2 := hy vs q'
  rw [e] at e2
  cases e2
  exact ⟨Gr.refl _ _, S, r⟩⟩
theorem di_lst {tg l : Expr} {de : DTE} (h : PED X l de) : PID X tg l (diLst de) := by
  obtain ⟨t1, a1, a2⟩ := h.ex
  refine ⟨_, pi_list a1, fun α σ H ρ μ Qd R S e h post => a2 α σ H ρ μ _ _ S e h fun v H1 α1 μ1 d g1 S1 r1 q1 => ?_⟩
  cases r1 with
  | frz q r => exact ⟨_, rfl, ⟨_, q.seq⟩, post _ _ _ _ _ g1 S1 held_nil (itl_frz q r) q1⟩
  | @cell a k q =>
    dsimp only at q1
    split at q1
    · rename_i xs ex
      obtain ⟨b, vs, h1, h2, h3⟩ := S1.cell k xs ex
      rw [q] at h1
      cases h1
      exact ⟨_, rfl, ⟨_, .of h2⟩, post _ _ _ _ _ g1 S1 (held_one ex) (itl_cell q) q1⟩
    · exact False.elim q1
  | _ => exact False.elim q1
theorem di_tup {tg l : Expr} {de : DTE} (h : PED X l de) : PID X tg l (diTup de) := by
  obtain ⟨t1, a1, a2⟩ := h.ex
  refine ⟨_, pi_tup a1, fun α σ H ρ μ Qd R S e h post => a2 α σ H ρ μ _ _ S e h fun v H1 α1 μ1 d g1 S1 r1 q1 => ?_⟩
  cases r1 with
  | tup q r => exact ⟨_, rfl, ⟨_, q⟩, post _ _ _ _ _ g1 S1 held_nil (itt_tup q r) q1⟩
  | _ => exact False.elim q1
/-- lo, lo + 1, .. below hi -/
def rangeD (lo hi : Int) : List D := (List.range (hi - lo).toNat).map fun i => .int (lo + (i : Nat))
theorem rangeD_len (lo hi : Int) : (rangeD lo hi).length = (hi - lo).toNat := by
  unfold rangeD
  rw [List.length_map, List.length_range]
theorem itr_ok (lo hi : Int) : ItOk K (Itr lo (hi - lo).toNat) ⟨rangeD lo hi, []⟩ α H := ⟨fun α' H' μ' g S hd => by
  refine ⟨fun i hi => ?_, fun i hi => ?_, fun i d v H2 hd hy => ?_⟩
  · have hi : i < (rangeD lo _).length := hi
    rw [rangeD_len] at hi
    exact hi
  · have hi : (rangeD lo _).length ≤ i := hi
    rw [rangeD_len] at hi
    exact hi
  · obtain ⟨rfl, rfl⟩ := hy
    have hd : (rangeD lo hi)[i]? = some d := hd
    have hi := (List.getElem?_eq_some_iff.mp hd).1
    rw [rangeD_len] at hi
    unfold rangeD at hd
    rw [List.getElem?_map, List.getElem?_range hi] at hd
    cases hd
    exact ⟨Gr.refl _ _, S, .int _⟩⟩
def Rg (i : Int) : Prop := -(2 ^ 62) ≤ i ∧ i < 2 ^ 62
def diR1 (da : DTA) : DTI := fun ρ μ Q => da ρ μ fun ds μ1 => match ds with | [.int n] => Rg n ∧ Q ⟨rangeD 0 n, []⟩ μ1 | _ => False
def diR2 (da : DTA) : DTI := fun ρ μ Q => da ρ μ fun ds μ1 => match ds with | [.int lo, .int hi] => (Rg lo ∧ Rg hi) ∧ Q ⟨rangeD lo hi, []⟩ μ1 | _ => False
theorem di_r1 {tg a : Expr} {da : DTA} {p pos : Pos} (hm : X.mg "range" = none) (ha : PAD X [a] da) (hg : Gl X "range" := by rfl) (hs : starEach [a] X.env = [(false, eval a X.env)] := by rfl) : PID X tg (.Call (.Name "range" p) [a] [] pos) (diR1 da) := by
  obtain ⟨t1, a1, a2⟩ := ha.ex
  refine ⟨_, pi_range1 hg hm a1 hs, fun α σ H ρ μ Qd R S e h post => a2 α σ H ρ μ _ _ S e h fun vs H1 α1 μ1 ds g1 S1 r1 q1 => ?_⟩
  split at q1
  · rename_i n
    obtain ⟨v, rfl, r⟩ := rl1 r1
    cases r
    have e0 : n.toNat = (n - 0).toNat := by rw [Int.sub_zero]
    refine ⟨n, rfl, q1.1.1, q1.1.2, ?_⟩
    rw [e0]
    exact post _ _ _ _ _ g1 S1 held_nil (itr_ok 0 n) q1.2
  · exact False.elim q1
theorem di_r2 {tg a b : Expr} {da : DTA} {p pos : Pos} (hm : X.mg "range" = none) (ha : PAD X [a, b] da) (hg : Gl X "range" := by rfl) (hs : starEach [a, b] X.env = [(false, eval a X.env), (false, eval b X.env)] := by rfl) (hs2 : starEach [b] X.env = [(false, eval b X.env)] := by rfl) :
    PID X tg (.Call (.Name "range" p) [a, b] [] pos) (diR2 da) := by
  obtain ⟨t1, a1, a2⟩ := ha.ex
  refine ⟨_, pi_range2 hg hm a1 hs hs2, fun α σ H ρ μ Qd R S e h post => a2 α σ H ρ μ _ _ S e h fun vs H1 α1 μ1 ds g1 S1 r1 q1 => ?_⟩
  split at q1
  · rename_i lo hi
    obtain ⟨v, w, rfl, r, r'⟩ := rl2 r1
    cases r; cases r'
    exact ⟨lo, hi, rfl, ⟨q1.1.1.1, q1.1.1.2, q1.1.2.1, q1.1.2.2⟩, post _ _ _ _ _ g1 S1 held_nil (itr_ok lo hi) q1.2⟩
  · exact False.elim q1
/-- what stands at a list, with its cell -/
def lsrc (μ : Mu) : D → Option Src
  | .frz ds => some ⟨ds, []⟩
  | .cell k => (μ k).map fun xs => ⟨xs, [(k, xs)]⟩
  | _ => none
def enumD (xs : List D) : List D := xs.zipIdx.map fun p => .tup [.int (p.2 : Nat), p.1]
def zipD (xs ys : List D) : List D := List.zipWith (fun x y => .tup [x, y]) xs ys
/-- a list stays as it stands as long as its cell is held -/
structure LOk (K : PySem.W.Frag) (a : Addr) (s : Src) (α : List Addr) (H : Hp) : Prop where
  ok : ∀ α' H' μ', Gr α H α' H' → Sat K α' H' μ' → s.held μ' → ∃ vs, SqL K H' a vs ∧ RlAll K α' H' vs s.its
theorem lok_of {μ : Mu} {v : V} {d : D} {s : Src} (S : Sat K α H μ) (r : Rl K α H v d) (h : lsrc μ d = some s) : s.held μ ∧ ∃ a vs, v = .ref a ∧ SqL K H a vs ∧ LOk K a s α H := by
  cases r with
  | frz q r =>
    cases h
    exact ⟨held_nil, _, _, rfl, q.seq, ⟨fun α' H' μ' g S' hd => ⟨_, (g.ext.frzL q).seq, r.mono g⟩⟩⟩
  | @cell a k q =>
    cases e : μ k with
    | none =>
      rw [lsrc, e] at h
      cases h
    | some xs =>
      rw [lsrc, e] at h
      cases h
      obtain ⟨b, vs, h1, h2, h3⟩ := S.cell _ _ e
      rw [q] at h1
      cases h1
      refine ⟨held_one e, _, vs, rfl, .of h2, ⟨fun α' H' μ' g S' hd => ?_⟩⟩
      obtain ⟨c, ws, k1, k2, k3⟩ := S'.cell k xs (held_of hd)
      rw [g.pre _ _ q] at k1
      cases k1
      exact ⟨ws, .of k2, k3⟩
  | _ => cases h
def diEnum (de : DTE) : DTI := fun ρ μ Q => de ρ μ fun x μ1 => match lsrc μ1 x with | some s => Q ⟨enumD s.its, s.keep⟩ μ1 | none => False
def diZip (d1 d2 : DTE) : DTI := fun ρ μ Q => d1 ρ μ fun x μ1 => d2 ρ μ1 fun y μ2 => match lsrc μ2 x, lsrc μ2 y with | some s, some t => Q ⟨zipD s.its t.its, s.keep ++ t.keep⟩ μ2 | _, _ => False
theorem enumD_len (xs : List D) : (enumD xs).length = xs.length := by
  unfold enumD
  rw [List.length_map, List.length_zipIdx]
theorem enumD_get {xs : List D} {i : Nat} {d : D} (h : (enumD xs)[i]? = some d) : ∃ x, xs[i]? = some x ∧ d = .tup [.int (i : Nat), x] := by
  unfold enumD at h
  rw [List.getElem?_map, List.getElem?_zipIdx] at h
  cases e : xs[i]? with
  | none =>
    rw [e] at h
    cases h
  | some x =>
    rw [e] at h
    cases h
    exact ⟨x, rfl, by simp⟩
theorem zipD_get {xs ys : List D} {i : Nat} {d : D} (h : (zipD xs ys)[i]? = some d) : ∃ x y, xs[i]? = some x ∧ ys[i]? = some y ∧ d = .tup [x, y] := by
  unfold zipD at h
  rw [List.getElem?_zipWith] at h
  cases e : xs[i]? with
  | none =>
    rw [e] at h
    cases h
  | some x =>
    cases e2 : ys[i]? with
    | none =>
      rw [e, e2] at h
      cases h
    | some y =>
      rw [e, e2] at h
      cases h
      exact ⟨x, y, rfl, rfl, rfl⟩
theorem new_pair {μ : Mu} {v w : V} {d e : D} {T : Addr} (S : Sat K α H μ) (r : Rl K α H v d) (r' : Rl K α H w e) (h : H T = none) :
    Gr α H α (upd H T (.tup [v, w])) ∧ Sat K α (upd H T (.tup [v, w])) μ ∧ Rl K α (upd H T (.tup [v, w])) (.ref T) (.tup [d, e]) :=
  ⟨gr_new h, S.new h, .tup (.inl (.inl L2.upd_same)) (.cons (r.mono (gr_new h)) (.cons (r'.mono (gr_new h)) .nil))⟩
theorem di_enum {e : Expr} {de : DTE} {p pos tpos : Pos} {elts : List Expr} {kk : Nat} (hm : X.mg "enumerate" = none) (he : PED X e de) (hg : Gl X "enumerate" := by rfl) (hs : starEach [e] X.env = [(false, eval e X.env)] := by rfl) (hs1 : starEach [e] X.env = (false, eval e X.env) :: starEach [] X.env := by rfl) :
    PID X (.Tuple elts kk tpos) (.Call (.Name "enumerate" p) [e] [] pos) (diEnum de) := by
  obtain ⟨t1, a1, a2⟩ := he.ex
  refine ⟨_, pi_enum hg hm (pa_cons a1 pa_nil hs1) hs, fun α σ H ρ μ Qd R S en h post => a2 α σ H ρ μ _ _ S en h fun v H1 α1 μ1 d g1 S1 r1 q1 => ?_⟩
  split at q1
  · rename_i s es
    obtain ⟨hd, a, vs, rfl, q, L⟩ := lok_of S1 r1 es
    refine ⟨a, vs, rfl, q, post _ _ _ _ ⟨enumD s.its, s.keep⟩ g1 S1 hd ⟨fun α' H' μ' g S' hd' => ?_⟩ q1⟩
    obtain ⟨ws, q', r'⟩ := L.ok α' H' μ' g S' hd'
    refine ⟨fun i hi => ?_, fun i hi => ?_, fun i d v H2 hg hy => ?_⟩
    · have hi : i < (enumD s.its).length := hi
      rw [enumD_len, ← r'.length] at hi
      exact ⟨ws, ws[i], q', by simp⟩
    · have hi : (enumD s.its).length ≤ i := hi
      rw [enumD_len, ← r'.length] at hi
      exact ⟨ws, q', hi⟩
    · obtain ⟨x, hx, rfl⟩ := enumD_get hg
      obtain ⟨T, y, rfl, hT, rfl, hy⟩ := hy
      obtain ⟨w, hw, rw'⟩ := r'.get hx
      have e2 := hy ws q'
      rw [hw] at e2
      cases e2
      exact new_pair S' (.int _) rw' hT
  · exact False.elim q1
theorem di_zip {e e2 : Expr} {d1 d2 : DTE} {p pos tpos : Pos} {elts : List Expr} {kk : Nat} (hm : X.mg "zip" = none) (he : PED X e d1) (he2 : PED X e2 d2) (hg : Gl X "zip" := by rfl)
    (hs : starEach [e, e2] X.env = (false, eval e X.env) :: starEach [e2] X.env := by rfl) (hs2 : starEach [e2] X.env = (false, eval e2 X.env) :: starEach [] X.env := by rfl) (hpl : (backTo pos (starEach [e2] X.env)).any (·.1) = false := by rfl) :
    PID X (.Tuple elts kk tpos) (.Call (.Name "zip" p) [e, e2] [] pos) (diZip d1 d2) := by
  obtain ⟨t1, a1, a2⟩ := he.ex
  obtain ⟨t2, b1, b2⟩ := he2.ex
  refine ⟨_, pi_zip hg hm (pa_cons a1 (pa_cons b1 pa_nil hs2) hs) hs hpl, fun α σ H ρ μ Qd R S en h post => a2 α σ H ρ μ _ _ S en h fun v H1 α1 μ1 d g1 S1 r1 q1 => b2 α1 σ H1 ρ μ1 _ _ S1 (en.mono g1) q1 fun w H2 α2 μ2 dd g2 S2 r2 q2 => ?_⟩
  split at q2
  · rename_i s t es et
    obtain ⟨hd, a, vs, rfl, q, L⟩ := lok_of S2 (r1.mono g2) es
    obtain ⟨hd2, b, us, rfl, q', L'⟩ := lok_of S2 r2 et
    refine ⟨a, b, vs, us, rfl, q, q', post _ _ _ _ _ (g1.trans g2) S2 (fun p hp => ?_) ⟨fun α' H' μ' g S' hd' => ?_⟩ q2⟩
    · rcases List.mem_append.mp hp with hp | hp
      · exact hd p hp
      · exact hd2 p hp
    obtain ⟨ws, k1, k2⟩ := L.ok α' H' μ' g S' (fun p hp => hd' p (List.mem_append.mpr (.inl hp)))
    obtain ⟨zs, m1, m2⟩ := L'.ok α' H' μ' g S' (fun p hp => hd' p (List.mem_append.mpr (.inr hp)))
    have len : (zipD s.its t.its).length = min ws.length zs.length := by
      unfold zipD
      rw [List.length_zipWith, k2.length, m2.length]
    refine ⟨fun i hi => ?_, fun i hi => ?_, fun i d v H3 hg hy => ?_⟩
    · have hi : i < (zipD s.its t.its).length := hi
      rw [len] at hi
      exact ⟨ws, zs, ws[i]'(by omega), zs[i]'(by omega), k1, m1, by simp, by simp⟩
    · have hi : (zipD s.its t.its).length ≤ i := hi
      rw [len] at hi
      exact ⟨ws, zs, k1, m1, by omega⟩
    · obtain ⟨x, y, hx, hz, rfl⟩ := zipD_get hg
      obtain ⟨T, x1, x2, rfl, hT, rfl, hy1, hy2⟩ := hy
      obtain ⟨w1, hw1, rw1⟩ := k2.get hx
      obtain ⟨w2, hw2, rw2⟩ := m2.get hz
      have e1 := hy1 ws k1
      have e2 := hy2 zs m1
      rw [hw1] at e1
      rw [hw2] at e2
      cases e1; cases e2
      exact new_pair S' rw1 rw2 hT
  · exact False.elim q2

/-! ### for, while -/
def forIn (s : Src) (g : DTG) (body : DTS) (D : DEnds) (ρ : Rho) (μ1 : Mu) [Lk s] [Lk g] [Lk body] [Lk D] [Lk ρ] [Lk μ1] : Prop := ∃ W : Nat → Rho → Mu → Prop, W 0 ρ μ1 ∧
  (∀ i x ρ' μ', s.its[i]? = some x → W i ρ' μ' → s.held μ' ∧ g x ρ' μ' fun ρ2 μ2 => body { D with nx := W (i + 1), ct := W (i + 1), bk := D.nx } ρ2 μ2) ∧
  ∀ ρ' μ', W s.its.length ρ' μ' → s.held μ' ∧ D.nx ρ' μ'
def dFor (di : DTI) (g : DTG) (body : DTS) [Lk di] [Lk g] [Lk body] : DTS := fun D ρ μ => di ρ μ fun s μ1 => forIn s g body D ρ μ1
theorem ds_for {tg iter : Expr} {body : List Stmt} {di : DTI} {g : DTG} {db : DTS} {pos : Pos} (hi : PID X tg iter di) (hg : PGD X tg g) (hb : PSSD X body db) (hp : PassesOwn (model X.prog X.w) X.A X.env X.xe := by exact PassesOwn.never) (hc : X.calm = true := by rfl)
    (hs : ∀ x, foldedSetIterable iter X.env x = pure x := by intro _; rfl) : PSD X (.For tg iter body [] pos) (dFor di g db) := by
  obtain ⟨wi, i1, i2⟩ := hi.ex
  obtain ⟨tg', g1, g2⟩ := hg.ex
  obtain ⟨tb, b1, b2⟩ := hb.ex
  refine ⟨_, ps_for hp hc i1 g1 b1 hs, fun α σ H ρ μ D E S e h post => i2 α σ H ρ μ _ _ S e h fun J H1 α1 μ1 s gr S1 hd1 I q1 => ?_⟩
  obtain ⟨W, w0, ws, wd⟩ := q1
  refine ⟨fun i m σ' H' => i ≤ s.its.length ∧ m = s.its.length - i ∧ ∃ α' ρ' μ', Gr α1 H1 α' H' ∧ Sat X.K α' H' μ' ∧ EnvOk X.K α' H' σ' ρ' ∧ W i ρ' μ',
    ⟨_, Nat.zero_le _, rfl, α1, ρ, μ1, Gr.refl _ _, S1, e.mono gr, w0⟩, fun i m σ' H' hW => ?_⟩
  obtain ⟨hi, rfl, α', ρ', μ', gr', S', e', w⟩ := hW
  by_cases hlt : i < s.its.length
  · obtain ⟨hd, q⟩ := ws i s.its[i] ρ' μ' (List.getElem?_eq_getElem hlt) w
    obtain ⟨go, _, yl⟩ := I.ok α' H' μ' gr' S' hd
    refine .inr ⟨go i hlt, fun σ2 H2 => ∃ α2 ρ2 μ2, Gr α1 H1 α2 H2 ∧ Sat X.K α2 H2 μ2 ∧ EnvOk X.K α2 H2 σ2 ρ2 ∧ W (i + 1) ρ2 μ2, fun σ2 H2 hN => ?_, fun x H2 hy => ?_⟩
    · exact ⟨s.its.length - (i + 1), by omega, hlt, rfl, hN⟩
    · obtain ⟨gy, Sy, ry⟩ := yl i _ x H2 (List.getElem?_eq_getElem hlt) hy
      refine g2 α' σ' H2 ρ' μ' x _ _ _ Sy (e'.mono gy) ry q fun σ3 H3 α3 ρ3 μ3 g3 S3 e3 q3 => ?_
      have gg : Gr α1 H1 α3 H3 := (gr'.trans gy).trans g3
      refine b2 α3 σ3 H3 ρ3 μ3 _ _ S3 e3 q3 ⟨?_, ((post.mono gr).mono gg).rt, ((post.mono gr).mono gg).nx, ?_⟩
      · exact fun σ4 H4 α4 ρ4 μ4 g4 S4 e4 q4 => ⟨α4, ρ4, μ4, gg.trans g4, S4, e4, q4⟩
      · exact fun σ4 H4 α4 ρ4 μ4 g4 S4 e4 q4 => ⟨α4, ρ4, μ4, gg.trans g4, S4, e4, q4⟩
  · have ei : i = s.its.length := by omega
    subst ei
    obtain ⟨hd, q⟩ := wd ρ' μ' w
    obtain ⟨_, st, _⟩ := I.ok α' H' μ' gr' S' hd
    exact .inl ⟨st _ (Nat.le_refl _), (post.mono gr).nx _ _ _ _ _ gr' S' e' q⟩
def dWhile (c : DTT) (body : DTS) [Lk c] [Lk body] : DTS := fun D ρ μ => ∃ (W : Rho → Mu → Prop) (m : Rho → Mu → Nat), W ρ μ ∧ ∀ ρ' μ', W ρ' μ' → c ρ' μ' fun b μ1 =>
  if b = true then body { D with nx := fun ρ2 μ2 => W ρ2 μ2 ∧ m ρ2 μ2 < m ρ' μ', ct := fun ρ2 μ2 => W ρ2 μ2 ∧ m ρ2 μ2 < m ρ' μ', bk := D.nx } ρ' μ1 else D.nx ρ' μ1
theorem ds_while {c : Expr} {body : List Stmt} {dc : DTT} {db : DTS} {pos : Pos} (hc : PTD X c dc) (hb : PSSD X body db) (hp : PassesOwn (model X.prog X.w) X.A X.env X.xe := by exact PassesOwn.never) : PSD X (.While c body [] pos) (dWhile dc db) := by
  obtain ⟨tc, c1, c2⟩ := hc.ex
  obtain ⟨tb, b1, b2⟩ := hb.ex
  refine ⟨_, ps_while hp c1 b1, fun α σ H ρ μ D E S e h post => ?_⟩
  obtain ⟨W, m, w0, ws⟩ := h
  refine ⟨fun n σ' H' => ∃ α' ρ' μ', Gr α H α' H' ∧ Sat X.K α' H' μ' ∧ EnvOk X.K α' H' σ' ρ' ∧ W ρ' μ' ∧ n = m ρ' μ', ⟨_, α, ρ, μ, Gr.refl _ _, S, e, w0, rfl⟩, fun n σ' H' hW => ?_⟩
  obtain ⟨α', ρ', μ', g', S', e', w, rfl⟩ := hW
  refine c2 α' σ' H' ρ' μ' _ _ S' e' (ws ρ' μ' w) fun b H2 α2 μ2 g2 S2 q2 => ?_
  cases b with
  | false => exact post.nx _ _ _ _ _ (g'.trans g2) S2 (e'.mono g2) q2
  | true =>
    refine ⟨fun σ3 H3 => ∃ α3 ρ3 μ3, Gr α H α3 H3 ∧ Sat X.K α3 H3 μ3 ∧ EnvOk X.K α3 H3 σ3 ρ3 ∧ W ρ3 μ3 ∧ m ρ3 μ3 < m ρ' μ', fun σ3 H3 hN => ?_, ?_⟩
    · obtain ⟨α3, ρ3, μ3, g3, S3, e3, w3, l3⟩ := hN
      exact ⟨_, l3, α3, ρ3, μ3, g3, S3, e3, w3, rfl⟩
    · have gg := g'.trans g2
      refine b2 α2 σ' H2 ρ' μ2 _ _ S2 (e'.mono g2) q2 ⟨?_, (post.mono gg).rt, (post.mono gg).nx, ?_⟩
      · exact fun σ4 H4 α4 ρ4 μ4 g4 S4 e4 q4 => ⟨α4, ρ4, μ4, gg.trans g4, S4, e4, q4.1, q4.2⟩
      · exact fun σ4 H4 α4 ρ4 μ4 g4 S4 e4 q4 => ⟨α4, ρ4, μ4, gg.trans g4, S4, e4, q4.1, q4.2⟩

/-! ### comprehensions -/
/-- k: the new list's cell; W: what holds ahead of the i-th turn -/
def lcIn (s : Src) (g : DTG) (tt : DTT) (de : DTE) (ρ : Rho) (Q : List D → Mu → Prop) (μ1 : Mu) [Lk s] [Lk g] [Lk tt] [Lk de] [Lk ρ] [Lk Q] [Lk μ1] : Prop := ∀ k, μ1 k = none → ∃ W : Nat → Mu → Prop, W 0 (μ1.upd k []) ∧
  (∀ i x μ', s.its[i]? = some x → W i μ' → s.held μ' ∧ g x ρ μ' fun ρ2 μ2 => tt ρ2 μ2 fun b μ3 => if b = true then de ρ2 μ3 fun y μ4 => ∃ acc, μ4 k = some acc ∧ acc.length < sizeLine ∧ W (i + 1) (μ4.upd k (acc ++ [y])) else W (i + 1) μ3) ∧
  ∀ μ', W s.its.length μ' → s.held μ' ∧ ∃ xs μ2, μ' k = some xs ∧ μ2 k = none ∧ Mu.Sub (μ2.upd k xs) μ' ∧ Q xs μ2
def dLc (di : DTI) (g : DTG) (tt : DTT) (de : DTE) (vs : List Nat) [Lk di] [Lk g] [Lk tt] [Lk de] [Lk vs] : DTL := fun ρ μ Q => di ρ μ fun s μ1 => lcIn s g tt de (wipeD ρ vs) Q μ1
/-- the target keeps the other slots -/
def WipeG (g : TG) (vs : List Nat) : Prop := ∀ v σ H Q, g v σ H Q → g v σ H fun σ2 H2 => L2.wipe σ2 vs = L2.wipe σ vs ∧ Q σ2 H2
structure PTsD (X : Cx) (ifs : List Expr) (dt : DTT) : Prop where
  ex : ∃ tt, PTs X ifs tt ∧ SndT X.K tt dt
def dYes : DTT := fun _ μ Q => Q true μ
theorem snd_yes : SndT K tYes dYes := fun α σ H ρ μ Qd Q S E h post => post _ _ _ _ (Gr.refl α H) S h
theorem snd_lc {wi : TI} {di : DTI} {g : TG} {dg : DTG} {tt : TT} {dt : DTT} {te : TE} {de : DTE} {vs : List Nat} (hi : SndI K wi di) (hg : SndG K g dg) (hw : ∀ σ, ∀ v H Q, g v (L2.wipe σ vs) H Q → g v (L2.wipe σ vs) H fun σ2 H2 => L2.wipe σ2 vs = L2.wipe σ vs ∧ Q σ2 H2) (ht : SndT K tt dt) (he : SndE K te de) :
    SndL K (tLc wi g tt te vs) (dLc di dg dt de vs) := fun α σ H ρ μ Qd Q S e h post => hi α σ H ρ μ _ _ S e h fun J H1 α1 μ1 s gr S1 hd1 I q1 => by
  intro Da hD
  obtain ⟨W, w0, ws, wd⟩ := q1 α1.length S1.fresh
  have gA : Gr α1 H1 (α1 ++ [Da]) (upd H1 Da (.lst [])) := gr_push (Ext.new hD)
  have SA : Sat K (α1 ++ [Da]) (upd H1 Da (.lst [])) (μ1.upd α1.length []) := S1.alloc hD .nil
  have eA : EnvOk K (α1 ++ [Da]) (upd H1 Da (.lst [])) (L2.wipe σ vs) (wipeD ρ vs) := ((e.mono gr).mono gA).wipe vs
  refine ⟨fun i m H' => i ≤ s.its.length ∧ m = s.its.length - i ∧ ∃ α' μ', Gr (α1 ++ [Da]) (upd H1 Da (.lst [])) α' H' ∧ Sat K α' H' μ' ∧ W i μ', ⟨_, Nat.zero_le _, rfl, _, _, Gr.refl _ _, SA, w0⟩, fun i m H' hW => ?_⟩
  obtain ⟨hi, rfl, α', μ', gr', S', w⟩ := hW
  have atD : α'[α1.length]? = some Da := gr'.pre _ _ at_push
  by_cases hlt : i < s.its.length
  · obtain ⟨hd, q⟩ := ws i s.its[i] μ' (List.getElem?_eq_getElem hlt) w
    obtain ⟨go, _, yl⟩ := I.ok α' H' μ' (gA.trans gr') S' hd
    refine .inr ⟨go i hlt, fun H2 => ∃ α2 μ2, Gr (α1 ++ [Da]) (upd H1 Da (.lst [])) α2 H2 ∧ Sat K α2 H2 μ2 ∧ W (i + 1) μ2, fun H2 hN => ⟨s.its.length - (i + 1), by omega, hlt, rfl, hN⟩, fun x H2 hy => ?_⟩
    obtain ⟨gy, Sy, ry⟩ := yl i _ x H2 (List.getElem?_eq_getElem hlt) hy
    refine hw σ x H2 _ (hg α' (L2.wipe σ vs) H2 (wipeD ρ vs) μ' x _ _ _ Sy ((eA.mono gr').mono gy) ry q fun σ3 H3 α3 ρ3 μ3 g3 S3 e3 q3 => ?_)
    refine ht α3 σ3 H3 ρ3 μ3 _ _ S3 e3 q3 fun b H4 α4 μ4 g4 S4 q4 => ?_
    have gg : Gr (α1 ++ [Da]) (upd H1 Da (.lst [])) α4 H4 := ((gr'.trans gy).trans g3).trans g4
    cases b with
    | false => exact ⟨α4, μ4, gg, S4, q4⟩
    | true =>
      refine he α4 σ3 H4 ρ3 μ4 _ _ S4 (e3.mono g4) q4 fun y H5 α5 μ5 dy g5 S5 r5 q5 => ?_
      obtain ⟨acc, ea, hz, w5⟩ := q5
      obtain ⟨b, us, h1, h2, h3⟩ := S5.cell _ _ ea
      have at5 := (gg.trans g5).pre _ _ (at_push (α := α1) (a := Da))
      rw [at5] at h1
      cases h1
      exact ⟨us, h2, by rw [h3.length]; exact hz, α5, _, (gg.trans g5).trans (gr_set h2), S5.set at5 h2 (h3.append (.cons r5 .nil)), w5⟩
  · have ei : i = s.its.length := by omega
    subst ei
    obtain ⟨hd, xs, μ2, ex, n2, sb, q⟩ := wd μ' w
    obtain ⟨_, st, _⟩ := I.ok α' H' μ' (gA.trans gr') S' hd
    exact .inl ⟨st _ (Nat.le_refl _), post Da _ H' α' μ2 xs ((gr.trans gA).trans gr') n2 atD (S'.sub sb) q⟩
end Dl
/-! Dat4: defs by what they do with plain data; the law's end; repr. -/
namespace Dl
open PySem PySem.Spec PyProof.Rows L2

/-- a def's promise over data -/
abbrev DSp := List D → Mu → DK → Prop
section
variable (P : Program) (w : World) (K : PySem.W.Frag) (mg : Str → Option Value) (base : Heap)
/-- the def at f keeps sp wherever no display is under way -/
structure FnG (k : Nat) (f : Addr) (fd : FuncData) (ps : List Str) (sp : DSp) : Prop where
  len : ∀ ds μ Q, sp ds μ Q → ds.length = ps.length
  run : ∀ (A : Around) (outer : List Env) (s : Shared) (H : Hp) (args : Args) (us : List Value) (vs : List V) (α : List Addr) (μ : Mu) (ds : List D) (Qd : DK) (Q : VK),
    Room k A → A.guards = some [] → Env0 P w K mg base A outer s H → us.length = ps.length → BindsTo s fd args (ps.zip us) → Vals vs us → Sat K α H μ → RlAll K α H vs ds → sp ds μ Qd → PostE K α H Qd Q →
    codeAny (model P w) A (.call (.ref f) args) (CR CX0 outer P w H s Q E0) s
/-- the module's name x holds the def st of the text, which keeps sp -/
structure Has (k : Nat) (x : Str) (st : Stmt) (ps : List Str) (sp : DSp) : Prop where
  ex : ∃ f fd, mg x = some (.ref f) ∧ Fun K x x st f fd ∧ FnG P w K mg base k f fd ps sp
/-- the module's name x holds the def st of the text -/
structure Txt (x : Str) (st : Stmt) : Prop where
  ex : ∃ f fd, mg x = some (.ref f) ∧ Fun K x x st f fd
abbrev bodyX (N : List Str) (qual : Str) (sc : Scope) (f : Addr) (cdv : Value) (A : Around) (outer : List Env) (s : Shared) (H : Hp) : Cx := (cxOf CX0 P w K mg base N qual sc f cdv A outer s H E0).nox
end
def startD (N : List Str) (ds : List D) : Rho := ds.map some ++ List.replicate (N.length - ds.length) none
def retD (Q : DK) : DEnds := { nx := fun _ μ => ∃ μ', Mu.Sub μ' μ ∧ Q .non μ', rt := fun d μ => ∃ μ', Mu.Sub μ' μ ∧ Q d μ' }

section
variable {P : Program} {w : World} {K : PySem.W.Frag} {mg : Str → Option Value} {base : Heap} {α : List Addr} {H : Hp}
theorem RlAll.at : ∀ {vs : List V} {ds : List D} {n : Nat}, RlAll K α H vs ds → ∀ (i : Nat) d, (ds.map some ++ List.replicate n none)[i]? = some (some d) → ∃ v, (vs.map some ++ List.replicate n none)[i]? = some (some v) ∧ Rl K α H v d
  | _, _, n, .nil, i, d, h => by
    simp only [List.map_nil, List.nil_append, List.getElem?_replicate] at h
    split at h <;> cases h
  | _, _, n, .cons a b, 0, d, h => by
    simp only [List.map_cons, List.cons_append, List.getElem?_cons_zero, Option.some.injEq] at h
    subst h
    exact ⟨_, rfl, a⟩
  | _, _, n, .cons a b, i + 1, d, h => by
    simp only [List.map_cons, List.cons_append, List.getElem?_cons_succ] at h ⊢
    exact RlAll.at b i d h
theorem env_start {N : List Str} {vs : List V} {ds : List D} (r : RlAll K α H vs ds) : EnvOk K α H (L2.start N vs) (startD N ds) := by
  unfold L2.start startD
  rw [r.length]
  refine ⟨?_, r.at⟩
  simp only [List.length_append, List.length_map, List.length_replicate, r.length]
/-- THE RULE for a def of the text -/
theorem Txt.has {x : Str} {st : Stmt} {N ps : List Str} {k : Nat} {sp : DSp} (T : Txt K mg x st) (S : FnScope N ps (defScope st)) (len : ∀ ds μ Q, sp ds μ Q → ds.length = ps.length)
    (hbody : ∀ (f : Addr) (cdv : Value) (A : Around) (outer : List Env) (s : Shared) (H : Hp), Room k (bodyX P w K mg base N x (defScope st) f cdv A outer s H).A → (bodyX P w K mg base N x (defScope st) f cdv A outer s H).A.guards = some [] →
      ∃ db, PSSD (bodyX P w K mg base N x (defScope st) f cdv A outer s H) (defBody st) db ∧ ∀ ds μ Q, sp ds μ Q → db (retD Q) (startD N ds) μ) : Has P w K mg base (k + 1) x st ps sp := by
  obtain ⟨f, fd, hm, F⟩ := T.ex
  refine ⟨f, fd, hm, F, ⟨len, ?_⟩⟩
  intro A outer s H args us vs α μ ds Qd Q hr hgd e0 hl hb rv S0 rd hsp post
  obtain ⟨oc, od, kV, doc, pm, an, cdv, ct, osl, rfl, lk, hcd⟩ := F.ex
  have kin : K.In s.heap := e0.mod.kin.keeps (fun b o z => (e0.bs b o z).1)
  have nol : s.heap.NoLimit := e0.mod.nolimit.keeps (fun b o z => (e0.bs b o z).1)
  have kinds : ∀ y ∈ ps.zip us, (defScope st).names.lookup y.1 = some .local ∨ ((defScope st).names.lookup y.1 = some .cell ∧ ((cellsFrom (s.heap.objs.size + 1) (defScope st).names []).lookup y.1).isSome = true) := by
    rintro ⟨n, u⟩ hy
    cases S.par n (List.of_mem_zip hy).1 with
    | inl q => exact Or.inl q
    | inr q => exact Or.inr ⟨q, PySem.W.cellsFrom_some _ _ _ (Or.inl q)⟩
  refine codeAny_call_function hr.depth (kin _ _ lk) rfl S.co S.gen rfl (PySem.W.codeRec_of kin hcd) (hb _ _ _ _ ?_)
  refine wpAny_newFunctionEnv_cells S.kind kinds fun env he s1 new => ?_
  subst he
  refine ⟨nol.keeps new.toInCall.keep, codeAny_func ?_⟩
  obtain ⟨db, B, hq⟩ := hbody f cdv A outer s H (hr.deeper _) hgd
  obtain ⟨t, ht, snd⟩ := B.ex
  have J : Inv (bodyX P w K mg base N x (defScope st) f cdv A outer s H) [] (L2.start N vs) H s1 := (inv_start (E := E0) (CX := CX0) S hr.hd e0 (by rw [rv.length]; exact hl) rv new).wish _
  have fin : ∀ {σ2 : L2.St} {H2 : Hp} {v : V} {u : Value} {s2 : Shared}, Inv (bodyX P w K mg base N x (defScope st) f cdv A outer s H) [] σ2 H2 s2 → RelV v u → Q v H2 → CE outer P w H s Q u s2 :=
    fun {σ2 H2 v u s2} I rv q => ⟨v, H2, I.os, I.bare, I.base, I.hok, rv, q⟩
  have q0 : t { nx := fun _ H' => Q .non H', rt := Q } (L2.start N vs) H := by
    refine snd α (L2.start N vs) H (startD N ds) μ _ _ S0 (env_start rd) (hq ds μ Qd hsp) ⟨?_, ?_, ?_, ?_⟩
    · rintro σ' H' α' ρ' μ' g S' _ ⟨μ'', sb, q⟩
      exact post _ _ _ _ _ g (S'.sub sb) .non q
    · rintro v H' α' μ' d g S' r ⟨μ'', sb, q⟩
      exact post _ _ _ _ _ g (S'.sub sb) r q
    · intro σ' H' α' ρ' μ' _ _ _ q
      exact q.elim
    · intro σ' H' α' ρ' μ' _ _ _ q
      exact q.elim
  refine wpAny_mono (ht.run [] s1 _ H _ J q0) (fun fl s2 hs => ?_) fun e s2 hs => hs.elim
  cases fl with
  | next =>
    obtain ⟨σ2, H2, I2, q⟩ := hs
    exact fin (v := V.non) (u := Value.none) I2 rfl q
  | ret u =>
    obtain ⟨v, σ2, H2, I2, rv2, q⟩ := hs
    exact fin I2 rv2 q
  | brk => exact hs.elim fun _ h => h.elim fun _ h => h.2.elim
  | cont => exact hs.elim fun _ h => h.elim fun _ h => h.2.elim
theorem Has.mono {j k : Nat} {x : Str} {st : Stmt} {ps : List Str} {sp : DSp} (h : Has P w K mg base j x st ps sp) (hk : j ≤ k) : Has P w K mg base k x st ps sp := by
  obtain ⟨f, fd, hm, F, G⟩ := h.ex
  exact ⟨f, fd, hm, F, ⟨G.len, fun A outer s H args us vs α μ ds Qd Q hr => G.run A outer s H args us vs α μ ds Qd Q (hr.mono hk)⟩⟩
end

/-! ### calls -/
section
variable {X : Cx} {k : Nat} {x : Str} {st : Stmt} {ps : List Str} {sp : DSp} {p pos : Pos}
/-- how a def binds so many arguments, and keywords: g puts them in the parameters' order -/
def BindK (st : Stmt) (x : Str) (ps ks : List Str) (n : Nat) (g : {β : Type} → List β → List β → List β) : Prop :=
  ∀ (kV doc pm : Value) (an : Option Addr) (cdv ct : Value) (us ws : List Value), us.length = n → ws.length = ks.length → (g us ws).length = ps.length ∧ bindArgs (PySem.W.fnOf x x (defArgs st) (defBody st) (defScope st) .none kV doc pm an cdv ct) ⟨us, ks.zip ws⟩ = pure (ps.zip (g us ws))
/-- the places of a list, in another sequence -/
def permG (l : List Nat) {β : Type} (_ as : List β) : List β := l.filterMap fun i => as[i]?
theorem perm_rl {K : PySem.W.Frag} {α : List Addr} {H : Hp} {vs : List V} {ds : List D} (r : RlAll K α H vs ds) : ∀ (l : List Nat), RlAll K α H (permG l [] vs) (permG l [] ds)
  | [] => .nil
  | i :: l => by
    unfold permG
    rw [List.filterMap_cons, List.filterMap_cons]
    cases e : ds[i]? with
    | some d =>
      obtain ⟨v, h1, h2⟩ := r.get e
      rw [h1]
      exact .cons h2 (perm_rl r l)
    | none =>
      have e2 : vs[i]? = none := by
        cases q : vs[i]? with
        | none => rfl
        | some v =>
          obtain ⟨d, h1, _⟩ := r.getV q
          rw [e] at h1
          cases h1
      rw [e2]
      exact perm_rl r l
theorem perm_vals {vs : List V} {us : List Value} (r : Vals vs us) : ∀ (l : List Nat), Vals (permG l [] vs) (permG l [] us)
  | [] => .nil
  | i :: l => by
    unfold permG
    rw [List.filterMap_cons, List.filterMap_cons]
    cases e : vs[i]? with
    | some v =>
      obtain ⟨u, h1, h2⟩ := r.get e
      rw [h1]
      exact .cons h2 (perm_vals r l)
    | none =>
      rw [r.none_of e]
      exact perm_vals r l
theorem run_g {X : Cx} {f : Addr} {fd : FuncData} (F : FnG X.prog X.w X.K X.mg X.base k f fd ps sp) (hr : Room k X.A) (hgd : X.A.guards = some []) {pins : List (Addr × Obj)} {σ : L2.St} {H : Hp} {s : Shared} {Q : VK} {us : List Value} {kw : List (Str × Value)} {zs : List Value} {vs : List V} {α : List Addr} {μ : Mu} {ds : List D} {Qd : DK}
    (I : Inv X pins σ H s) (hl : zs.length = ps.length) (hb : BindsTo s fd ⟨us, kw⟩ (ps.zip zs)) (r : Vals vs zs) (S : Sat X.K α H μ) (rd : RlAll X.K α H vs ds) (h : sp ds μ Qd) (post : PostE X.K α H Qd Q) :
    wpAny (model X.prog X.w) X.A (call (.ref f) us kw) (EP X pins σ Q) X.xe s := by
  refine wpAny_call (codeAny_mono (F.run X.A X.stack s H _ zs vs α μ ds Qd Q hr hgd I.env0 hl hb r S rd h post) fun res s' hq => ?_)
  cases res with
  | error e => exact False.elim hq
  | ok fl =>
    cases fl with
    | ret u => exact I.after hq
    | _ => exact False.elim hq
def dFn (sp : DSp) (da : DTA) : DTE := fun ρ μ Q => da ρ μ fun ds μ1 => sp ds μ1 Q
/-- f(e, ..): the arguments' number is told by their shape -/
theorem de_fn {e : Expr} {es : List Expr} {da : DTA} (h : Has X.prog X.w X.K X.mg X.base k x st ps sp) (hr : Room k X.A) (hgd : X.A.guards = some []) (ha : PAD X (e :: es) da)
    (hb : BindK st x ps [] ps.length (fun as _ => as)) (hn : es.length + 1 = ps.length := by rfl) (hg : Gl X x := by rfl) (hdb : (x == ("__debug__" : Str)) = false := by decide)
    (he : starEach (e :: es) X.env = (false, eval e X.env) :: starEach es X.env := by rfl) (hpl : (backTo pos (starEach es X.env)).any (·.1) = false := by rfl) :
    PED X (.Call (.Name x p) (e :: es) [] pos) (dFn sp da) := by
  obtain ⟨f, fd, hm, F, G⟩ := h.ex
  obtain ⟨ta, a1, a2⟩ := ha.ex
  refine ⟨fun σ H Q => ta σ H fun vs H1 => ∃ α μ ds Qd, Sat X.K α H1 μ ∧ RlAll X.K α H1 vs ds ∧ sp ds μ Qd ∧ PostE X.K α H1 Qd Q, ⟨fun pins s σ H Q I h => ?_⟩, fun α σ H ρ μ Qd Q S E h post => ?_⟩
  · refine wpAny_Call_Name_kw (ld_glob I hg hm ?_ hdb)
    refine PySem.W.callWith_K (h₀ := X.base) I.ok.mod.kin F.kp (thn (a1.run pos pins s σ H _ I h) fun us s1 ⟨vs, H1, I1, r, α, μ, ds, Qd, S1, rd, hs, post⟩ => ⟨I1.kIn, ?_⟩) he hpl
    obtain ⟨oc, od, kV, doc, pm, an, cdv, ct, osl, rfl, lk, hcd⟩ := F.ex
    have hl : us.length = ps.length := by rw [← r.length, rd.length]; exact G.len _ _ _ hs
    exact run_g G hr hgd I1 hl (.of_eq (hb kV doc pm an cdv ct us [] hl rfl).2) r S1 rd hs post
  · exact a2 α σ H ρ μ _ _ S E h fun vs H1 α1 μ1 ds g1 S1 r1 q1 => ⟨α1, μ1, ds, Qd, S1, r1, q1, post.mono g1⟩
/-- keywords' values, from the left -/
def taLen (n : Nat) (K : PySem.W.Frag) (da : DTA) : TA := fun σ H Q => ∃ α ρ μ Qd, Sat K α H μ ∧ EnvOk K α H σ ρ ∧ da ρ μ Qd ∧
  ∀ vs H' α' μ' ds, Gr α H α' H' → Sat K α' H' μ' → RlAll K α' H' vs ds → vs.length = n → Qd ds μ' → Q vs H'
structure PKD (X : Cx) (n : Nat) (kws : List Keyword) (da : DTA) : Prop where
  ex : PK X kws (taLen n X.K da)
theorem dk_nil : PKD X 0 [] daNil := ⟨⟨fun pos pins s σ H Q I h => by
  obtain ⟨α, ρ, μ, Qd, S, E, h, post⟩ := h
  exact pk_nil.run pos pins s σ H Q I (post [] H α μ [] (Gr.refl α H) S .nil rfl h)⟩⟩
theorem dk_cons {n : Nat} {e : Expr} {kws : List Keyword} {nm : Option Str} {kpos : Pos} {de : DTE} {dr : DTA} (he : PED X e de) (hr : PKD X n kws dr) : PKD X (n + 1) (⟨nm, e, kpos⟩ :: kws) (daCons de dr) := ⟨⟨fun pos pins s σ H Q I h => by
  obtain ⟨te, a1, a2⟩ := he.ex
  obtain ⟨α, ρ, μ, Qd, S, E, h, post⟩ := h
  refine (pk_cons (nm := nm) (kpos := kpos) a1 hr.ex).run pos pins s σ H Q I (a2 α σ H ρ μ _ _ S E h fun v H1 α1 μ1 d g1 S1 r1 q1 => ?_)
  exact ⟨α1, ρ, μ1, _, S1, E.mono g1, q1, fun vs H2 α2 μ2 ds g2 S2 r2 l2 q2 => post _ _ _ _ _ (g1.trans g2) S2 (.cons (r1.mono g2) r2) (by rw [List.length_cons, l2]) q2⟩⟩⟩
def dFnK (sp : DSp) (l : List Nat) (da : DTA) : DTE := fun ρ μ Q => da ρ μ fun ds μ1 => sp (permG l [] ds) μ1 Q
/-- f(k = e, ..): keywords alone; l: which keyword each parameter takes -/
theorem de_fnK (l : List Nat) {n : Nat} {kws : List Keyword} {ks : List Str} {da : DTA} (h : Has X.prog X.w X.K X.mg X.base k x st ps sp) (hr : Room k X.A) (hgd : X.A.guards = some []) (ha : PKD X n kws da)
    (hb : BindK st x ps ks 0 (permG l)) (hn : ks.length = n := by rfl) (hg : Gl X x := by rfl) (hdb : (x == ("__debug__" : Str)) = false := by decide)
    (hall : (backToKw pos (keywordEach kws X.env)).all (·.1.isSome) = true := by rfl) (hks : (backToKw pos (keywordEach kws X.env)).filterMap (·.1) = ks := by rfl)
    (hpl : ((backTo pos (starEach [] X.env)).any (·.1) || (backToKw pos (keywordEach kws X.env)).any (·.1.isNone)) = false := by rfl) : PED X (.Call (.Name x p) [] kws pos) (dFnK sp l da) := by
  obtain ⟨f, fd, hm, F, G⟩ := h.ex
  refine ⟨fun σ H Q => taLen n X.K da σ H fun vs H1 => vs.length = n ∧ ∃ α μ ds Qd, Sat X.K α H1 μ ∧ RlAll X.K α H1 (permG l [] vs) ds ∧ sp ds μ Qd ∧ PostE X.K α H1 Qd Q, ⟨fun pins s σ H Q I h => ?_⟩, fun α σ H ρ μ Qd Q S E h post => ?_⟩
  · refine wpAny_Call_Name_kw (ld_glob I hg hm ?_ hdb)
    refine PySem.W.callWith_KW0 (h₀ := X.base) I.ok.mod.kin F.kp hall (thn (ha.ex.run pos pins s σ H _ I h) fun us s1 ⟨vs, H1, I1, r, hl, α, μ, ds, Qd, S1, rd, hs, post⟩ => ⟨I1.kIn, ?_⟩) hpl
    obtain ⟨oc, od, kV, doc, pm, an, cdv, ct, osl, rfl, lk, hcd⟩ := F.ex
    rw [hks]
    obtain ⟨h1, h2⟩ := hb kV doc pm an cdv ct [] us rfl (by rw [← r.length, hn]; exact hl)
    exact run_g G hr hgd I1 h1 (.of_eq h2) (perm_vals r l) S1 rd hs post
  · exact ⟨α, ρ, μ, _, S, E, h, fun vs H1 α1 μ1 ds g1 S1 r1 l1 q1 => ⟨l1, α1, μ1, _, Qd, S1, perm_rl r1 l, q1, post.mono g1⟩⟩
end

/-! ### repr -/
section
variable {X : Cx} {K : PySem.W.Frag} {α : List Addr} {H : Hp}
def cRepr : List D → Mu → DK → Prop := fun ds μ Q => match ds with
  | [x] => ∃ p, Rs μ x p ∧ isDisplay p = true ∧ p.showable = true ∧ p.hasDict = false ∧ p.depth ≤ 60 ∧ p.shown.length ≤ sizeLine ∧ Q (.str p.shown) μ
  | _ => False
theorem c_repr (hgd : X.A.guards = some []) (hu : X.A.units + 64 < cLine) : CallD X (.builtin "repr") cRepr := by
  refine ⟨fun xs H Q => ∃ v d, xs = [v] ∧ Dp X.K H v d ∧ isDisplay d = true ∧ d.showable = true ∧ d.hasDict = false ∧ d.depth ≤ 60 ∧ d.shown.length ≤ sizeLine ∧ Q (.str d.shown) H, ?_, ?_⟩
  · intro pins s σ H xs us Q I r h
    obtain ⟨v, d, rfl, hd, h1, h2, h3, h4, h5, q⟩ := h
    obtain ⟨u, rfl, rv⟩ := vals1 r
    obtain ⟨as, rd⟩ := hd.reads I d v u rv
    obtain ⟨a, rfl⟩ := isRef_of_reads rd h1
    refine repr_of_reads' rd h2 (PyData.noDict_hsm h3) hgd (by omega) (fun _ _ e => e) (fun h' t tk hk => ?_) h5
    exact ⟨.str d.shown, H, I.kept (t' := tk) hk, ⟨t, rfl⟩, q⟩
  · intro α H μ xs dxs Qd Q S r h post
    unfold cRepr at h
    split at h
    · rename_i x
      obtain ⟨p, h0, h1, h2, h3, h4, h5, q⟩ := h
      obtain ⟨v, rfl, rx⟩ := rl1 r
      exact ⟨v, p, rfl, rx.dp S h0, h1, h2, h3, h4, h5, post.here S (.str _) q⟩
    · exact h.elim

/-! ### methods of lists -/
def mApp (do_ de : DTE) : DTE := fun ρ μ Q => do_ ρ μ fun o μ1 => match o with
  | .cell k => (μ1 k).isSome = true ∧ de ρ μ1 fun y μ2 => ∃ xs, μ2 k = some xs ∧ xs.length < sizeLine ∧ Q .non (μ2.upd k (xs ++ [y]))
  | _ => False
theorem de_append {o e : Expr} {apos cpos : Pos} {d1 d2 : DTE} (ho : PED X o d1) (he : PED X e d2)
    (mk : ∀ {to te : TE}, PE X o to → PE X e te → PE X (.Call (.Attribute o "append" apos) [e] [] cpos) (tBM X.K "list" rAppend to (tCons te tNil)) := by
      intro _ _ a b; exact pe_bm PySem.F.plainAttrs_list PySem.F.slot_list_append PySem.F.type_list_append mt_append a (pa_cons b pa_nil)) : PED X (.Call (.Attribute o "append" apos) [e] [] cpos) (mApp d1 d2) := by
  obtain ⟨t1, a1, a2⟩ := ho.ex
  obtain ⟨t2, b1, b2⟩ := he.ex
  refine ⟨_, mk a1 b1, fun α σ H ρ μ Qd Q S E h post => a2 α σ H ρ μ _ _ S E h fun v H1 α1 μ1 d g1 S1 r1 q1 => ?_⟩
  cases r1 with
  | @cell a k q =>
    obtain ⟨q1, q2⟩ := q1
    cases ex : μ1 k with
    | none =>
      rw [ex] at q1
      cases q1
    | some xs =>
      obtain ⟨b, vs, h1, h2, h3⟩ := S1.cell _ _ ex
      rw [q] at h1
      cases h1
      refine ⟨.inl ⟨rfl, vs, .of h2⟩, b2 α1 σ H1 ρ μ1 _ _ S1 (E.mono g1) q2 fun y H2 α2 μ2 dy g2 S2 r2 q2 => ?_⟩
      obtain ⟨ys, ey, hz, q2⟩ := q2
      obtain ⟨c, ws, k1, k2, k3⟩ := S2.cell _ _ ey
      have at2 := g2.pre _ _ q
      rw [at2] at k1
      cases k1
      exact ⟨_, ws, y, rfl, rfl, k2, by rw [k3.length]; exact hz, post _ _ _ _ _ ((g1.trans g2).trans (gr_set k2)) (S2.set at2 k2 (k3.append (.cons r2 .nil))) .non q2⟩
  | _ => exact False.elim q1
/-- xs.extend([..]), a fresh list -/
def mExtL (do_ : DTE) (dl : DTL) : DTE := fun ρ μ Q => do_ ρ μ fun o μ1 => match o with
  | .cell k => (μ1 k).isSome = true ∧ dl ρ μ1 fun ys μ2 => ∃ xs, μ2 k = some xs ∧ xs.length + ys.length ≤ sizeLine ∧ Q .non (μ2.upd k (xs ++ ys))
  | _ => False
theorem de_extendL {o e : Expr} {apos cpos : Pos} {d1 : DTE} {d2 : DTL} (ho : PED X o d1) (he : PLD X e d2)
    (mk : ∀ {to te : TE}, PE X o to → PE X e te → PE X (.Call (.Attribute o "extend" apos) [e] [] cpos) (tBM X.K "list" rExtend to (tCons te tNil)) := by
      intro _ _ a b; exact pe_bm PySem.F.plainAttrs_list PySem.F.slot_list_extend PySem.F.type_list_extend mt_extend a (pa_cons b pa_nil)) : PED X (.Call (.Attribute o "extend" apos) [e] [] cpos) (mExtL d1 d2) := by
  obtain ⟨t1, a1, a2⟩ := ho.ex
  obtain ⟨t2, b1, b2⟩ := he.ex
  refine ⟨_, mk a1 b1, fun α σ H ρ μ Qd Q S E h post => a2 α σ H ρ μ _ _ S E h fun v H1 α1 μ1 d g1 S1 r1 q1 => ?_⟩
  cases r1 with
  | @cell a k q =>
    obtain ⟨q1, q2⟩ := q1
    cases ex : μ1 k with
    | none =>
      rw [ex] at q1
      cases q1
    | some xs =>
      obtain ⟨b, vs, h1, h2, h3⟩ := S1.cell _ _ ex
      rw [q] at h1
      cases h1
      refine ⟨.inl ⟨rfl, vs, .of h2⟩, b2 α1 σ H1 ρ μ1 _ _ S1 (E.mono g1) q2 fun p j H2 α2 μ2 ys g2 n2 l2 S2 q2 => ?_⟩
      obtain ⟨S3, us, hp, r3⟩ := fresh_of n2 l2 S2
      obtain ⟨zs, ey, hz, q2⟩ := q2
      obtain ⟨c, ws, k1, k2, k3⟩ := S3.cell _ _ ey
      have at2 := g2.pre _ _ q
      rw [at2] at k1
      cases k1
      exact ⟨_, p, ws, us, rfl, rfl, k2, hp, by rw [k3.length, r3.length]; exact hz, post _ _ _ _ _ ((g1.trans g2).trans (gr_set k2)) (S3.set at2 k2 (k3.append r3)) .non q2⟩
  | _ => exact False.elim q1

/-! ### comprehensions, given to a name or not -/
variable {own : List (Str × Nat)} {elt tg iter : Expr} {ifs : List Expr} {scope : Scope} {pos spos : Pos} {di : DTI} {dg : DTG} {dt : DTT} {de : DTE}
theorem dts_nil {X : Cx} : PTsD X [] dYes := ⟨_, pts_nil, snd_yes⟩
theorem dts_one {X : Cx} {c : Expr} {d : DTT} (h : PTD X c d) : PTsD X [c] d := by
  obtain ⟨t, a, b⟩ := h.ex
  exact ⟨t, pts_one a, b⟩
/-- the reading that a reading over data gives, told outright -/
def teOf (K : PySem.W.Frag) (de : DTE) : TE := fun σ H Q => ∃ α ρ μ Qd, Sat K α H μ ∧ EnvOk K α H σ ρ ∧ de ρ μ Qd ∧ PostE K α H Qd Q
def ttOf (K : PySem.W.Frag) (dt : DTT) : TT := fun σ H Q => ∃ α ρ μ Qd, Sat K α H μ ∧ EnvOk K α H σ ρ ∧ dt ρ μ Qd ∧ PostT K α H Qd Q
theorem snd_teOf : SndE K (teOf K de) de := fun α σ H ρ μ Qd Q S E h post => ⟨α, ρ, μ, Qd, S, E, h, post⟩
theorem snd_ttOf : SndT K (ttOf K dt) dt := fun α σ H ρ μ Qd Q S E h post => ⟨α, ρ, μ, Qd, S, E, h, post⟩
theorem PED.pe {X : Cx} {e : Expr} (h : PED X e de) : PE X e (teOf X.K de) := by
  obtain ⟨te, a, b⟩ := h.ex
  exact ⟨fun pins s σ H Q I ⟨α, ρ, μ, Qd, S, E, h, post⟩ => a.run pins s σ H Q I (b α σ H ρ μ Qd Q S E h post)⟩
theorem PTsD.pts {X : Cx} {es : List Expr} (h : PTsD X es dt) : PTs X es (ttOf X.K dt) := by
  obtain ⟨te, a, b⟩ := h.ex
  exact ⟨fun pins s σ H Q I ⟨α, ρ, μ, Qd, S, E, h, post⟩ => a.run pins s σ H Q I (b α σ H ρ μ Qd Q S E h post)⟩
theorem wipe_set_in {i : Nat} {y : Option V} : ∀ {vs : List Nat} {σ : L2.St}, i ∈ vs → L2.wipe (σ.set i y) vs = L2.wipe σ vs
  | v :: vs, σ, h => by
    show (L2.wipe (σ.set i y) vs).set v none = (L2.wipe σ vs).set v none
    by_cases hv : i ∈ vs
    · rw [wipe_set_in hv]
    · have e : i = v := by
        cases h with
        | head => rfl
        | tail _ h => exact absurd h hv
      subst e
      have go : ∀ (us : List Nat), i ∉ us → L2.wipe (σ.set i y) us = (L2.wipe σ us).set i y := by
        intro us
        induction us with
        | nil => intro _; rfl
        | cons u us ih =>
          intro hu
          have h1 : u ≠ i := fun z => hu (z ▸ List.mem_cons_self ..)
          show (L2.wipe (σ.set i y) us).set u none = ((L2.wipe σ us).set u none).set i y
          rw [ih (fun z => hu (List.mem_cons_of_mem _ z)), List.set_comm _ _ h1.symm]
      rw [go vs hv, List.set_set]
theorem wipe_idem : ∀ {vs us : List Nat} {σ : L2.St}, (∀ v ∈ us, v ∈ vs) → L2.wipe (L2.wipe σ us) vs = L2.wipe σ vs
  | vs, [], σ, _ => rfl
  | vs, u :: us, σ, h => by
    show L2.wipe ((L2.wipe σ us).set u none) vs = _
    rw [wipe_set_in (h u (List.mem_cons_self ..)), wipe_idem fun v hv => h v (List.mem_cons_of_mem _ hv)]
/-- a target of a comprehension: one name, two names, three -/
structure OwnG (X : Cx) (scope : Scope) (own : List (Str × Nat)) (tg : Expr) (dg : DTG) : Prop where
  ex : ∃ g : TG, SndG X.K g dg ∧ (∀ σ v H Q, g v (L2.wipe σ (own.map (·.2))) H Q → g v (L2.wipe σ (own.map (·.2))) H fun σ2 H2 => L2.wipe σ2 (own.map (·.2)) = L2.wipe σ (own.map (·.2)) ∧ Q σ2 H2) ∧
    ∀ (s : Shared) (H : Hp) (C : Addr) (cl : List (Str × Addr)) (fp : List Addr), PG (X.blk s H scope (compEnvC scope cl C X.env) fp) tg g
theorem own_name {X : Cx} (i : Nat) {y : Str} {p : Pos} (hg : ∀ (s : Shared) (H : Hp) (C : Addr) (cl : List (Str × Addr)) (fp : List Addr), PG (X.blk s H scope (compEnvC scope cl C X.env) fp) (.Name y p) (gName i)) (hi : i ∈ own.map (·.2) := by decide) : OwnG X scope own (.Name y p) (gdName i) :=
  ⟨gName i, fun α σ H ρ μ v d Qd Q S e r h post => post _ _ _ _ _ (Gr.refl α H) S (e.set r) h, fun σ v H Q h => ⟨by rw [wipe_set_in hi, wipe_idem fun _ z => z], h⟩, hg⟩
theorem snd_gname {K : PySem.W.Frag} (i : Nat) : SndG K (gName i) (gdName i) := fun α σ H ρ μ v d Qd Q S e r h post => post _ _ _ _ _ (Gr.refl α H) S (e.set r) h
theorem own_pair {X : Cx} (i j : Nat) {tg : Expr} (hg : ∀ (s : Shared) (H : Hp) (C : Addr) (cl : List (Str × Addr)) (fp : List Addr), PG (X.blk s H scope (compEnvC scope cl C X.env) fp) tg (gTup X.K 2 (gCons (gName i) (gCons (gName j) gNil))))
    (hi : i ∈ own.map (·.2) := by decide) (hj : j ∈ own.map (·.2) := by decide) : OwnG X scope own tg (gdTup 2 (gdCons (gdName i) (gdCons (gdName j) gdNil))) := by
  refine ⟨_, fun α σ H ρ μ v d Qd Q S e r h post => ?_, fun σ v H Q h => ?_, hg⟩
  · unfold gdTup at h
    split at h
    · rename_i ds
      obtain ⟨hl, h⟩ := h
      cases r with
      | tup q r =>
        refine ⟨_, _, rfl, q, by rw [r.length]; exact hl, ?_⟩
        cases r with
        | nil => cases hl
        | cons r1 r =>
          cases r with
          | nil => cases hl
          | cons r2 r =>
            cases r with
            | cons _ _ => cases hl
            | nil => exact ⟨_, _, rfl, _, _, rfl, rfl, post _ _ _ _ _ (Gr.refl α H) S ((e.set r1).set r2) h⟩
    · exact h.elim
  · obtain ⟨a, xs, rfl, q, hl, v1, r1, rfl, v2, r2, rfl, rfl, h⟩ := h
    refine ⟨a, _, rfl, q, hl, v1, _, rfl, v2, _, rfl, rfl, ?_, h⟩
    rw [wipe_set_in hj, wipe_set_in hi, wipe_idem fun _ z => z]
theorem own_triple {X : Cx} (i j l : Nat) {tg : Expr} (hg : ∀ (s : Shared) (H : Hp) (C : Addr) (cl : List (Str × Addr)) (fp : List Addr), PG (X.blk s H scope (compEnvC scope cl C X.env) fp) tg (gTup X.K 3 (gCons (gName i) (gCons (gName j) (gCons (gName l) gNil)))))
    (hi : i ∈ own.map (·.2) := by decide) (hj : j ∈ own.map (·.2) := by decide) (hk : l ∈ own.map (·.2) := by decide) : OwnG X scope own tg (gdTup 3 (gdCons (gdName i) (gdCons (gdName j) (gdCons (gdName l) gdNil)))) := by
  refine ⟨_, fun α σ H ρ μ v d Qd Q S e r h post => ?_, fun σ v H Q h => ?_, hg⟩
  · unfold gdTup at h
    split at h
    · rename_i ds
      obtain ⟨hl, h⟩ := h
      cases r with
      | tup q r =>
        refine ⟨_, _, rfl, q, by rw [r.length]; exact hl, ?_⟩
        cases r with
        | nil => cases hl
        | cons r1 r =>
          cases r with
          | nil => cases hl
          | cons r2 r =>
            cases r with
            | nil => cases hl
            | cons r3 r =>
              cases r with
              | cons _ _ => cases hl
              | nil => exact ⟨_, _, rfl, _, _, rfl, _, _, rfl, rfl, post _ _ _ _ _ (Gr.refl α H) S (((e.set r1).set r2).set r3) h⟩
    · exact h.elim
  · obtain ⟨a, xs, rfl, q, hl, v1, r1, rfl, v2, r2, rfl, v3, r3, rfl, rfl, h⟩ := h
    refine ⟨a, _, rfl, q, hl, v1, _, rfl, v2, _, rfl, v3, _, rfl, rfl, ?_, h⟩
    rw [wipe_set_in hk, wipe_set_in hj, wipe_set_in hi, wipe_idem fun _ z => z]
theorem dl_lc {X : Cx} (own : List (Str × Nat)) (hN : X.N.Nodup) (hi : PID X tg iter di) (ho : OwnG X scope own tg dg) (ht : ∀ (s : Shared) (H : Hp) (C : Addr) (cl : List (Str × Addr)) (fp : List Addr), PTsD (X.blk s H scope (compEnvC scope cl C X.env) fp) ifs dt)
    (he : ∀ (s : Shared) (H : Hp) (C : Addr) (cl : List (Str × Addr)) (fp : List Addr), PED (X.blk s H scope (compEnvC scope cl C X.env) fp) elt de) (ok : blkC X.N X.env.scope scope own = true := by first | kernel_rfl | rfl) (hc : X.calm = true := by rfl)
    (hs : ∀ x, foldedSetIterable iter X.env x = pure x := by intro _; rfl) : PLD X (.ListComp elt [⟨tg, iter, ifs, 0⟩] scope pos) (dLc di dg dt de (own.map (·.2))) := by
  obtain ⟨wi, i1, i2⟩ := hi.ex
  obtain ⟨g, g1, g2, g3⟩ := ho.ex
  exact ⟨_, pe_lc (tt := ttOf X.K dt) (te := teOf X.K de) hc hN i1 (blkOk_by ok) g3 (fun s H C cl fp => (ht s H C cl fp).pts) (fun s H C cl fp => (he s H C cl fp).pe) hs, snd_lc i2 g1 g2 snd_ttOf snd_teOf⟩
theorem ds_setLc {X : Cx} (i : Nat) (own : List (Str × Nat)) {y : Str} {py : Pos} (hN : X.N.Nodup) (hi : PID X tg iter di) (ho : OwnG X scope own tg dg) (ht : ∀ (s : Shared) (H : Hp) (C : Addr) (cl : List (Str × Addr)) (fp : List Addr), PTsD (X.blk s H scope (compEnvC scope cl C X.env) fp) ifs dt)
    (he : ∀ (s : Shared) (H : Hp) (C : Addr) (cl : List (Str × Addr)) (fp : List Addr), PED (X.blk s H scope (compEnvC scope cl C X.env) fp) elt de) (ok : blkC X.N X.env.scope scope own = true := by first | kernel_rfl | rfl) (hc : X.calm = true := by rfl)
    (hy : X.N[i]? = some y := by rfl) (hyl : X.env.scope.names.lookup y = some .local := by rfl) (hsw : swapsWith (.ListComp elt [⟨tg, iter, ifs, 0⟩] scope pos) (some (.Name y py)) spos.line X.env = pure true := by exact sw_true rfl rfl rfl (by decide +kernel))
    (hs : ∀ x, foldedSetIterable iter X.env x = pure x := by intro _; rfl) : PSD X (.Assign [.Name y py] (.ListComp elt [⟨tg, iter, ifs, 0⟩] scope pos) spos) (dAsg (dNew (dLc di dg dt de (own.map (·.2)))) (gdName i)) := by
  obtain ⟨wi, i1, i2⟩ := hi.ex
  obtain ⟨g, g1, g2, g3⟩ := ho.ex
  refine ⟨_, ps_setLc (tt := ttOf X.K dt) (te := teOf X.K de) hc hN hy hyl hsw i1 (blkOk_by ok) g3 (fun s H C cl fp => (ht s H C cl fp).pts) (fun s H C cl fp => (he s H C cl fp).pe) hs, snd_asg ?_ (snd_gname i)⟩
  exact fun α σ H ρ μ Qd Q S E q post => snd_lc i2 g1 g2 snd_ttOf snd_teOf α σ H ρ μ _ Q S E q fun p k H' α' μ' xs g n a S' q' => post _ _ _ _ (.cell k) g S' (.cell a) (q' k n)
end
end Dl
/-! Dat5: operators and walks whatever the kind. -/
namespace Dl
open PySem PySem.Spec PyProof.Rows L2
variable {K : PySem.W.Frag} {α α1 : List Addr} {H H1 : Hp} {X : Cx}

/-- + of ints, texts, tuples, lists (a new list: a new cell) -/
def oPlus : D → D → Mu → DK → Prop := fun x y μ Q => match x, y with
  | .int i, .int j => Q (.int (i + j)) μ
  | .str i, .str j => i.length + j.length ≤ sizeLine ∧ Q (.str (i ++ j)) μ
  | .tup xs, .tup ys => xs.length + ys.length ≤ sizeLine ∧ Q (.tup (xs ++ ys)) μ
  | .cell j, .cell k => (match μ j, μ k with | some xs, some ys => xs.length + ys.length ≤ sizeLine ∧ ∀ n, μ n = none → Q (.cell n) (μ.upd n (xs ++ ys)) | _, _ => False)
  | _, _ => False
/-- .. and of lists where the answer is to be a fresh list -/
theorem PostL.of {Qd : DK} {Q : VK} (p : PostE K α H Qd Q) : PostL K α H (fun xs μ => ∀ n, μ n = none → Qd (.cell n) (μ.upd n xs)) Q :=
  fun a k H' α' μ' xs g n l S q => p _ _ _ _ (.cell k) g S (.cell l) (q k n)
theorem o_plus : OpD X (binaryOp .Add) oPlus := by
  obtain ⟨r1, a1, a2⟩ := (o_add (X := X)).ex
  obtain ⟨r3, c1, c2⟩ := (o_catT (X := X)).ex
  obtain ⟨r4, d1, d2⟩ := (o_catL (X := X)).ex
  refine ⟨_, OpR.or (OpR.or a1 op_add_str) (OpR.or c1 d1), fun α H μ x y dx dy Qd Q S rx ry h post => ?_⟩
  unfold oPlus at h
  split at h
  · exact .inl (.inl (a2 α H μ x y _ _ Qd Q S rx ry h post))
  · cases rx; cases ry
    exact .inl (.inr ⟨_, _, rfl, rfl, h.1, post.here S (.str _) h.2⟩)
  · exact .inr (.inl (c2 α H μ x y _ _ Qd Q S rx ry h post))
  · rename_i j k
    refine .inr (.inr (d2 α H μ x y (.cell j) (.cell k) (fun xs μ => ∀ n, μ n = none → Qd (.cell n) (μ.upd n xs)) Q S rx ry ?_ (PostL.of post)))
    show (match μ j, μ k with | some xs, some ys => _ | _, _ => False)
    split at h
    · exact h
    · exact h.elim
  · exact h.elim
/-- * of ints, of a list and an int -/
def oTimes : D → D → Mu → DK → Prop := fun x y μ Q => match x, y with
  | .int i, .int j => MulOk i j ∧ Q (.int (i * j)) μ
  | .cell j, .int n => (match μ j with | some xs => (-(2 ^ 63) ≤ n ∧ n < 2 ^ 63 ∧ xs.length * n.toNat ≤ sizeLine) ∧ ∀ m, μ m = none → Q (.cell m) (μ.upd m (List.replicate n.toNat xs).flatten) | _ => False)
  | _, _ => False
theorem o_times : OpD X (binaryOp .Mult) oTimes := by
  obtain ⟨r1, a1, a2⟩ := (o_mul (X := X)).ex
  obtain ⟨r4, d1, d2⟩ := (o_rep (X := X)).ex
  refine ⟨_, OpR.or a1 d1, fun α H μ x y dx dy Qd Q S rx ry h post => ?_⟩
  unfold oTimes at h
  split at h
  · exact .inl (a2 α H μ x y _ _ Qd Q S rx ry h post)
  · rename_i j n
    refine .inr (d2 α H μ x y (.cell j) (.int n) (fun xs μ => ∀ n, μ n = none → Qd (.cell n) (μ.upd n xs)) Q S rx ry ?_ (PostL.of post))
    show (match μ j with | some xs => _ | _ => False)
    split at h
    · exact h
    · exact h.elim
  · exact h.elim
/-- xs[lo:hi], xs a tuple or a list (a new cell) -/
def dSl (de : DTE) (d1 d2 : DTO) : DTE := fun ρ μ Q => de ρ μ fun x μ1 => d1 ρ μ1 fun lo μ2 => d2 ρ μ2 fun hi μ3 => match x with
  | .tup xs => Q (.tup (cutD xs lo hi)) μ3
  | x => (match litems μ3 x with | some xs => ∀ n, μ3 n = none → Q (.cell n) (μ3.upd n (cutD xs lo hi)) | none => False)
theorem de_slice {e : Expr} {lo hi : Option Expr} {p2 pos : Pos} {de : DTE} {d1 d2 : DTO} (he : PED X e de) (h1 : POD X lo d1) (h2 : POD X hi d2) : PED X (.Subscript e (.Slice lo hi none p2) pos) (dSl de d1 d2) := by
  obtain ⟨te, a1, a2⟩ := he.ex
  obtain ⟨t1, b1, b2⟩ := h1.ex
  obtain ⟨t2, c1, c2⟩ := h2.ex
  refine ⟨_, pe_slice (SlR.or sl_tupA sl_list) a1 b1 c1, fun α σ H ρ μ Qd Q S E h post => a2 α σ H ρ μ _ _ S E h fun v H1 α1 μ1 d g1 s1 r1 q1 =>
    b2 α1 σ H1 ρ μ1 _ _ s1 (E.mono g1) q1 fun o1 H2 α2 μ2 g2 s2 q2 => c2 α2 σ H2 ρ μ2 _ _ s2 ((E.mono g1).mono g2) q2 fun o2 H3 α3 μ3 g3 s3 q3 => ?_⟩
  have post3 := post.mono ((g1.trans g2).trans g3)
  have r3 := (r1.mono g2).mono g3
  have lists : ∀ {xs : List D}, litems μ3 d = some xs → (∀ n, μ3 n = none → Qd (.cell n) (μ3.upd n (cutD xs o1 o2))) → rSlL X.K v o1 o2 H3 Q := by
    intro xs ex q
    obtain ⟨a, vs, rfl, hq, r⟩ := s3.list r3 ex
    exact ⟨a, vs, rfl, hq, fun p hp => (PostL.of post3).here s3 (r.cut o1 o2) q hp⟩
  cases r3 with
  | @tup a vs ds q r =>
    refine .inl ⟨a, vs, rfl, q, fun w => ?_, fun _ p hp => post3.tup s3 (r.cut o1 o2) q3 hp⟩
    have e : cutD ds o1 o2 = ds := cut_all ds _ _ (by rw [← r.length]; exact w.1) (by rw [← r.length]; exact w.2)
    dsimp only at q3
    rw [e] at q3
    exact post3.here s3 (.tup q r) q3
  | frz q r =>
    dsimp only [litems] at q3
    exact .inr (lists rfl q3)
  | @cell a k q =>
    dsimp only [litems] at q3
    split at q3
    · rename_i xs ex
      exact .inr (lists ex q3)
    · exact False.elim q3
  | _ => exact False.elim q3
/-- walked: a list or a tuple -/
def diSeq (de : DTE) : DTI := fun ρ μ Q => de ρ μ fun x μ1 => match x with
  | .tup ds => Q ⟨ds, []⟩ μ1
  | x => (match lsrc μ1 x with | some s => Q s μ1 | none => False)
def iSeq (K : PySem.W.Frag) (tl : TE) : TI := fun σ H R => tl σ H fun x H1 => ∃ a, x = .ref a ∧ (((∃ xs, SqL K H1 a xs) ∧ R (Itl K a) H1) ∨ ((∃ xs, SqT K H1 a xs) ∧ R (Itt K a) H1))
theorem pi_seq {tg l : Expr} {tl : TE} (hl : PE X l tl) : PI X tg l (iSeq X.K tl) := by
  refine ⟨fun pins s σ H R I h => thn (hl.run pins s σ H _ I h) fun v s1 w => ?_⟩
  obtain ⟨x, H1, I1, r1, a, e, q⟩ := w
  subst e
  obtain rfl : v = Value.ref a := r1
  have own : ∀ b ∈ [s1.heap.objs.size], FpOk X pins H1 b := by
    intro b hb
    obtain rfl : b = s1.heap.objs.size := List.mem_singleton.mp hb
    exact I1.fpOk (Nat.le_refl _) (I1.hok.fresh (Nat.le_refl _))
  rcases q with ⟨⟨xs, hq⟩, q⟩ | ⟨⟨xs, hq⟩, q⟩
  · obtain ⟨its, _, pl, _⟩ := I1.list hq
    exact wpAny_pyIter_list pl.isList ⟨_, [s1.heap.objs.size], _, _, H1, rfl, I1.kept (t' := s1.toks) (fun b o z => Heap.get?_push_of_some _ z), turn_list a _, ⟨_, Heap.get?_push_size _ rfl, rfl, rfl⟩, own, q⟩
  · obtain ⟨its, _, pl, _⟩ := I1.tuple hq
    exact wpAny_pyIter_tuple (show s1.heap.IsTuple a its.toArray from pl) ⟨_, [s1.heap.objs.size], _, _, H1, rfl, I1.kept (t' := s1.toks) (fun b o z => Heap.get?_push_of_some _ z), turn_tuple a _, ⟨_, Heap.get?_push_size _ rfl, rfl, rfl⟩, own, q⟩
theorem di_seq {tg l : Expr} {de : DTE} (h : PED X l de) : PID X tg l (diSeq de) := by
  obtain ⟨t1, a1, a2⟩ := h.ex
  refine ⟨_, pi_seq a1, fun α σ H ρ μ Qd R S e h post => a2 α σ H ρ μ _ _ S e h fun v H1 α1 μ1 d g1 S1 r1 q1 => ?_⟩
  cases r1 with
  | tup q r => exact ⟨_, rfl, .inr ⟨⟨_, q⟩, post _ _ _ _ _ g1 S1 held_nil (itt_tup q r) q1⟩⟩
  | frz q r => exact ⟨_, rfl, .inl ⟨⟨_, q.seq⟩, post _ _ _ _ _ g1 S1 held_nil (itl_frz q r) q1⟩⟩
  | @cell a k q =>
    dsimp only [lsrc] at q1
    cases ex : μ1 k with
    | none =>
      rw [ex] at q1
      exact False.elim q1
    | some xs =>
      rw [ex] at q1
      obtain ⟨b, vs, h1, h2, h3⟩ := S1.cell k xs ex
      rw [q] at h1
      cases h1
      exact ⟨_, rfl, .inl ⟨⟨_, .of h2⟩, post _ _ _ _ _ g1 S1 (held_one ex) (itl_cell q) q1⟩⟩
  | _ => exact False.elim q1
/-- len of a text, a list, a tuple -/
def cLen : List D → Mu → DK → Prop := fun ds μ Q => match ds with
  | [.str z] => z.length ≤ sizeLine ∧ Q (.int (z.length : Nat)) μ
  | [x] => (match items μ x with | some xs => Q (.int (xs.length : Nat)) μ | none => False)
  | _ => False
theorem c_len : CallD X (.builtin "len") cLen := by
  refine ⟨_, CallR.or call_len_str call_len_seq, fun α H μ vs ds Qd Q S r h post => ?_⟩
  unfold cLen at h
  split at h
  · rename_i z
    obtain ⟨v, rfl, r1⟩ := rl1 r
    cases r1
    exact .inl ⟨z, rfl, h.1, post.here S (.int _) h.2⟩
  · rename_i x _
    obtain ⟨v, rfl, r1⟩ := rl1 r
    split at h
    · rename_i xs ex
      obtain ⟨a, us, rfl, q, r2⟩ := S.seq r1 ex
      exact .inr ⟨a, us, rfl, q, by rw [r2.length]; exact post.here S (.int _) h⟩
    · exact h.elim
  · exact h.elim
/-- list(range(lo, hi)) -/
def dlRange (d1 d2 : DTE) : DTL := fun ρ μ Q => d1 ρ μ fun x μ1 => d2 ρ μ1 fun y μ2 => match x, y with
  | .int lo, .int hi => ((Rg lo ∧ Rg hi) ∧ (hi - lo).toNat ≤ 2 ^ 24) ∧ Q (rangeD lo hi) μ2
  | _, _ => False
theorem rl_range (lo hi : Int) : RlAll K α H (rgV lo hi) (rangeD lo hi) := by
  unfold rgV rangeD
  generalize List.range (hi - lo).toNat = l
  induction l with
  | nil => exact .nil
  | cons a l ih => exact .cons (.int _) ih
theorem dl_range {a b : Expr} {d1 d2 : DTE} {p pos p2 pos2 : Pos} (hm : X.mg "list" = none) (hm2 : X.mg "range" = none) (ha : PED X a d1) (hb : PED X b d2) (hc : X.calm = true := by rfl)
    (mk : ∀ {ta tb : TE}, X.mg "list" = none → X.mg "range" = none → PE X a ta → PE X b tb → PE X (.Call (.Name "list" p) [.Call (.Name "range" p2) [a, b] [] pos2] [] pos) (tLstRg (tRg2 ta tb)) := by intro _ _ z1 z2 u v; exact pe_listRg (by rfl) (by rfl) z1 (prg_2 (by rfl) z2 u v)) :
    PLD X (.Call (.Name "list" p) [.Call (.Name "range" p2) [a, b] [] pos2] [] pos) (dlRange d1 d2) := by
  obtain ⟨t1, a1, a2⟩ := ha.ex
  obtain ⟨t2, b1, b2⟩ := hb.ex
  refine ⟨_, mk hm hm2 a1 b1, fun α σ H ρ μ Qd Q S E h post => a2 α σ H ρ μ _ _ S E h fun v1 H1 α1 μ1 x g1 s1 r1 q1 => b2 α1 σ H1 ρ μ1 _ _ s1 (E.mono g1) q1 fun v2 H2 α2 μ2 y g2 s2 r2 q2 => ?_⟩
  split at q2
  · rename_i lo hi
    cases r1; cases r2
    obtain ⟨⟨⟨k1, k2⟩, k3⟩, q2⟩ := q2
    exact ⟨lo, hi, rfl, rfl, ⟨k1.1, k1.2, k2.1, k2.2, k3⟩, fun q hq => (post.mono (g1.trans g2)).here s2 (rl_range lo hi) q2 hq⟩
  · exact False.elim q2
/-- isinstance(x, (A, B)), built-in classes -/
def cIsi2 (a b : String) (de : DTE) : DTE := fun ρ μ Q => de ρ μ fun x μ1 => match tyD μ1 x with
  | some t => (match kitB t a, kitB t b with | some u, some v => 2 ≤ sizeLine ∧ Q (.bl (u || v)) μ1 | _, _ => False)
  | none => False
/-- a, b, .. = a tuple -/
theorem dg_tup {es : List Expr} {k n : Nat} {pos : Pos} {gs : DTGs} (h : PGsD X es gs) (mk : ∀ {t : TGs}, PGs X es t → PG X (.Tuple es k pos) (gTup X.K n t) := by intro _ a; exact pg_tup (by rfl) a) : PGD X (.Tuple es k pos) (gdTup n gs) := by
  obtain ⟨t, a, b⟩ := h.ex
  refine ⟨_, mk a, fun α σ H ρ μ v d Qd Q S e r h post => ?_⟩
  unfold gdTup at h
  split at h
  · rename_i ds
    cases r with
    | tup q r => exact ⟨_, _, rfl, q, by rw [r.length]; exact h.1, b α σ H ρ μ _ _ _ _ S e r h.2 post⟩
  · exact h.elim
theorem bt_abs : bootBuiltins "abs" = some (.builtin "abs") := by decide +kernel
theorem bt_max : bootBuiltins "max" = some (.builtin "max") := by decide +kernel
theorem bt_min : bootBuiltins "min" = some (.builtin "min") := by decide +kernel
theorem bt_sum : bootBuiltins "sum" = some (.builtin "sum") := by decide +kernel
theorem bt_all : bootBuiltins "all" = some (.builtin "all") := by decide +kernel
theorem bt_any : bootBuiltins "any" = some (.builtin "any") := by decide +kernel
theorem bt_len : bootBuiltins "len" = some (.builtin "len") := by decide +kernel
theorem bt_divmod : bootBuiltins "divmod" = some (.builtin "divmod") := by decide +kernel
theorem bt_isinstance : bootBuiltins "isinstance" = some (.builtin "isinstance") := by decide +kernel
theorem bt_repr : bootBuiltins "repr" = some (.builtin "repr") := by decide +kernel
theorem bt_sorted : bootBuiltins "sorted" = some (.builtin "sorted") := by decide +kernel
theorem bt_int : bootBuiltins "int" = some (.type "int") := by decide +kernel
theorem bt_bool : bootBuiltins "bool" = some (.type "bool") := by decide +kernel
theorem bt_str : bootBuiltins "str" = some (.type "str") := by decide +kernel
theorem bt_tuple : bootBuiltins "tuple" = some (.type "tuple") := by decide +kernel
theorem bt_list : bootBuiltins "list" = some (.type "list") := by decide +kernel
theorem bt_dict : bootBuiltins "dict" = some (.type "dict") := by decide +kernel
end Dl
/-! Dat6: enumerate over a tuple, too. -/
namespace Dl
open PySem PySem.Spec PyProof.Rows L2

/-- one argument: a thing whose walk begins with the object o -/
theorem enum1_meets {v : Value} {o : Obj} {G : Heap → Prop} (B : Begins v o G) :
    Meets (Builtin.«enumerate.__new__» ⟨[.type "enumerate", v], []⟩) (fun _ R s => G s.heap ∧
      R (.ok (.ret (.ref (s.heap.push o).objs.size))) { s with heap := (s.heap.push o).push { cls := .type "enumerate", data := .fields #[.none, .bool false, .ref s.heap.objs.size, rawInt 0, .none, .none] } }) :=
  .of_wp fun prog w A R s hh => by
    obtain ⟨hp, g, d, tk, os⟩ := s
    obtain ⟨g1, hh⟩ := hh
    have hsub := sub_enumerate
    have go : ∀ {A' : Around} {E : Value → Shared → Prop} {Q : Value → Shared → Prop}, Q (.ref hp.objs.size) ⟨hp.push o, g, d, tk, os⟩ → wpAny (model prog w) A' (pyIter v) Q E ⟨hp, g, d, tk, os⟩ :=
      fun q => B.iter prog w _ _ ⟨hp, g, d, tk, os⟩ _ g1 q
    wp_walk using go
    refine wpAny_stack_any fun st => wpAny_pure ?_
    split
    · rename_i c _ _ _ _ _
      cases (c == Value.type "enumerate") <;>
      · wp_walk using go
        exact ⟨_, rfl, hh⟩
    · wp_walk using go
      exact ⟨_, rfl, hh⟩
theorem enum1_call {P : Program} {w : World} {A : Around} {E : Value → Shared → Prop} {s : Shared} {v : Value} {o : Obj} {G : Heap → Prop} {Q : Value → Shared → Prop} (B : Begins v o G) (g : G s.heap)
    (hh : ∀ h', IsEnum h' (s.heap.objs.size + 1) s.heap.objs.size 0 .none → h'.get? s.heap.objs.size = some o → (∀ b ob, s.heap.get? b = some ob → h'.get? b = some ob) → Q (.ref (s.heap.objs.size + 1)) { s with heap := h' }) :
    wpAny (model P w) A (call (.type "enumerate") [v]) Q E s := by
  refine callType_new F.called_enumerate (by decide) (F.typeCall_enumerate_1 _) (F.newCall_enumerate_1 _) (fun ob => F.args_object_init_2 ob _) F.entry_enumerate_new (enum1_meets B) ⟨g, ?_⟩
  have z : (s.heap.push o).objs.size = s.heap.objs.size + 1 := Heap.size_push ..
  show _ ∧ _
  rw [z]
  have e0 := Heap.get?_push_size (s.heap.push o) (o := { cls := .type "enumerate", data := .fields #[.none, .bool false, .ref s.heap.objs.size, rawInt 0, .none, .none] }) rfl
  rw [z] at e0
  exact ⟨⟨_, e0, rfl⟩, hh _ e0 (Heap.get?_push_of_some _ (Heap.get?_push_size _ B.free)) fun b ob q => Heap.get?_push_of_some _ (Heap.get?_push_of_some _ q)⟩
/-- the items of the tuple at a, in new pairs with their places -/
def Iet (K : PySem.W.Frag) (a : Addr) : It :=
  ⟨fun i H => ∃ (xs : List V) (x : V), SqT K H a xs ∧ xs[i]? = some x, fun i H v H' => ∃ T x, v = .ref T ∧ H T = none ∧ H' = upd H T (.tup [.int (i : Nat), x]) ∧ ∀ xs, SqT K H a xs → xs[i]? = some x, fun i H => ∃ xs : List V, SqT K H a xs ∧ xs.length ≤ i⟩
/-- a tuple's walk that is through -/
theorem draws_done {P : Program} {w : World} {A : Around} (hh : A.handled = none) {it t : Addr} (hne : t ≠ it) {xs : Array Value} {m : Nat} (hm : xs[m]? = none) :
    Draws P w A it [it, t] m (fun i v => xs[i]? = some v) (fun i h => i = m ∧ h.IsTupleIter it t i ∧ h.IsTuple t xs) where
  live := fun _ _ st => let ⟨o, ho, _⟩ := st.2.1; ⟨o, ho⟩
  frame := fun _ _ _ st hk => ⟨st.1, st.2.1.at fun o e => hk it (by simp) o e, st.2.2.at fun o e => hk t (by simp) o e⟩
  item := fun i s Q E hi st hQ => absurd hi (by rw [st.1]; exact Nat.lt_irrefl _)
  done := fun s Q E st hE => wpAny_nextOf_tuple_end hh st.2.1 st.2.2 hm hE
theorem turn_enumT {P : Program} {w : World} {K : PySem.W.Frag} {elts : List Expr} {kk : Nat} {tpos : Pos} (a e it : Addr) (hae : e ≠ a) (hai : a ≠ it) :
    Turn P w K (.Tuple elts kk tpos) (Iet K a) [e, it] e (fun i h => (∃ old, IsEnum h e it ((i : Nat) : Int) old) ∧ h.IsTupleIter it a i ∧ e ≠ it) where
  mem := by simp
  obj := fun i h st b hb => by
    obtain ⟨⟨old, he⟩, ⟨o, ho, hc, hd⟩, _⟩ := st
    rcases (show b = e ∨ b = it by simpa using hb) with rfl | rfl
    · exact ⟨_, he, fun v q => nomatch q⟩
    · exact ⟨o, ho, fun v q => by rw [hd] at q; cases q⟩
  keep := fun i h h' st k => let ⟨⟨old, he⟩, hi, hne⟩ := st; ⟨⟨old, k e (by simp) _ he⟩, hi.at fun o q => k it (by simp) o q, hne⟩
  item := by
    rintro X rfl rfl rfl hc i pins s σ H E I hf ⟨⟨old, he⟩, hit, hne⟩ ⟨xs, x, hq, hx⟩
    obtain ⟨its, rv, p, hz⟩ := I.tuple hq
    obtain ⟨u, hu, ru⟩ := rv.get hx
    have hel : e < s.heap.objs.size := Heap.lt_size he
    have hil : it < s.heap.objs.size := by obtain ⟨_, q, _⟩ := hit; exact Heap.lt_size q
    have hi : i < its.toArray.size := by
      rw [List.size_toArray]
      exact (List.getElem?_eq_some_iff.mp hu).1
    refine wpAny_pyNext_enum_itemD (Draws.tuple (A := X.A.in1) (I.ok.hd hc) it a hai its.toArray) he ⟨hit, p⟩ hi hne (by simp [hne, hae]) fun y h' tk hy ho st' hT hsz hk => ?_
    have ey : y = u := by
      have hy : its.toArray[i]? = some y := hy
      rw [List.getElem?_toArray, hu] at hy
      exact (Option.some.inj hy).symm
    subst ey
    refine ⟨_, rfl, wpAny_letOwnedTupleGo_enum (s := { s with heap := h', toks := tk + 1 }) ho fun h'' he' sb => ?_⟩
    have hT2 : h''.get? s.heap.objs.size = some { cls := .type "tuple", data := .seq #[.int i tk, y] } := (sb.2 _ (Nat.ne_of_gt hel)).trans hT
    have new : ObjOk X.prog X.w (upd H s.heap.objs.size (.tup [.int (i : Nat), x])) h'' s.heap.objs.size (.tup [.int (i : Nat), x]) :=
      ⟨by show 2 ≤ sizeLine; decide, [.int i tk, y], .cons ⟨_, rfl⟩ (.cons ru .nil), ⟨_, hT2, rfl, _, rfl⟩⟩
    have I1 : Inv X pins σ (upd H s.heap.objs.size (.tup [.int (i : Nat), x])) { s with heap := h'', toks := tk + 1 } :=
      I.turnedNew (ch := [e, it]) (fun b ob hb q => (sb.2 b (fun z => hb (by simp [z]))).trans (hk b ob (fun z => hb (by simp [z])) (fun z => hb (by simp [z])) q)) hf (Nat.le_refl _) new
    refine ⟨.ref s.heap.objs.size, _, I1, rfl, ⟨_, x, rfl, I.hok.fresh (Nat.le_refl _), rfl, fun ys hy => by rw [I.tuple_inj hy hq]; exact hx⟩, ⟨⟨y, ?_⟩, st'.1.at fun o q => (sb.2 it (Ne.symm hne)).trans q, hne⟩, fun b hb => ?_⟩
    · rw [show ((i + 1 : Nat) : Int) = (i : Int) + 1 by omega]
      exact he'
    · have hb' : b < s.heap.objs.size := by
        rcases (show b = e ∨ b = it by simpa using hb) with rfl | rfl
        · exact hel
        · exact hil
      rw [upd_ne (Nat.ne_of_lt hb')]
      exact (hf b hb).1
  done := by
    rintro X rfl rfl rfl hc i pins s σ H E I hf ⟨⟨old, he⟩, hit, hne⟩ ⟨xs, hq, hx⟩
    obtain ⟨its, rv, p, hz⟩ := I.tuple hq
    obtain ⟨f0, f1, f2, f3, f4, f5⟩ := hf it (by simp)
    have hl := rv.length
    have hm : its.toArray[i]? = none := by
      rw [List.getElem?_toArray]
      exact List.getElem?_eq_none (by omega)
    exact wpAny_pyNext_enum_endD (draws_done (A := X.A.in1) (I.ok.hd hc) hai hm) he ⟨rfl, hit, p⟩ fun h' eb => ⟨rfl, I.turned (t' := s.toks) (fun b o hb q => eb b o hb q) f0 f1 f3 f4 f5⟩
  self := fun A i s Q E st h => let ⟨⟨_, he⟩, _⟩ := st; wpAny_pyIter_enum he h
def iEnumQ (K : PySem.W.Frag) (ta : TA) : TI := fun σ H R => ta σ H fun vs H1 => ∃ a, vs = [.ref a] ∧ (((∃ xs, SqL K H1 a xs) ∧ R (Ite K a) H1) ∨ ((∃ xs, SqT K H1 a xs) ∧ R (Iet K a) H1))
theorem pi_enumQ {X : Cx} {e : Expr} {ta : TA} {p pos tpos : Pos} {elts : List Expr} {kk : Nat} (hg : Gl X "enumerate") (hm : X.mg "enumerate" = none) (ha : PA X [e] ta) (hs : starEach [e] X.env = [(false, eval e X.env)] := by rfl) :
    PI X (.Tuple elts kk tpos) (.Call (.Name "enumerate" p) [e] [] pos) (iEnumQ X.K ta) := by
  refine ⟨fun pins s σ H R I h => Call_ (ld_blt I hg hm boot_enumerate (PyProof.Rows.callWith_type1 (thn (ha.run pos pins s σ H _ I h) fun us s1 w => ?_) hs rfl))⟩
  obtain ⟨vs, H1, I1, r1, a, rfl, q⟩ := w
  obtain ⟨u, rfl, r⟩ : ∃ u, us = [u] ∧ RelV (.ref a) u := by
    cases r1 with
    | cons r rr =>
      cases rr
      exact ⟨_, rfl, r⟩
  obtain rfl : u = Value.ref a := r
  have own : ∀ b ∈ [s1.heap.objs.size + 1, s1.heap.objs.size], FpOk X pins H1 b := by
    intro b hb
    have le : s1.heap.objs.size ≤ b := by
      rcases (show b = s1.heap.objs.size + 1 ∨ b = s1.heap.objs.size by simpa using hb) with rfl | rfl
      · exact Nat.le_succ _
      · exact Nat.le_refl _
    exact I1.fpOk le (I1.hok.fresh le)
  rcases q with ⟨⟨xs, hq⟩, q⟩ | ⟨⟨xs, hq⟩, q⟩
  · obtain ⟨its, rv, pl, hz⟩ := I1.list hq
    exact enum1_call (begins_list a its.toArray) pl.isList fun h' he ho hk => wpAny_pyIter_enum he
      ⟨_, [s1.heap.objs.size + 1, s1.heap.objs.size], _, _, H1, rfl, I1.kept (t' := s1.toks) hk, turn_enum a _ _, ⟨⟨.none, he⟩, ⟨_, ho, rfl, rfl⟩, Nat.succ_ne_self _⟩, own, q⟩
  · obtain ⟨its, rv, pl, hz⟩ := I1.tuple hq
    have al : a < s1.heap.objs.size := by
      obtain ⟨o, e, _⟩ := (show s1.heap.IsTuple a its.toArray from pl)
      exact Heap.lt_size e
    exact enum1_call (begins_tuple a its.toArray) pl fun h' he ho hk => wpAny_pyIter_enum he
      ⟨_, [s1.heap.objs.size + 1, s1.heap.objs.size], _, _, H1, rfl, I1.kept (t' := s1.toks) hk, turn_enumT a _ _ (Nat.ne_of_gt (Nat.lt_succ_of_lt al)) (Nat.ne_of_lt al), ⟨⟨.none, he⟩, ⟨_, ho, rfl, rfl⟩, Nat.succ_ne_self _⟩, own, q⟩
/-- counted: a list or a tuple -/
def diEnum2 (de : DTE) : DTI := fun ρ μ Q => de ρ μ fun x μ1 => match x with
  | .tup ds => Q ⟨enumD ds, []⟩ μ1
  | x => (match lsrc μ1 x with | some s => Q ⟨enumD s.its, s.keep⟩ μ1 | none => False)
theorem ite_ok {X : Cx} {α : List Addr} {H : Hp} {a : Addr} {s : Src} (L : LOk X.K a s α H) : ItOk X.K (Ite X.K a) ⟨enumD s.its, s.keep⟩ α H := ⟨fun α' H' μ' g S' hd' => by
  obtain ⟨ws, q', r'⟩ := L.ok α' H' μ' g S' hd'
  have len : (enumD s.its).length = ws.length := by rw [enumD_len, r'.length]
  refine ⟨fun i hi => ?_, fun i hi => ?_, fun i d v H2 hg hy => ?_⟩
  · have hi : i < (enumD s.its).length := hi
    rw [len] at hi
    exact ⟨ws, ws[i], q', by simp⟩
  · have hi : (enumD s.its).length ≤ i := hi
    rw [len] at hi
    exact ⟨ws, q', hi⟩
  · obtain ⟨x, hx, rfl⟩ := enumD_get hg
    obtain ⟨T, y, rfl, hT, rfl, hy⟩ := hy
    obtain ⟨w, hw, rw'⟩ := r'.get hx
    have e2 := hy ws q'
    rw [hw] at e2
    cases e2
    exact new_pair S' (.int _) rw' hT⟩
theorem iet_ok {X : Cx} {α : List Addr} {H : Hp} {a : Addr} {vs : List V} {ds : List D} (q : SqT X.K H a vs) (r : RlAll X.K α H vs ds) : ItOk X.K (Iet X.K a) ⟨enumD ds, []⟩ α H := ⟨fun α' H' μ' g S' hd' => by
  have q' := g.ext.seqT q
  have r' := r.mono g
  have len : (enumD ds).length = vs.length := by rw [enumD_len, r'.length]
  refine ⟨fun i hi => ?_, fun i hi => ?_, fun i d v H2 hg hy => ?_⟩
  · have hi : i < (enumD ds).length := hi
    rw [len] at hi
    exact ⟨vs, vs[i], q', by simp⟩
  · have hi : (enumD ds).length ≤ i := hi
    rw [len] at hi
    exact ⟨vs, q', hi⟩
  · obtain ⟨x, hx, rfl⟩ := enumD_get hg
    obtain ⟨T, y, rfl, hT, rfl, hy⟩ := hy
    obtain ⟨w, hw, rw'⟩ := r'.get hx
    have e2 := hy vs q'
    rw [hw] at e2
    cases e2
    exact new_pair S' (.int _) rw' hT⟩
theorem di_enum2 {X : Cx} {e : Expr} {de : DTE} {p pos tpos : Pos} {elts : List Expr} {kk : Nat} (hm : X.mg "enumerate" = none) (he : PED X e de) (hg : Gl X "enumerate" := by rfl) (hs : starEach [e] X.env = [(false, eval e X.env)] := by rfl) (hs1 : starEach [e] X.env = (false, eval e X.env) :: starEach [] X.env := by rfl) :
    PID X (.Tuple elts kk tpos) (.Call (.Name "enumerate" p) [e] [] pos) (diEnum2 de) := by
  obtain ⟨t1, a1, a2⟩ := he.ex
  refine ⟨_, pi_enumQ hg hm (pa_cons a1 pa_nil hs1) hs, fun α σ H ρ μ Qd R S en h post => a2 α σ H ρ μ _ _ S en h fun v H1 α1 μ1 d g1 S1 r1 q1 => ?_⟩
  have lists : ∀ {s : Src}, lsrc μ1 d = some s → Qd ⟨enumD s.its, s.keep⟩ μ1 → ∃ a, [v] = [V.ref a] ∧ (((∃ xs, SqL X.K H1 a xs) ∧ R (Ite X.K a) H1) ∨ ((∃ xs, SqT X.K H1 a xs) ∧ R (Iet X.K a) H1)) := by
    intro s es q
    obtain ⟨hd, a, vs, rfl, q0, L⟩ := lok_of S1 r1 es
    exact ⟨a, rfl, .inl ⟨⟨vs, q0⟩, post _ _ _ _ ⟨enumD s.its, s.keep⟩ g1 S1 hd (ite_ok L) q⟩⟩
  cases r1 with
  | tup q r => exact ⟨_, rfl, .inr ⟨⟨_, q⟩, post _ _ _ _ ⟨enumD _, []⟩ g1 S1 held_nil (iet_ok q r) q1⟩⟩
  | frz q r => exact lists rfl q1
  | @cell a k q =>
    dsimp only [lsrc] at q1 lists
    cases ex : μ1 k with
    | none =>
      rw [ex] at q1
      exact False.elim q1
    | some xs =>
      rw [ex] at q1 lists
      exact lists rfl q1
  | _ => exact False.elim q1
/-- three names at once -/
def dPar3 (i j l : Nat) (da : DTA) : DTS := fun D ρ μ => da ρ μ fun ds μ1 => match ds with | [u, v, w] => D.nx (((ρ.set i (some u)).set j (some v)).set l (some w)) μ1 | _ => False
theorem ds_par3 {X : Cx} (i j l : Nat) {x y z : Str} {a b c : Expr} {da : DTA} {px py pz pt pos : Pos} {kt k2 pt2} (hN : X.N.Nodup) (ha : PAD X [a, b, c] da) (hc : X.calm = true := by rfl) (hi : X.N[i]? = some x := by rfl) (hj : X.N[j]? = some y := by rfl) (hl : X.N[l]? = some z := by rfl)
    (hij : i ≠ j := by decide) (hil : i ≠ l := by decide) (hjl : j ≠ l := by decide)
    (hx : X.env.scope.names.lookup x = some .local := by rfl) (hy : X.env.scope.names.lookup y = some .local := by rfl) (hz : X.env.scope.names.lookup z = some .local := by rfl)
    (hw : swappedStores [.Tuple [.Name x px, .Name y py, .Name z pz] kt pt] (.Tuple [a, b, c] k2 pt2) X.env = pure (some [x, y, z]) := by rfl)
    (hs : swapsWithSole [.Tuple [.Name x px, .Name y py, .Name z pz] kt pt] (.Tuple [a, b, c] k2 pt2) pos.line X.env = pure false := by rfl) :
    PSD X (.Assign [.Tuple [.Name x px, .Name y py, .Name z pz] kt pt] (.Tuple [a, b, c] k2 pt2) pos) (dPar3 i j l da) := by
  obtain ⟨t1, a1, a2⟩ := ha.ex
  refine ⟨_, ps_par3 hc hN hi hj hl hij hil hjl hx hy hz a1 hw hs, fun α σ H ρ μ D E S e h post => a2 α σ H ρ μ _ _ S e h fun vs H' α' μ' ds g S' r h' => ?_⟩
  unfold dPar3 at h
  split at h'
  · cases r with
    | cons r1 r =>
      obtain ⟨v, w, rfl, r2, r3⟩ := rl2 r
      exact ⟨_, v, w, rfl, post.nx _ _ _ _ _ g S' ((((e.mono g).set r1).set r2).set r3) h'⟩
  · exact False.elim h'
end Dl
/-! Ev: readings over data, worked out. -/
namespace Dl
open PySem PySem.Spec PyProof.Rows L2
theorem atI_0 {β : Type} (x : β) (xs : List β) : atI (x :: xs) 0 = some x := by
  have := atI_nat (xs := x :: xs) (j := 0) (v := x) rfl
  exact this
theorem atI_1 {β : Type} (x y : β) (xs : List β) : atI (x :: y :: xs) 1 = some y := atI_nat (xs := x :: y :: xs) (j := 1) (v := y) rfl
theorem atI_2 {β : Type} (x y z : β) (xs : List β) : atI (x :: y :: z :: xs) 2 = some z := atI_nat (xs := x :: y :: z :: xs) (j := 2) (v := z) rfl
theorem atI_3 {β : Type} (x y z u : β) (xs : List β) : atI (x :: y :: z :: u :: xs) 3 = some u := atI_nat (xs := x :: y :: z :: u :: xs) (j := 3) (v := u) rfl
theorem atI_4 {β : Type} (x y z u v : β) (xs : List β) : atI (x :: y :: z :: u :: v :: xs) 4 = some v := atI_nat (xs := x :: y :: z :: u :: v :: xs) (j := 4) (v := v) rfl
theorem atI_n1 {β : Type} (xs : List β) (v : β) (h : xs.getLast? = some v) : atI xs (-1) = some v := by
  rw [List.getLast?_eq_getElem?] at h
  have hl : 0 < xs.length := by
    cases xs with
    | nil => simp at h
    | cons _ _ => simp
  unfold L2.atI L2.ixN
  rw [if_neg (by decide), if_pos (by omega)]
  show xs[(-1 + (xs.length : Int)).toNat]? = _
  rw [show (-1 + (xs.length : Int)).toNat = xs.length - 1 by omega]
  exact h
theorem ixN_20 : ixN 2 0 = some 0 := by decide
theorem ixN_21 : ixN 2 1 = some 1 := by decide
theorem ixN_nat {n j : Nat} (h : j < n) : ixN n (j : Int) = some j := by
  unfold L2.ixN
  rw [if_pos (by omega), if_pos (by omega), Int.toNat_natCast]
theorem kit_ii : kitB "int" "int" = some true := by decide +kernel
theorem kit_ib : kitB "int" "bool" = some false := by decide +kernel
theorem kit_is : kitB "int" "str" = some false := by decide +kernel
theorem kit_it : kitB "int" "tuple" = some false := by decide +kernel
theorem kit_il : kitB "int" "list" = some false := by decide +kernel
theorem kit_bi : kitB "bool" "int" = some true := by decide +kernel
theorem kit_bb : kitB "bool" "bool" = some true := by decide +kernel
theorem kit_bs : kitB "bool" "str" = some false := by decide +kernel
theorem kit_bt : kitB "bool" "tuple" = some false := by decide +kernel
theorem kit_bl : kitB "bool" "list" = some false := by decide +kernel
theorem kit_si : kitB "str" "int" = some false := by decide +kernel
theorem kit_sb : kitB "str" "bool" = some false := by decide +kernel
theorem kit_ss : kitB "str" "str" = some true := by decide +kernel
theorem kit_st : kitB "str" "tuple" = some false := by decide +kernel
theorem kit_sl : kitB "str" "list" = some false := by decide +kernel
theorem kit_ti : kitB "tuple" "int" = some false := by decide +kernel
theorem kit_tb : kitB "tuple" "bool" = some false := by decide +kernel
theorem kit_ts : kitB "tuple" "str" = some false := by decide +kernel
theorem kit_tt : kitB "tuple" "tuple" = some true := by decide +kernel
theorem kit_tl : kitB "tuple" "list" = some false := by decide +kernel
theorem kit_li : kitB "list" "int" = some false := by decide +kernel
theorem kit_lb : kitB "list" "bool" = some false := by decide +kernel
theorem kit_ls : kitB "list" "str" = some false := by decide +kernel
theorem kit_lt : kitB "list" "tuple" = some false := by decide +kernel
theorem kit_ll : kitB "list" "list" = some true := by decide +kernel
theorem kit_ni : kitB "NoneType" "int" = some false := by decide +kernel
theorem kit_nb : kitB "NoneType" "bool" = some false := by decide +kernel
theorem kit_ns : kitB "NoneType" "str" = some false := by decide +kernel
theorem kit_nt : kitB "NoneType" "tuple" = some false := by decide +kernel
theorem kit_nl : kitB "NoneType" "list" = some false := by decide +kernel
theorem sz1000 {n : Nat} (h : n ≤ 100000) : n ≤ sizeLine := Nat.le_trans h (by decide)
theorem sz_lt {n : Nat} (h : n < 100000) : n < sizeLine := Nat.lt_of_lt_of_le h (by decide)
theorem Mu.upd_at {μ : Mu} {j k : Nat} {xs : List D} : (μ.upd k xs) j = if j = k then some xs else μ j := rfl
theorem div_ok {j i : Int} (h0 : 0 < j) (h1 : j < 2 ^ 200) : DivOk i j := ⟨h0, lt_big (by omega)⟩
theorem mul_ok {i j : Int} (h0 : -(2 ^ 200) < i) (h1 : i < 2 ^ 200) (h2 : -(2 ^ 200) < j) (h3 : j < 2 ^ 200) : Dl.MulOk i j := .inr (.inr ⟨lt_big (by omega), lt_big (by omega)⟩)

/-! ### comprehensions whose turns change nothing -/
theorem held_upd {s : Src} {μ : Mu} {k : Nat} {xs : List D} (h : s.held μ) (n : μ k = none) : s.held (μ.upd k xs) := fun p hp => by
  have e := h p hp
  rw [Mu.upd_ne (Mu.ne_of e n)]
  exact e
theorem lc_fm {s : Src} {g : DTG} {tt : DTT} {de : DTE} {ρ : Rho} {Q : List D → Mu → Prop} {μ : Mu} (p : D → Bool) (f : D → D) (hh : s.held μ) (hs : s.its.length ≤ 100000)
    (hb : ∀ x, x ∈ s.its → ∀ μ' (Qy : DK) (Qn : Mu → Prop), s.held μ' → (if p x = true then Qy (f x) μ' else Qn μ') → g x ρ μ' fun ρ2 μ2 => tt ρ2 μ2 fun b μ3 => if b = true then de ρ2 μ3 Qy else Qn μ3)
    (hq : Q ((s.its.filter p).map f) μ) : lcIn s g tt de ρ Q μ := by
  intro k hk
  refine ⟨fun i μ' => μ' = μ.upd k (((s.its.take i).filter p).map f), rfl, fun i x μ' hi w => ?_, fun μ' w => ?_⟩
  · subst w
    have hx : x ∈ s.its := List.mem_of_getElem? hi
    have hl : i < s.its.length := (List.getElem?_eq_some_iff.mp hi).1
    have et : s.its.take (i + 1) = s.its.take i ++ [x] := by rw [List.take_add_one, hi]; rfl
    refine ⟨held_upd hh hk, hb x hx _ _ _ (held_upd hh hk) ?_⟩
    cases hp : p x with
    | true =>
      rw [if_pos rfl]
      refine ⟨_, Mu.upd_same, sz_lt ?_, ?_⟩
      · rw [List.length_map]
        have h1 := List.length_filter_le p (s.its.take i)
        rw [List.length_take] at h1
        omega
      · show _ = μ.upd k (((s.its.take (i + 1)).filter p).map f)
        rw [Mu.upd_upd, et, List.filter_append, List.map_append, List.filter_cons_of_pos hp]
        rfl
    | false =>
      rw [if_neg (by decide)]
      show _ = μ.upd k (((s.its.take (i + 1)).filter p).map f)
      rw [et, List.filter_append, List.filter_cons_of_neg (by rw [hp]; decide)]
      simp
  · subst w
    refine ⟨held_upd hh hk, _, μ, Mu.upd_same, hk, ?_, ?_⟩
    · exact Mu.Sub.refl _
    · rw [List.take_length]
      exact hq
theorem lc_map {s : Src} {g : DTG} {de : DTE} {ρ : Rho} {Q : List D → Mu → Prop} {μ : Mu} (f : D → D) (hh : s.held μ) (hs : s.its.length ≤ 100000)
    (hb : ∀ x, x ∈ s.its → ∀ μ' (Qy : DK), s.held μ' → Qy (f x) μ' → g x ρ μ' fun ρ2 μ2 => de ρ2 μ2 Qy)
    (hq : Q (s.its.map f) μ) : lcIn s g dYes de ρ Q μ := by
  refine lc_fm (fun _ => true) f hh hs (fun x hx μ' Qy Qn hd q => ?_) ?_
  · exact hb x hx μ' Qy hd q
  · rw [List.filter_eq_self.mpr fun _ _ => rfl]
    exact hq
/-- .. that leave new cells behind -/
theorem lc_grow {s : Src} {g : DTG} {de : DTE} {ρ : Rho} {Q : List D → Mu → Prop} {μ : Mu} (f : D → D) (hh : s.held μ) (hs : s.its.length ≤ 100000)
    (hb : ∀ x, x ∈ s.its → ∀ μ' (Qy : DK), s.held μ' → (∀ μ4, Mu.Sub μ' μ4 → Qy (f x) μ4) → g x ρ μ' fun ρ2 μ2 => de ρ2 μ2 Qy)
    (hq : Q (s.its.map f) μ) : lcIn s g dYes de ρ Q μ := by
  intro k hk
  have held : ∀ {xs : List D} {μ' : Mu}, Mu.Sub (μ.upd k xs) μ' → s.held μ' := fun {xs μ'} sb p hp => sb _ _ (held_upd hh hk p hp)
  refine ⟨fun i μ' => Mu.Sub (μ.upd k ((s.its.take i).map f)) μ', Mu.Sub.refl _, fun i x μ' hi w => ⟨held w, ?_⟩, fun μ' w => ⟨held w, s.its.map f, μ, ?_, hk, ?_, hq⟩⟩
  · have hx : x ∈ s.its := List.mem_of_getElem? hi
    have hl : i < s.its.length := (List.getElem?_eq_some_iff.mp hi).1
    refine hb x hx _ _ (held w) fun μ4 sb => ⟨_, sb _ _ (w _ _ Mu.upd_same), sz_lt ?_, ?_⟩
    · rw [List.length_map, List.length_take]
      omega
    · have h1 := (w.trans sb).upd k ((s.its.take i).map f ++ [f x])
      rw [Mu.upd_upd] at h1
      show Mu.Sub (μ.upd k ((s.its.take (i + 1)).map f)) _
      rw [List.take_add_one, hi, List.map_append]
      exact h1
  · have := w k _ Mu.upd_same
    rw [List.take_length] at this
    exact this
  · have w : Mu.Sub (μ.upd k ((s.its.take s.its.length).map f)) μ' := w
    rw [List.take_length] at w
    exact w
theorem Mu.keep {μ : Mu} {j k : Nat} {xs ys : List D} (h : μ j = some ys) (n : μ k = none) : (μ.upd k xs) j = some ys := (Mu.upd_ne (Mu.ne_of h n)).trans h
theorem sAll_map {xs : List D} {b : D → Bool} {μ : Mu} {Q : DK} (h : Q (.bl (xs.all b)) μ) : sAll (xs.map fun x => .bl (b x)) μ Q := by
  refine ⟨xs.map b, by rw [List.map_map]; rfl, ?_⟩
  rw [List.all_map]
  exact h
theorem sAny_map {xs : List D} {b : D → Bool} {μ : Mu} {Q : DK} (h : Q (.bl (xs.any b)) μ) : sAny (xs.map fun x => .bl (b x)) μ Q := by
  refine ⟨xs.map b, by rw [List.map_map]; rfl, ?_⟩
  rw [List.any_map]
  exact h
theorem atI_map {β γ : Type} (f : β → γ) (xs : List β) (i : Int) : atI (xs.map f) i = (atI xs i).map f := by
  unfold L2.atI
  rw [List.length_map]
  cases ixN xs.length i with
  | none => rfl
  | some j => exact List.getElem?_map

theorem natlit (n : Nat) : ((no_index (OfNat.ofNat n : Nat)) : Int) = (OfNat.ofNat n : Int) := rfl
theorem permG2_10 {β : Type} (a b : β) (l : List β) : permG [1, 0] l [a, b] = [b, a] := rfl
theorem permG3_210 {β : Type} (a b c : β) (l : List β) : permG [2, 1, 0] l [a, b, c] = [c, b, a] := rfl
theorem zl_0 : (0 ≤ sizeLine) = True := eq_true (sz1000 (by decide))
theorem zl_1 : (1 ≤ sizeLine) = True := eq_true (sz1000 (by decide))
theorem zl_2 : (2 ≤ sizeLine) = True := eq_true (sz1000 (by decide))
theorem zl_3 : (3 ≤ sizeLine) = True := eq_true (sz1000 (by decide))
theorem zl_4 : (4 ≤ sizeLine) = True := eq_true (sz1000 (by decide))
theorem zl_5 : (5 ≤ sizeLine) = True := eq_true (sz1000 (by decide))
theorem zl_6 : (6 ≤ sizeLine) = True := eq_true (sz1000 (by decide))
theorem zl_7 : (7 ≤ sizeLine) = True := eq_true (sz1000 (by decide))
theorem zl_8 : (8 ≤ sizeLine) = True := eq_true (sz1000 (by decide))
theorem zl_9 : (9 ≤ sizeLine) = True := eq_true (sz1000 (by decide))
theorem zl_10 : (10 ≤ sizeLine) = True := eq_true (sz1000 (by decide))
theorem zl_11 : (11 ≤ sizeLine) = True := eq_true (sz1000 (by decide))
theorem zl_12 : (12 ≤ sizeLine) = True := eq_true (sz1000 (by decide))
theorem zl_13 : (13 ≤ sizeLine) = True := eq_true (sz1000 (by decide))
theorem zl_14 : (14 ≤ sizeLine) = True := eq_true (sz1000 (by decide))
theorem zl_15 : (15 ≤ sizeLine) = True := eq_true (sz1000 (by decide))
theorem zl_16 : (16 ≤ sizeLine) = True := eq_true (sz1000 (by decide))
theorem zl_17 : (17 ≤ sizeLine) = True := eq_true (sz1000 (by decide))
theorem zl_18 : (18 ≤ sizeLine) = True := eq_true (sz1000 (by decide))
theorem zl_19 : (19 ≤ sizeLine) = True := eq_true (sz1000 (by decide))
theorem zl_20 : (20 ≤ sizeLine) = True := eq_true (sz1000 (by decide))
/-- what is still to be run: U -/
def Nx (u V : Rho → Mu → Prop) : Prop := ∀ ρ μ μ', Mu.Sub μ' μ → u ρ μ' → V ρ μ
theorem Nx.go {u V : Rho → Mu → Prop} {ρ : Rho} {μ : Mu} (h : Nx u V) (q : u ρ μ) : V ρ μ := h ρ μ μ (Mu.Sub.refl μ) q
theorem Nx.fgt {u V : Rho → Mu → Prop} {ρ : Rho} {μ μ' : Mu} (h : Nx u V) (s : Mu.Sub μ' μ) (q : u ρ μ') : V ρ μ := h ρ μ μ' s q
theorem sq {t u : DTS} {D : DEnds} {ρ : Rho} {μ : Mu} (h : ∀ U, Nx (u D) U → t ⟨U, D.rt, D.bk, D.ct⟩ ρ μ) : dSeq t u D ρ μ := h _ fun _ _ μ' s q => ⟨μ', s, q⟩
end Dl
/-! Ev2: comprehensions over a typed list. -/
namespace Dl
open PySem PySem.Spec PyProof.Rows L2
theorem lc_ty {β : Type} {l : List β} {e : β → D} {kp : List (Nat × List D)} {g : DTG} {tt : DTT} {de : DTE} {ρ : Rho} {Q : List D → Mu → Prop} {μ : Mu} (p : β → Bool) (f : β → D) (hh : (⟨l.map e, kp⟩ : Src).held μ) (hs : l.length ≤ 100000)
    (hb : ∀ b, b ∈ l → ∀ μ' (Qy : DK) (Qn : Mu → Prop), Mu.Sub μ μ' → (if p b = true then Qy (f b) μ' else Qn μ') → g (e b) ρ μ' fun ρ2 μ2 => tt ρ2 μ2 fun c μ3 => if c = true then de ρ2 μ3 Qy else Qn μ3)
    (hq : Q ((l.filter p).map f) μ) : lcIn ⟨l.map e, kp⟩ g tt de ρ Q μ := by
  intro k hk
  refine ⟨fun i μ' => μ' = μ.upd k (((l.take i).filter p).map f), rfl, fun i x μ' hi w => ?_, fun μ' w => ?_⟩
  · subst w
    have hi : (l.map e)[i]? = some x := hi
    rw [List.getElem?_map] at hi
    obtain ⟨b, hib, rfl⟩ := Option.map_eq_some_iff.mp hi
    have hx : b ∈ l := List.mem_of_getElem? hib
    have hl : i < l.length := (List.getElem?_eq_some_iff.mp hib).1
    have et : l.take (i + 1) = l.take i ++ [b] := by rw [List.take_add_one, hib]; rfl
    refine ⟨held_upd hh hk, hb b hx _ _ _ (Mu.sub_upd hk) ?_⟩
    cases hp : p b with
    | true =>
      rw [if_pos rfl]
      refine ⟨_, Mu.upd_same, sz_lt ?_, ?_⟩
      · rw [List.length_map]
        have h1 := List.length_filter_le p (l.take i)
        rw [List.length_take] at h1
        omega
      · show _ = μ.upd k (((l.take (i + 1)).filter p).map f)
        rw [Mu.upd_upd, et, List.filter_append, List.map_append, List.filter_cons_of_pos hp]
        rfl
    | false =>
      rw [if_neg (by decide)]
      show _ = μ.upd k (((l.take (i + 1)).filter p).map f)
      rw [et, List.filter_append, List.filter_cons_of_neg (by rw [hp]; decide)]
      simp
  · have w : μ' = μ.upd k (((l.take (l.map e).length).filter p).map f) := w
    subst w
    refine ⟨held_upd hh hk, _, μ, Mu.upd_same, hk, Mu.Sub.refl _, ?_⟩
    rw [List.length_map, List.take_length]
    exact hq
theorem lc_tm {β : Type} {l : List β} {e : β → D} {kp : List (Nat × List D)} {g : DTG} {de : DTE} {ρ : Rho} {Q : List D → Mu → Prop} {μ : Mu} (f : β → D) (hh : (⟨l.map e, kp⟩ : Src).held μ) (hs : l.length ≤ 100000)
    (hb : ∀ b, b ∈ l → ∀ μ' (Qy : DK), Mu.Sub μ μ' → Qy (f b) μ' → g (e b) ρ μ' fun ρ2 μ2 => de ρ2 μ2 Qy)
    (hq : Q (l.map f) μ) : lcIn ⟨l.map e, kp⟩ g dYes de ρ Q μ := by
  refine lc_ty (fun _ => true) f hh hs (fun b hb' μ' Qy Qn hd q => hb b hb' μ' Qy hd q) ?_
  rw [List.filter_eq_self.mpr fun _ _ => rfl]
  exact hq
theorem sAll_ty {β : Type} {l : List β} {b : β → Bool} {μ : Mu} {Q : DK} (h : Q (.bl (l.all b)) μ) : sAll (l.map fun x => .bl (b x)) μ Q := by
  refine ⟨l.map b, by rw [List.map_map]; rfl, ?_⟩
  rw [List.all_map]
  exact h
theorem sAny_ty {β : Type} {l : List β} {b : β → Bool} {μ : Mu} {Q : DK} (h : Q (.bl (l.any b)) μ) : sAny (l.map fun x => .bl (b x)) μ Q := by
  refine ⟨l.map b, by rw [List.map_map]; rfl, ?_⟩
  rw [List.any_map]
  exact h
theorem all_yes {β : Type} (l : List β) : l.all (fun _ => true) = true := by
  induction l with
  | nil => rfl
  | cons a l ih => exact ih
/-! ### what == looks at -/
structure EqOk (μ : Mu) (d : D) (p : PyData) (dep : Nat) : Prop where
  rs : Rs μ d p
  cl : p.canLay0 = true
  dp : p.depth ≤ dep
structure EqAll (μ : Mu) (ds : List D) (ps : List PyData) (dep : Nat) : Prop where
  rs : RsAll μ ds ps
  cl : PyData.canLayAll0 ps = true
  dp : PyData.depthAll ps ≤ dep
section
variable {μ : Mu}
theorem EqOk.int (i : Int) : EqOk μ (.int i) (.int i) 0 := ⟨.int i, rfl, by simp [PyData.depth]⟩
theorem EqOk.bl (b : Bool) : EqOk μ (.bl b) (.bool b) 0 := ⟨.bl b, rfl, by simp [PyData.depth]⟩
theorem EqOk.non : EqOk μ .non .none 0 := ⟨.non, rfl, by simp [PyData.depth]⟩
theorem EqAll.nil : EqAll μ [] [] 0 := ⟨.nil, rfl, by simp [PyData.depthAll]⟩
theorem EqAll.cons {d : D} {ds : List D} {p : PyData} {ps : List PyData} {a : Nat} (h : EqOk μ d p a) (t : EqAll μ ds ps a) : EqAll μ (d :: ds) (p :: ps) a := by
  refine ⟨.cons h.rs t.rs, ?_, ?_⟩
  · simp only [PyData.canLayAll0, h.cl, t.cl, Bool.and_self]
  · have h1 := h.dp
    have h2 := t.dp
    simp only [PyData.depthAll]
    omega
theorem EqAll.emp {a : Nat} : EqAll μ [] [] a := ⟨.nil, rfl, by simp [PyData.depthAll]⟩
theorem EqOk.mono {d : D} {p : PyData} {a b : Nat} (h : EqOk μ d p a) (hb : a ≤ b) : EqOk μ d p b := ⟨h.rs, h.cl, Nat.le_trans h.dp hb⟩
theorem EqOk.tup {ds : List D} {ps : List PyData} {a : Nat} (h : EqAll μ ds ps a) : EqOk μ (.tup ds) (.tuple ps) (a + 1) := by
  refine ⟨.tup h.rs, ?_, ?_⟩
  · simp only [PyData.canLay0, h.cl]
  · have := h.dp
    simp only [PyData.depth]
    omega
theorem EqOk.lst {k : Nat} {ds : List D} {ps : List PyData} {a : Nat} (e : μ k = some ds) (h : EqAll μ ds ps a) : EqOk μ (.cell k) (.list ps) (a + 1) := by
  refine ⟨.cell e h.rs, ?_, ?_⟩
  · simp only [PyData.canLay0, h.cl]
  · have := h.dp
    simp only [PyData.depth]
    omega
theorem EqAll.map {β : Type} {f : β → D} {g : β → PyData} {a : Nat} : ∀ {xs : List β}, (∀ x, x ∈ xs → EqOk μ (f x) (g x) a) → EqAll μ (xs.map f) (xs.map g) a
  | [], _ => .emp
  | x :: xs, h => .cons (h x (List.mem_cons_self ..)) (EqAll.map fun y hy => h y (List.mem_cons_of_mem _ hy))
theorem ask_deep {neg : Bool} {x y : D} {p q : PyData} {a b : Nat} {Q : DK} (h1 : EqOk μ x p a) (h2 : EqOk μ y q b) (ha : a ≤ 64) (hb : b ≤ 64) (k : Q (.bl (if neg = true then !PyData.eqv p q else PyData.eqv p q)) μ) : deepEq neg x y μ Q :=
  ⟨p, q, h1.rs, h2.rs, by unfold SeqAt.shaped; rw [h1.cl, decide_eq_true (Nat.le_trans h1.dp ha)]; rfl, by unfold SeqAt.shaped; rw [h2.cl, decide_eq_true (Nat.le_trans h2.dp hb)]; rfl, k⟩
theorem ask_same {x y : D} {p : PyData} {a : Nat} {Q : DK} (h1 : EqOk μ x p a) (h2 : EqOk μ y p a) (ha : a ≤ 64) (k : Q (.bl false) μ) : deepEq true x y μ Q := by
  refine ask_deep h1 h2 ha ha ?_
  rw [if_pos rfl, SeqAt.eqv_refl p h1.cl]
  exact k
end
end Dl
/-! Rp: what repr shows, by data. -/
namespace Dl
open PySem PySem.Spec PyProof.Rows L2
structure RpOk (μ : Mu) (d : D) (p : PyData) (n dep : Nat) : Prop where
  rs : Rs μ d p
  sh : p.showable = true
  nd : p.hasDict = false
  ls : p.leavesShort 24 = true
  bk : p.bulk ≤ n
  dp : p.depth ≤ dep
structure RpAll (μ : Mu) (ds : List D) (ps : List PyData) (n dep : Nat) : Prop where
  rs : RsAll μ ds ps
  sh : PyData.showableAll ps = true
  nd : PyData.hasDictAll ps = false
  ls : PyData.leavesShortAll 24 ps = true
  bk : PyData.bulkAll ps ≤ n
  dp : PyData.depthAll ps ≤ dep
section
variable {μ : Mu}
theorem RpOk.non : RpOk μ .non .none 0 0 := ⟨.non, by simp [PyData.showable], by simp [PyData.hasDict], by simp [PyData.leavesShort], by simp [PyData.bulk], by simp [PyData.depth]⟩
theorem RpOk.bl (b : Bool) : RpOk μ (.bl b) (.bool b) 0 0 := ⟨.bl b, by simp [PyData.showable], by simp [PyData.hasDict], by simp [PyData.leavesShort], by simp [PyData.bulk], by simp [PyData.depth]⟩
theorem log_of {n : Nat} (h : n < 10 ^ 22) : n.log2 < 1920 := by
  rcases Nat.eq_zero_or_pos n with rfl | h0
  · decide
  · exact (Nat.log2_lt (by omega)).mpr (Nat.lt_trans h (by decide))
theorem RpOk.int {i : Int} (h : i.natAbs < 10 ^ 22) : RpOk μ (.int i) (.int i) 0 0 := ⟨.int i, by simp only [PyData.showable]; exact decide_eq_true (log_of h), by simp [PyData.hasDict], by
  simp only [PyData.leavesShort]
  refine decide_eq_true ?_
  have := PySem.int_text_length_le10 (a := i) (k := 22) (by decide) h
  have e := PySem.ofString_length (toString i)
  show (Str.ofString (toString i)).length ≤ 24
  omega, by simp [PyData.bulk], by simp [PyData.depth]⟩
theorem RpOk.str {x : Str} (h : (x.cps.toList.all fun c => decide (c < 16 ^ 8)) = true) : RpOk μ (.str x) (.str x) x.cps.size 0 := ⟨.str x, by simp [PyData.showable], by simp [PyData.hasDict], by simp only [PyData.leavesShort]; exact h, by simp [PyData.bulk], by simp [PyData.depth]⟩
theorem RpOk.mono {d : D} {p : PyData} {n dep n' dep' : Nat} (h : RpOk μ d p n dep) (hn : n ≤ n') (hd : dep ≤ dep') : RpOk μ d p n' dep' := ⟨h.rs, h.sh, h.nd, h.ls, Nat.le_trans h.bk hn, Nat.le_trans h.dp hd⟩
theorem RpAll.nil : RpAll μ [] [] 0 0 := ⟨.nil, by simp [PyData.showableAll], by simp [PyData.hasDictAll], by simp [PyData.leavesShortAll], by simp [PyData.bulkAll], by simp [PyData.depthAll]⟩
theorem RpAll.cons {d : D} {ds : List D} {p : PyData} {ps : List PyData} {n m a b : Nat} (h : RpOk μ d p n a) (t : RpAll μ ds ps m b) : RpAll μ (d :: ds) (p :: ps) (n + 1 + m) (max a b) := by
  refine ⟨.cons h.rs t.rs, ?_, ?_, ?_, ?_, ?_⟩
  · simp only [PyData.showableAll, h.sh, t.sh, Bool.and_self]
  · simp only [PyData.hasDictAll, h.nd, t.nd, Bool.or_self]
  · simp only [PyData.leavesShortAll, h.ls, t.ls, Bool.and_self]
  · have h1 := h.bk
    have h2 := t.bk
    simp only [PyData.bulkAll]
    omega
  · have h1 := h.dp
    have h2 := t.dp
    simp only [PyData.depthAll]
    omega
theorem RpOk.tup {ds : List D} {ps : List PyData} {n dep : Nat} (h : RpAll μ ds ps n dep) : RpOk μ (.tup ds) (.tuple ps) n (dep + 1) := by
  refine ⟨.tup h.rs, ?_, ?_, ?_, ?_, ?_⟩
  · simp only [PyData.showable, h.sh]
  · simp only [PyData.hasDict, h.nd]
  · simp only [PyData.leavesShort, h.ls]
  · simp only [PyData.bulk]
    exact h.bk
  · have := h.dp
    simp only [PyData.depth]
    omega
theorem RpOk.lst {k : Nat} {ds : List D} {ps : List PyData} {n dep : Nat} (e : μ k = some ds) (h : RpAll μ ds ps n dep) : RpOk μ (.cell k) (.list ps) n (dep + 1) := by
  refine ⟨.cell e h.rs, ?_, ?_, ?_, ?_, ?_⟩
  · simp only [PyData.showable, h.sh]
  · simp only [PyData.hasDict, h.nd]
  · simp only [PyData.leavesShort, h.ls]
  · simp only [PyData.bulk]
    exact h.bk
  · have := h.dp
    simp only [PyData.depth]
    omega
theorem RpAll.map {β : Type} {f : β → D} {g : β → PyData} {c dep : Nat} : ∀ {xs : List β}, (∀ x, x ∈ xs → RpOk μ (f x) (g x) c dep) → RpAll μ (xs.map f) (xs.map g) (xs.length * (c + 1)) dep
  | [], _ => by
    have := RpAll.nil (μ := μ)
    exact ⟨this.rs, this.sh, this.nd, this.ls, Nat.le_trans this.bk (Nat.zero_le _), Nat.le_trans this.dp (Nat.zero_le _)⟩
  | x :: xs, h => by
    have h1 := RpAll.cons (h x (List.mem_cons_self ..)) (RpAll.map fun y hy => h y (List.mem_cons_of_mem _ hy))
    refine ⟨h1.rs, h1.sh, h1.nd, h1.ls, Nat.le_trans h1.bk ?_, Nat.le_trans h1.dp (by omega)⟩
    rw [List.length_cons, Nat.add_mul]
    omega
theorem ask_repr {d : D} {p : PyData} {n dep : Nat} {Q : DK} (h : RpOk μ d p n dep) (hd : isDisplay p = true) (h1 : n ≤ 500000) (h2 : dep ≤ 60) (q : Q (.str p.shown) μ) : cRepr [d] μ Q := by
  refine ⟨p, h.rs, hd, h.sh, h.nd, Nat.le_trans h.dp h2, ?_, q⟩
  have a := PyData.shown_le_bulk 24 (by decide) p h.ls
  have b := h.bk
  have e : (24 + 2) * p.bulk + 24 ≤ 13000024 := by omega
  have s : 13000024 ≤ sizeLine := by decide
  omega
end
end Dl
/-! End: a law's end, from its promise over data; the module's names off the head's facts. -/
namespace Dl
open PySem PySem.Spec PyProof.Rows L2

/-- the only thing followed is a list at a, which never changes -/
structure Lone (K : PySem.W.Frag) (a : Addr) (H : Hp) : Prop where
  off : ∀ b, b ≠ a → H b = none
  on : ∀ u, H a = some u → K.lookup a = none ∧ ∃ ob xs, u = .frz ob (.lst xs)

theorem call_end {P : Program} {w : World} {K : PySem.W.Frag} {mg mb : Str → Option Value} {k : Nat} {f a : Addr} {fd : FuncData} {x : Str} {sp : DSp} {s : Shared} {ws : List Value} {ns : List Int}
    (hK : K.In s.heap) (h1 : s.heap.Ns mainGlobals mg) (h2 : s.heap.Ns builtinsNs mb) (h3 : ∀ y : Str, y ≠ "__name__" → mb y = bootBuiltins y) (h4 : s.heap.NoLimit) (h5 : s.gens = #[])
    (at_ : s.heap.get? a = some { cls := .type "list", data := .seq ws.toArray }) (iv : IntsAre ws ns) (hr : Room k callerA) (bd : BindsTo s fd ⟨[.ref a], []⟩ [(x, .ref a)])
    (F : ∀ base : Heap, FnG P w K mg base k f fd [x] sp) (hsp : ∀ Q : DK, (∀ μ, Q (.bl true) μ) → sp [.frz (ns.map D.int)] (fun _ => none) Q)
    {H : Hp} (lone : Lone K a H) (hok : HOk P w H s.heap) (fz : FrzL K H a (ns.map V.int)) :
    codeAny (model P w) callerA (.call (.ref f) ⟨[.ref a], []⟩) (fun r s' => r = .ok (.ret (.bool true)) ∧ OldK s.heap s'.heap ∧ s'.os = s.os ∧ AllBare s'.gens) s := by
  have dict0 : ∀ b ob es ep, s.heap.get? b = some ob → ob.data = .dict es ep → H b = none := by
    intro b ob es ep e d
    by_cases q : b = a
    · rw [q, at_] at e
      rw [← Option.some.inj e] at d
      cases d
    · exact lone.off b q
  have ns_ : ∀ {b : Addr} {m : Str → Option Value}, s.heap.Ns b m → (hidT s.heap H).Ns b m := by
    rintro b m ⟨ob, es, ep, e, d, r⟩
    exact ⟨ob, es, ep, hidT_get e (dict0 b ob es ep e d), d, r⟩
  have kin : K.In (hidT s.heap H) := by
    intro b ob e
    refine hidT_get (hK b ob e) ?_
    by_cases q : b = a
    · cases hu : H b with
      | none => rfl
      | some u =>
        rw [q] at hu e
        rw [(lone.on u hu).1] at e
        cases e
    · exact lone.off b q
  have md : Mod K mg (hidT s.heap H) := by
    obtain ⟨mc, l1, l2⟩ := h4
    exact ⟨kin, ns_ h1, ⟨mb, ns_ h2, h3⟩, mc, ns_ l1, l2⟩
  have no0 : ∀ b, b ∉ frs ([] : List Env) := fun b z => by cases z
  have e0 : Env0 P w K mg (hidT s.heap H) callerA [] s H :=
    { frames := rfl, mod := md, bs := fun b ob e => of_hidT e, bsz := by rw [hidT_size]; exact Nat.le_refl _, funs := trivial, frf := fun b z => (no0 b z).elim, hok := hok, bare := .of_eq h5 }
  have sat : Sat K [] H (fun _ => none) :=
    { cell := fun k xs e => (by cases e), inj := fun j k b e => (by rw [List.getElem?_nil] at e; cases e), live := fun k b e => (by rw [List.getElem?_nil] at e; cases e) }
  have run := (F (hidT s.heap H)).run callerA [] s H ⟨[.ref a], []⟩ [.ref a] [.ref a] [] (fun _ => none) [.frz (ns.map D.int)] (fun d _ => d = .bl true) (fun v _ => v = .bl true) hr rfl e0 rfl bd (.cons rfl .nil) sat
    (.cons (.frz fz (rlInts ns)) .nil) (hsp _ fun _ => rfl) (by
      intro v H' α' μ' d _ _ r e
      subst e
      cases r
      rfl)
  refine codeAny_mono run fun r s' h => ?_
  match r, h with
  | .error e, h => exact h.elim
  | .ok (.ret u), ⟨v, H', os, bare, un, hok', rv, e⟩ =>
    subst e
    have eu : u = Value.bool true := rv
    rw [eu]
    refine ⟨rfl, OldK.of_keep fun b ob q => ?_, os, bare⟩
    cases hu : H b with
    | none => exact un.keep b ob q hu (no0 b) (fun z => by cases z)
    | some v =>
      by_cases qa : b = a
      · rw [qa] at hu q ⊢
        obtain ⟨_, oz, xs, rfl⟩ := lone.on v hu
        have p1 := (hok a _ hu).1
        have p2 := (hok' a _ (un.frzs a oz _ hu)).1
        rw [q] at p1
        rw [Option.some.inj p1]
        exact p2
      · rw [lone.off b qa] at hu
        cases hu
theorem call_law {P : Program} {w : World} {K : PySem.W.Frag} {mg mb : Str → Option Value} {k : Nat} {f a : Addr} {fd : FuncData} {x : Str} {sp : DSp} {s : Shared} {ws : List Value} {ns : List Int}
    (hK : K.In s.heap) (h1 : s.heap.Ns mainGlobals mg) (h2 : s.heap.Ns builtinsNs mb) (h3 : ∀ y : Str, y ≠ "__name__" → mb y = bootBuiltins y) (h4 : s.heap.NoLimit) (h5 : s.gens = #[])
    (at_ : s.heap.get? a = some { cls := .type "list", data := .seq ws.toArray }) (iv : IntsAre ws ns) (hl : ns.length ≤ sizeLine) (hr : Room k callerA) (bd : BindsTo s fd ⟨[.ref a], []⟩ [(x, .ref a)])
    (F : ∀ base : Heap, FnG P w K mg base k f fd [x] sp) (hsp : ∀ Q : DK, (∀ μ, Q (.bl true) μ) → sp [.frz (ns.map D.int)] (fun _ => none) Q) :
    codeAny (model P w) callerA (.call (.ref f) ⟨[.ref a], []⟩) (fun r s' => r = .ok (.ret (.bool true)) ∧ OldK s.heap s'.heap ∧ s'.os = s.os ∧ AllBare s'.gens) s := by
  have rv := vals_ints iv
  cases hk : K.lookup a with
  | some ob =>
    have e := hK a ob hk
    rw [at_] at e
    cases e
    refine call_end hK h1 h2 h3 h4 h5 at_ iv hr bd F hsp (H := fun _ => none) ⟨fun _ _ => rfl, fun u z => by cases z⟩ (fun b u z => by cases z) (.inr (.inr ⟨_, ws.toArray, _, hk, rfl, rfl, rfl, ?_, ?_⟩))
    · rw [List.size_toArray, iv.length]
      exact hl
    · simpa using rv
  | none =>
    refine call_end hK h1 h2 h3 h4 h5 at_ iv hr bd F hsp (H := upd (fun _ => none) a (.frz { cls := .type "list", data := .seq ws.toArray } (.lst (ns.map V.int)))) ⟨fun b q => L2.upd_ne q, fun u z => ?_⟩ (fun b u z => ?_) (.inl ⟨_, L2.upd_same⟩)
    · rw [L2.upd_same] at z
      exact ⟨hk, _, _, (Option.some.inj z).symm⟩
    · by_cases q : b = a
      · subst q
        rw [L2.upd_same] at z
        cases z
        exact ⟨at_, by rw [List.length_map]; exact hl, ws, _, rv, at_⟩
      · rw [L2.upd_ne q] at z
        cases z

/-! ### the head's facts -/
/-- a def of the top, of no default -/
def mkD (p : Str × Stmt) : He.DefD := ⟨(p.1, none), p.1, p.1, defArgs p.2, defBody p.2, defScope p.2, [], []⟩
theorem txt_of {K : PySem.W.Frag} {h : Heap} {mg : Str → Option Value} (X : K.In h) (G : h.Ns mainGlobals mg) {fa : List He.Fa} {fn : List He.DefD} (c : He.SaysD fa fn K) {x : Str} {st : Stmt} (i j : Nat)
    (hi : fn[i]? = some (mkD (x, st))) (hj : fa[j]? = some (.glo x)) : Txt K mg x st := by
  obtain ⟨fd, F⟩ := c.def_ i hi
  have g := He.glo_ok X G (c.fact j hj)
  obtain ⟨oc, od, dV, kV, doc, pm, an, cdv, ct, osl, e, lk, hcd, hD, hKw⟩ := F.ex
  have e0 : dV = .none := by
    rcases hD with ⟨_, q⟩ | ⟨q, _⟩
    · exact q
    · exact (q rfl).elim
  subst e0
  exact ⟨_, fd, g, ⟨oc, od, kV, doc, pm, an, cdv, ct, osl, e, lk, hcd⟩, F.kp⟩
theorem gc_int {K : PySem.W.Frag} {h : Heap} {mg : Str → Option Value} (X : K.In h) (G : h.Ns mainGlobals mg) {fa : List He.Fa} {fn : List He.DefD} (c : He.SaysD fa fn K) {x : Str} {n : Int} (j : Nat) (hj : fa[j]? = some (.int x n)) : Gc K mg x (.int n) := by
  obtain ⟨t, e⟩ := He.int_ok X G (c.fact j hj)
  exact ⟨.int n, _, e, ⟨t, rfl⟩, fun _ _ => .int n⟩
theorem gc_str {K : PySem.W.Frag} {h : Heap} {mg : Str → Option Value} (X : K.In h) (G : h.Ns mainGlobals mg) {fa : List He.Fa} {fn : List He.DefD} (c : He.SaysD fa fn K) {x z : Str} (j : Nat) (hj : fa[j]? = some (.str x z)) : Gc K mg x (.str z) := by
  obtain ⟨t, e⟩ := He.str_ok X G (c.fact j hj)
  exact ⟨.str z, _, e, ⟨t, rfl⟩, fun _ _ => .str z⟩
theorem walk_ofD {l : PySem.W.OpenLaw} {n k : Nat} {q : Program} {loose : List Str} {XP : (Str → Option Value) → Heap → Prop} {YP : World → Heap → Prop} {d : DefRec} {x : Str} {st : Stmt} {sp : DSp}
    (hn : l.most = some n) (hn2 : n ≤ sizeLine) (hdf : d.params.defaults = []) (hr : Room k callerA)
    (F : ∀ (w : World) (mg : Str → Option Value) (h : Heap), YP w h → h.Ns mainGlobals mg →
      ∃ K : PySem.W.Frag, K.In h ∧ ∀ base, Has l.prog w K mg base k d.name st [x] sp)
    (bd : ∀ (kV doc pm : Value) (an : Option Addr) (cdv ct u : Value), bindArgs (PySem.W.fnOf d.name d.name (defArgs st) (defBody st) (defScope st) .none kV doc pm an cdv ct) ⟨[u], []⟩ = pure [(x, u)])
    (hsp : ∀ (ns : List Int) (Q : DK), ns.length ≤ n → (∀ μ, Q (.bl true) μ) → sp [.frz (ns.map D.int)] (fun _ => none) Q) :
    PySem.W.WalkO q loose XP YP l.row.toRowW d [] (fun f vs => PySem.call f vs) := by
  refine Att.attach_call hn hdf fun w s₀ s₁ mg mb fa o pm cd doc a vs ns G Y ho hd hcd hmg hobj hints hlen hg => ?_
  obtain ⟨K, X, hF⟩ := F w mg _ Y G.T.g
  obtain ⟨f0, fd0, m0, Fn0, _⟩ := (hF s₁.heap).ex
  have ef : f0 = fa := by
    rw [hmg] at m0
    cases m0
    rfl
  subst ef
  have all : ∀ base, FnG l.prog w K mg base k f0 fd0 [x] sp := by
    intro base
    obtain ⟨f1, fd1, m1, Fn1, R1⟩ := (hF base).ex
    rw [m0] at m1
    cases m1
    obtain ⟨oc, od, kV, doc, pm, an, cdv, ct, osl, rfl, lk, _⟩ := Fn0.ex
    obtain ⟨oc1, od1, kV1, doc1, pm1, an1, cdv1, ct1, osl1, rfl, lk1, _⟩ := Fn1.ex
    rw [lk] at lk1
    cases lk1
    exact R1
  have b0 : BindsTo s₁ fd0 ⟨[.ref a], []⟩ [(x, .ref a)] := by
    obtain ⟨oc, od, kV, doc, pm, an, cdv, ct, osl, rfl, lk, _⟩ := Fn0.ex
    exact .of_eq (bd kV doc pm an cdv ct (.ref a))
  exact call_law X G.T.g G.T.b G.T.builtins G.T.nolimit hg hobj hints (Nat.le_trans hlen hn2) hr b0 all fun Q hQ => hsp ns Q hlen hQ
end Dl
namespace K12
open PySem PySem.Spec PyProof.Rows L2 Dl
local macro_rules | `(tactic| walk_at "ev") => `(tactic| try simp -dsimp only [↓dSeq_at, dRet, dRetN, dNext, dIfS, dAsg, dDrop, dPar, dNever, dVar, dC, dOp, dUn, dTest, dChain, dAnd, dOr, dNot, dIf, dtAnd, dtOr, dtNot, dTup, daNil, daCons, dCall, dFn, dFnK, dNew, dLst, dOf,
  gdName, gdTup, gdCons, gdNil, gdSub, rdI, rdI0, oPlus, oSub, oTimes, oDiv, oMod, oPow, oLt, oLe, oGt, oGe, oIx, oEq, oNe, uNeg, oIsN, oNotN, D.isNon, cAbs, cMax, cMin, cInt, cDivmod, cLen, cIsi, tyD, items, litems, retD, sTup, mApp, dYes,
  atI_0, atI_1, atI_2, atI_3, atI_4, ixN_20, ixN_21, kit_ii, kit_ib, kit_is, kit_it, kit_il, kit_bi, kit_bb, kit_bs, kit_bt, kit_bl, kit_si, kit_sb, kit_ss, kit_st, kit_sl, kit_ti, kit_tb, kit_ts, kit_tt, kit_tl, kit_li, kit_lb, kit_ls, kit_lt, kit_ll,
  List.getElem?_cons_zero, List.getElem?_cons_succ, List.set_cons_zero, List.set_cons_succ, List.length_cons, List.length_nil, Mu.upd_same, Mu.upd_upd, Nat.zero_add, Nat.reduceAdd, Nat.reduceLeDiff, natlit, Int.reduceEq, Int.reduceLT, Int.reduceLE, Int.reduceAdd, Int.reduceSub, Int.reduceMul, Int.reducePow, Int.reduceNeg, permG2_10, permG3_210, zl_0, zl_1, zl_2, zl_3, zl_4, zl_5, zl_6, zl_7, zl_8, zl_9, zl_10, zl_11, zl_12, zl_13, zl_14, zl_15, zl_16, zl_17, zl_18, zl_19, zl_20, true_and, and_true, eq_self, not_true_eq_false, not_false_eq_true, decide_true, decide_false, if_true, Bool.false_eq_true, if_false, Bool.not_true, Bool.not_false, decide_eq_true_eq, Bool.not_eq_true', decide_eq_false_iff_not, Option.isSome, Option.map])
/-! ## numbers -/
theorem gcd_step (a b : Int) (hb : 0 < b) : Int.gcd b (a % b) = Int.gcd a b := by
  have h := Int.gcd_add_mul_right_right b (a % b) (a / b)
  rw [Int.mul_comm (a / b) b, Int.emod_add_mul_ediv] at h
  rw [← h, Int.gcd_comm]
/-- in lowest terms -/
def low (t b : Int) : Int × Int := (t / (Int.gcd t b : Int), b / (Int.gcd t b : Int))
def fr (p : Int × Int) : D := .tup [.int p.1, .int p.2]
theorem gcd_pos {t b : Int} (hb : 0 < b) : 0 < (Int.gcd t b : Int) := by
  have h : 0 < Int.gcd t b := Int.gcd_pos_of_ne_zero_right t (by omega)
  omega
theorem gcd_le {t b : Int} (hb : 0 < b) : (Int.gcd t b : Int) ≤ b := Int.le_of_dvd hb (Int.gcd_dvd_right t b)
theorem max_gcd {t b : Int} (hb : 0 < b) : max 1 (Int.gcd t b : Int) = Int.gcd t b := by
  have := gcd_pos (t := t) hb
  omega
/-! ## the divisor -/
def sp_common : DSp := fun ds μ Q => match ds with | [.int a, .int b] => (0 ≤ a ∧ 0 ≤ b) ∧ Q (.int (max 1 (Int.gcd a b : Int))) μ | _ => False
theorem len_common : ∀ ds μ Q, sp_common ds μ Q → ds.length = (["near", "far"] : List Str).length := by
  intro ds μ Q h
  unfold sp_common at h
  split at h <;> first | rfl | exact h.elim
def db_common : DTS := (dSeq (dWhile (dTest (dOp oGt (dVar 1) (dC (.int 0)))) (dPar 0 1 (daCons (dVar 1) (daCons (dOp oMod (dCall cInt (daCons (dVar 0) daNil)) (dVar 1)) daNil)))) (dRet (dCall cMax (daCons (dC (.int 1)) (daCons (dVar 0) daNil)))))
theorem gcd_while (a b : Int) (ha : 0 ≤ a) (hb : 0 ≤ b) (μ : Mu) (dc : DTT) (db : DTS) (D : DEnds)
    (hc : ∀ x y : Int, ∀ Q, Q (decide (0 < y)) μ → dc [some (.int x), some (.int y)] μ Q)
    (hbd : ∀ (x y : Int) (D : DEnds), 0 < y → D.nx [some (.int y), some (.int (x % y))] μ → db D [some (.int x), some (.int y)] μ)
    (h : D.nx [some (.int (Int.gcd a b : Int)), some (.int 0)] μ) : dWhile dc db D [some (.int a), some (.int b)] μ := by
  refine ⟨fun ρ' μ' => μ' = μ ∧ ∃ x y : Int, ρ' = [some (.int x), some (.int y)] ∧ 0 ≤ x ∧ 0 ≤ y ∧ Int.gcd x y = Int.gcd a b,
    fun ρ' _ => match ρ' with | [_, some (.int y)] => y.toNat | _ => 0, ⟨rfl, a, b, rfl, ha, hb, rfl⟩, fun ρ' μ' w => ?_⟩
  obtain ⟨rfl, x, y, rfl, hx, hy, hg⟩ := w
  refine hc x y _ ?_
  by_cases h0 : 0 < y
  · rw [decide_eq_true h0, if_pos rfl]
    refine hbd x y _ h0 ?_
    have h1 := Int.emod_nonneg x (show y ≠ 0 by omega)
    have h2 := Int.emod_lt_of_pos x h0
    refine ⟨⟨rfl, y, x % y, rfl, by omega, h1, ?_⟩, ?_⟩
    · rw [gcd_step x y h0, hg]
    · show (x % y).toNat < y.toNat
      omega
  · rw [decide_eq_false h0, if_neg (by decide)]
    have e : y = 0 := by omega
    subst e
    rw [Int.gcd_zero_right] at hg
    have e2 : x = (Int.gcd a b : Int) := by omega
    rw [e2]
    exact h
theorem pf_common : ∀ ds μ Q, sp_common ds μ Q → db_common (retD Q) (startD ["near", "far"] ds) μ := by
  intro ds μ Q h
  unfold sp_common at h
  split at h
  · rename_i a b
    obtain ⟨⟨ha, hb⟩, h⟩ := h
    refine gcd_while a b ha hb μ _ _ _ (fun x y Q q => ?_) (fun x y D hy q => ?_) ?_
    · walk_at "ev"
      exact q
    · walk_at "ev"
      exact ⟨hy, q⟩
    · refine ⟨_, Mu.Sub.refl _, ?_⟩
      walk_at "ev"
      exact ⟨_, Mu.Sub.refl _, h⟩
  · exact h.elim
def sp_law_divisor : DSp := fun ds μ Q => match ds with | [.int a, .int b] => (0 ≤ a ∧ 0 ≤ b) ∧ Q (.int (max 1 (Int.gcd a b : Int))) μ | _ => False
theorem len_law_divisor : ∀ ds μ Q, sp_law_divisor ds μ Q → ds.length = (["near", "far"] : List Str).length := by
  intro ds μ Q h
  unfold sp_law_divisor at h
  split at h <;> first | rfl | exact h.elim
def db_law_divisor : DTS := (dSeq (dWhile (dTest (dOp oGt (dVar 1) (dC (.int 0)))) (dPar 0 1 (daCons (dVar 1) (daCons (dCall cInt (daCons (dOp oMod (dVar 0) (dVar 1)) daNil)) daNil)))) (dRet (dCall cMax (daCons (dC (.int 1)) (daCons (dVar 0) daNil)))))
theorem pf_law_divisor : ∀ ds μ Q, sp_law_divisor ds μ Q → db_law_divisor (retD Q) (startD ["near", "far"] ds) μ := by
  intro ds μ Q h
  unfold sp_law_divisor at h
  split at h
  · rename_i a b
    obtain ⟨⟨ha, hb⟩, h⟩ := h
    refine gcd_while a b ha hb μ _ _ _ (fun x y Q q => ?_) (fun x y D hy q => ?_) ?_
    · walk_at "ev"
      exact q
    · walk_at "ev"
      exact ⟨hy, q⟩
    · refine ⟨_, Mu.Sub.refl _, ?_⟩
      walk_at "ev"
      exact ⟨_, Mu.Sub.refl _, h⟩
  · exact h.elim
/-! ## lowest terms -/
theorem gcd_abs (t b : Int) : Int.gcd (t.natAbs : Int) b = Int.gcd t b := by
  show Nat.gcd (Int.natAbs (t.natAbs : Int)) b.natAbs = Nat.gcd t.natAbs b.natAbs
  rw [Int.natAbs_natCast]
def sp_lowest : DSp := fun ds μ Q => match ds with | [.int t, .int b] => (0 < b ∧ b < 2 ^ 200) ∧ Q (fr (low t b)) μ | _ => False
theorem len_lowest : ∀ ds μ Q, sp_lowest ds μ Q → ds.length = (["top", "bottom"] : List Str).length := by
  intro ds μ Q h
  unfold sp_lowest at h
  split at h <;> first | rfl | exact h.elim
def db_lowest : DTS := (dSeq (dAsg (dFn sp_common (daCons (dCall cAbs (daCons (dVar 0) daNil)) (daCons (dVar 1) daNil))) (gdName 2)) (dRet (dTup (daCons (dOp oDiv (dVar 0) (dVar 2)) (daCons (dOp oDiv (dVar 1) (dVar 2)) daNil)))))
theorem pf_lowest : ∀ ds μ Q, sp_lowest ds μ Q → db_lowest (retD Q) (startD ["top", "bottom", "many"] ds) μ := by
  intro ds μ Q h
  unfold sp_lowest at h
  split at h
  · rename_i t b
    obtain ⟨⟨h0, h1⟩, h⟩ := h
    show db_lowest (retD Q) [some (.int t), some (.int b), none] μ
    unfold db_lowest
    refine sq fun U hU => ?_
    walk_at "ev"
    refine ⟨⟨by omega, by omega⟩, ?_⟩
    refine hU.go ?_
    walk_at "ev"
    have e : Int.gcd (t.natAbs : Int) b = Int.gcd t b := by
      show Nat.gcd (Int.natAbs (t.natAbs : Int)) b.natAbs = Nat.gcd t.natAbs b.natAbs
      rw [Int.natAbs_natCast]
    have hp := gcd_pos (t := t) h0
    have hl := gcd_le (t := t) h0
    rw [e, max_gcd h0]
    exact ⟨div_ok hp (by omega), div_ok hp (by omega), μ, Mu.Sub.refl _, h⟩
  · exact h.elim
def sp_law_lowest : DSp := fun ds μ Q => match ds with | [.int t, .int b] => (0 ≤ t ∧ 0 < b ∧ b < 2 ^ 200) ∧ Q (fr (low t b)) μ | _ => False
theorem len_law_lowest : ∀ ds μ Q, sp_law_lowest ds μ Q → ds.length = (["top", "bottom"] : List Str).length := by
  intro ds μ Q h
  unfold sp_law_lowest at h
  split at h <;> first | rfl | exact h.elim
def db_law_lowest : DTS := (dSeq (dAsg (dFn sp_law_divisor (daCons (dVar 0) (daCons (dVar 1) daNil))) (gdName 2)) (dRet (dTup (daCons (dOp oDiv (dVar 0) (dVar 2)) (daCons (dOp oDiv (dVar 1) (dVar 2)) daNil)))))
theorem pf_law_lowest : ∀ ds μ Q, sp_law_lowest ds μ Q → db_law_lowest (retD Q) (startD ["top", "bottom", "many"] ds) μ := by
  intro ds μ Q h
  unfold sp_law_lowest at h
  split at h
  · rename_i t b
    obtain ⟨⟨ht, h0, h1⟩, h⟩ := h
    show db_law_lowest (retD Q) [some (.int t), some (.int b), none] μ
    unfold db_law_lowest
    refine sq fun U hU => ?_
    walk_at "ev"
    refine ⟨⟨by omega, by omega⟩, ?_⟩
    refine hU.go ?_
    walk_at "ev"
    have hp := gcd_pos (t := t) h0
    have hl := gcd_le (t := t) h0
    rw [max_gcd h0]
    exact ⟨div_ok hp (by omega), div_ok hp (by omega), μ, Mu.Sub.refl _, h⟩
  · exact h.elim
/-! ## kinds -/
def sp_is_integer : DSp := fun ds μ Q => match ds with | [.int _] => Q (.bl true) μ | _ => False
theorem len_is_integer : ∀ ds μ Q, sp_is_integer ds μ Q → ds.length = (["value"] : List Str).length := by
  intro ds μ Q h
  unfold sp_is_integer at h
  split at h <;> first | rfl | exact h.elim
def db_is_integer : DTS := (dRet (dAnd (dCall cIsi (daCons (dVar 0) (daCons (dC (.ty "int")) daNil))) (dNot (dCall cIsi (daCons (dVar 0) (daCons (dC (.ty "bool")) daNil))))))
theorem pf_is_integer : ∀ ds μ Q, sp_is_integer ds μ Q → db_is_integer (retD Q) (startD ["value"] ds) μ := by
  intro ds μ Q h
  unfold sp_is_integer at h
  split at h
  · rename_i t
    show db_is_integer (retD Q) [some (.int t)] μ
    unfold db_is_integer
    walk_at "ev"
    exact ⟨μ, Mu.Sub.refl _, h⟩
  · exact h.elim
def sp_is_tuple : DSp := fun ds μ Q => match ds with | [.tup xs, .int n] => Q (.bl (decide ((xs.length : Int) = n))) μ | _ => False
theorem len_is_tuple : ∀ ds μ Q, sp_is_tuple ds μ Q → ds.length = (["value", "many"] : List Str).length := by
  intro ds μ Q h
  unfold sp_is_tuple at h
  split at h <;> first | rfl | exact h.elim
def db_is_tuple : DTS := (dRet (dAnd (dCall cIsi (daCons (dVar 0) (daCons (dC (.ty "tuple")) daNil))) (dOp oEq (dCall cLen (daCons (dVar 0) daNil)) (dVar 1))))
theorem pf_is_tuple : ∀ ds μ Q, sp_is_tuple ds μ Q → db_is_tuple (retD Q) (startD ["value", "many"] ds) μ := by
  intro ds μ Q h
  unfold sp_is_tuple at h
  split at h
  · rename_i xs n
    show db_is_tuple (retD Q) [some (.tup xs), some (.int n)] μ
    unfold db_is_tuple
    walk_at "ev"
    exact ⟨μ, Mu.Sub.refl _, h⟩
  · exact h.elim
def sp_is_within : DSp := fun ds μ Q => match ds with | [.int v, .int l, .int m] => Q (.bl (decide (l ≤ v ∧ v ≤ m))) μ | _ => False
theorem len_is_within : ∀ ds μ Q, sp_is_within ds μ Q → ds.length = (["value", "least", "most"] : List Str).length := by
  intro ds μ Q h
  unfold sp_is_within at h
  split at h <;> first | rfl | exact h.elim
def db_is_within : DTS := (dRet (dAnd (dFn sp_is_integer (daCons (dVar 0) daNil)) (dChain oLe oLe (dVar 1) (dVar 0) (dVar 2))))
theorem pf_is_within : ∀ ds μ Q, sp_is_within ds μ Q → db_is_within (retD Q) (startD ["value", "least", "most"] ds) μ := by
  intro ds μ Q h
  unfold sp_is_within at h
  split at h
  · rename_i v l m
    show db_is_within (retD Q) [some (.int v), some (.int l), some (.int m)] μ
    unfold db_is_within
    walk_at "ev"
    simp -dsimp only [sp_is_integer, if_true]
    by_cases h1 : l ≤ v
    · rw [if_pos h1]
      refine ⟨μ, Mu.Sub.refl _, ?_⟩
      rw [show decide (v ≤ m) = decide (l ≤ v ∧ v ≤ m) by simp [h1]]
      exact h
    · rw [if_neg h1]
      refine ⟨μ, Mu.Sub.refl _, ?_⟩
      rw [show decide (l ≤ v ∧ v ≤ m) = false by simp [h1]] at h
      exact h
  · exact h.elim
/-! ## fractions -/
def lt (p q : Int × Int) : Prop := p.1 * q.2 < q.1 * p.2
def le (p q : Int × Int) : Prop := p.1 * q.2 ≤ q.1 * p.2
instance (p q : Int × Int) : Decidable (lt p q) := inferInstanceAs (Decidable (_ < _))
instance (p q : Int × Int) : Decidable (le p q) := inferInstanceAs (Decidable (_ ≤ _))
def Sz (i : Int) : Prop := -(2 ^ 200) < i ∧ i < 2 ^ 200
def sp_is_less : DSp := fun ds μ Q => match ds with | [.tup [.int a, .int b], .tup [.int c, .int d]] => (Sz a ∧ Sz b ∧ Sz c ∧ Sz d) ∧ Q (.bl (decide (a * d < c * b))) μ | _ => False
theorem len_is_less : ∀ ds μ Q, sp_is_less ds μ Q → ds.length = (["near", "far"] : List Str).length := by
  intro ds μ Q h
  unfold sp_is_less at h
  split at h <;> first | rfl | exact h.elim
def db_is_less : DTS := (dRet (dOp oLt (dOp oTimes (dOp oIx (dVar 0) (dC (.int 0))) (dOp oIx (dVar 1) (dC (.int 1)))) (dOp oTimes (dOp oIx (dVar 1) (dC (.int 0))) (dOp oIx (dVar 0) (dC (.int 1))))))
theorem pf_is_less : ∀ ds μ Q, sp_is_less ds μ Q → db_is_less (retD Q) (startD ["near", "far"] ds) μ := by
  intro ds μ Q h
  unfold sp_is_less at h
  split at h
  · rename_i a b c d
    obtain ⟨⟨ha, hb, hc, hd⟩, h⟩ := h
    show db_is_less (retD Q) [some (.tup [.int a, .int b]), some (.tup [.int c, .int d])] μ
    unfold db_is_less
    walk_at "ev"
    exact ⟨mul_ok ha.1 ha.2 hd.1 hd.2, mul_ok hc.1 hc.2 hb.1 hb.2, μ, Mu.Sub.refl _, h⟩
  · exact h.elim
def sp_law_below : DSp := fun ds μ Q => match ds with | [.tup [.int a, .int b], .tup [.int c, .int d]] => (Sz a ∧ Sz b ∧ Sz c ∧ Sz d) ∧ Q (.bl (decide (a * d < c * b))) μ | _ => False
theorem len_law_below : ∀ ds μ Q, sp_law_below ds μ Q → ds.length = (["near", "far"] : List Str).length := by
  intro ds μ Q h
  unfold sp_law_below at h
  split at h <;> first | rfl | exact h.elim
def db_law_below : DTS := (dRet (dOp oLt (dOp oTimes (dOp oIx (dVar 0) (dC (.int 0))) (dOp oIx (dVar 1) (dC (.int 1)))) (dOp oTimes (dOp oIx (dVar 1) (dC (.int 0))) (dOp oIx (dVar 0) (dC (.int 1))))))
theorem pf_law_below : ∀ ds μ Q, sp_law_below ds μ Q → db_law_below (retD Q) (startD ["near", "far"] ds) μ := by
  intro ds μ Q h
  unfold sp_law_below at h
  split at h
  · rename_i a b c d
    obtain ⟨⟨ha, hb, hc, hd⟩, h⟩ := h
    show db_law_below (retD Q) [some (.tup [.int a, .int b]), some (.tup [.int c, .int d])] μ
    unfold db_law_below
    walk_at "ev"
    exact ⟨mul_ok ha.1 ha.2 hd.1 hd.2, mul_ok hc.1 hc.2 hb.1 hb.2, μ, Mu.Sub.refl _, h⟩
  · exact h.elim
def sp_is_at_most : DSp := fun ds μ Q => match ds with | [.tup [.int a, .int b], .tup [.int c, .int d]] => (Sz a ∧ Sz b ∧ Sz c ∧ Sz d) ∧ Q (.bl (decide (a * d ≤ c * b))) μ | _ => False
theorem len_is_at_most : ∀ ds μ Q, sp_is_at_most ds μ Q → ds.length = (["near", "far"] : List Str).length := by
  intro ds μ Q h
  unfold sp_is_at_most at h
  split at h <;> first | rfl | exact h.elim
def db_is_at_most : DTS := (dRet (dOp oLe (dOp oTimes (dOp oIx (dVar 0) (dC (.int 0))) (dOp oIx (dVar 1) (dC (.int 1)))) (dOp oTimes (dOp oIx (dVar 1) (dC (.int 0))) (dOp oIx (dVar 0) (dC (.int 1))))))
theorem pf_is_at_most : ∀ ds μ Q, sp_is_at_most ds μ Q → db_is_at_most (retD Q) (startD ["near", "far"] ds) μ := by
  intro ds μ Q h
  unfold sp_is_at_most at h
  split at h
  · rename_i a b c d
    obtain ⟨⟨ha, hb, hc, hd⟩, h⟩ := h
    show db_is_at_most (retD Q) [some (.tup [.int a, .int b]), some (.tup [.int c, .int d])] μ
    unfold db_is_at_most
    walk_at "ev"
    exact ⟨mul_ok ha.1 ha.2 hd.1 hd.2, mul_ok hc.1 hc.2 hb.1 hb.2, μ, Mu.Sub.refl _, h⟩
  · exact h.elim
def sp_floor_of : DSp := fun ds μ Q => match ds with | [.tup [.int a, .int b]] => (0 < b ∧ b < 2 ^ 200) ∧ Q (.int (a / b)) μ | _ => False
theorem len_floor_of : ∀ ds μ Q, sp_floor_of ds μ Q → ds.length = (["one"] : List Str).length := by
  intro ds μ Q h
  unfold sp_floor_of at h
  split at h <;> first | rfl | exact h.elim
def db_floor_of : DTS := (dRet (dOp oDiv (dOp oIx (dVar 0) (dC (.int 0))) (dOp oIx (dVar 0) (dC (.int 1)))))
theorem pf_floor_of : ∀ ds μ Q, sp_floor_of ds μ Q → db_floor_of (retD Q) (startD ["one"] ds) μ := by
  intro ds μ Q h
  unfold sp_floor_of at h
  split at h
  · rename_i a b
    obtain ⟨hb, h⟩ := h
    show db_floor_of (retD Q) [some (.tup [.int a, .int b])] μ
    unfold db_floor_of
    walk_at "ev"
    exact ⟨div_ok hb.1 hb.2, μ, Mu.Sub.refl _, h⟩
  · exact h.elim
theorem ints_all (xs : List D) (h : ∀ x ∈ xs, ∃ i, x = .int i) (μ : Mu) : ∀ x ∈ xs, ∀ (μ' : Mu) (Qy : DK), Qy (.bl true) μ' → sp_is_integer [x] μ' Qy := by
  intro x hx μ' Qy q
  obtain ⟨i, rfl⟩ := h x hx
  exact q
def sp_is_fraction_any : DSp := fun ds μ Q => match ds with | [.tup [.int a, .int b]] => (0 < b ∧ b < 2 ^ 200) ∧ Q (.bl (decide (Int.gcd a b = 1))) μ | _ => False
theorem len_is_fraction_any : ∀ ds μ Q, sp_is_fraction_any ds μ Q → ds.length = (["value"] : List Str).length := by
  intro ds μ Q h
  unfold sp_is_fraction_any at h
  split at h <;> first | rfl | exact h.elim
def db_is_fraction_any : DTS := (dSeq (dIfS (dtOr (dtNot (dTest (dFn sp_is_tuple (daCons (dVar 0) (daCons (dC (.int 2)) daNil))))) (dtOr (dtNot (dTest (dOf sAll (dLc (diSeq (dVar 0)) (gdName 1) dYes (dFn sp_is_integer (daCons (dVar 1) daNil)) [1])))) (dTest (dOp oLt (dOp oIx (dVar 0) (dC (.int 1))) (dC (.int 1)))))) (dRet (dC (.bl false))) dNext) (dRet (dOp oEq (dFn sp_common (daCons (dCall cAbs (daCons (dOp oIx (dVar 0) (dC (.int 0))) daNil)) (daCons (dOp oIx (dVar 0) (dC (.int 1))) daNil))) (dC (.int 1)))))
theorem pf_is_fraction_any : ∀ ds μ Q, sp_is_fraction_any ds μ Q → db_is_fraction_any (retD Q) (startD ["value", "one"] ds) μ := by
  intro ds μ Q h
  unfold sp_is_fraction_any at h
  split at h
  · rename_i a b
    obtain ⟨⟨h0, h1⟩, h⟩ := h
    show db_is_fraction_any (retD Q) [some (.tup [.int a, .int b]), none] μ
    unfold db_is_fraction_any
    refine sq fun U hU => ?_
    walk_at "ev"
    simp -dsimp only [sp_is_tuple]
    walk_at "ev"
    rw [if_neg (by decide)]
    simp -dsimp only [dLc, diSeq]
    walk_at "ev"
    refine lc_map (fun _ => .bl true) held_nil (by show 2 ≤ 100000; decide) (fun x hx μ' Qy hd q => ?_) ?_
    · have : ∃ i, x = .int i := by
        have hx : x ∈ [D.int a, D.int b] := hx
        cases hx with
        | head => exact ⟨_, rfl⟩
        | tail _ hx =>
          cases hx with
          | head => exact ⟨_, rfl⟩
          | tail _ hx => cases hx
      obtain ⟨i, rfl⟩ := this
      exact q
    · refine sAll_map (b := fun _ => true) ?_
      walk_at "ev"
      rw [if_neg (by simp), if_neg (show ¬ b < 1 by omega)]
      refine hU.go ?_
      walk_at "ev"
      refine ⟨⟨by omega, by omega⟩, ?_⟩
      rw [gcd_abs, max_gcd h0]
      refine ⟨μ, Mu.Sub.refl _, ?_⟩
      rw [show decide ((Int.gcd a b : Int) = 1) = decide (Int.gcd a b = 1) from dec_inj (fun n : Nat => (n : Int)) (fun _ _ e => Int.ofNat.inj e) _ 1]
      exact h
  · exact h.elim
def sp_is_above : DSp := fun ds μ Q => match ds with | [.tup [.int a, .int b], .int l] => (0 < b ∧ b < 2 ^ 200 ∧ Int.gcd a b = 1 ∧ Sz l) ∧ Q (.bl (decide (l * b < a))) μ | _ => False
theorem len_is_above : ∀ ds μ Q, sp_is_above ds μ Q → ds.length = (["value", "least"] : List Str).length := by
  intro ds μ Q h
  unfold sp_is_above at h
  split at h <;> first | rfl | exact h.elim
def db_is_above : DTS := (dRet (dAnd (dFn sp_is_fraction_any (daCons (dVar 0) daNil)) (dOp oGt (dOp oIx (dVar 0) (dC (.int 0))) (dOp oTimes (dVar 1) (dOp oIx (dVar 0) (dC (.int 1)))))))
theorem pf_is_above : ∀ ds μ Q, sp_is_above ds μ Q → db_is_above (retD Q) (startD ["value", "least"] ds) μ := by
  intro ds μ Q h
  unfold sp_is_above at h
  split at h
  · rename_i a b l
    obtain ⟨⟨h0, h1, h2, h3⟩, h⟩ := h
    show db_is_above (retD Q) [some (.tup [.int a, .int b]), some (.int l)] μ
    unfold db_is_above
    walk_at "ev"
    refine ⟨⟨h0, h1⟩, ?_⟩
    rw [h2]
    show ite _ _ _
    rw [if_pos (by decide)]
    exact ⟨mul_ok h3.1 h3.2 (by omega) h1, μ, Mu.Sub.refl _, h⟩
  · exact h.elim
def sp_is_small : DSp := fun ds μ Q => match ds with | [.tup [.int a, .int b]] => (0 < b ∧ b ≤ 999 ∧ Int.gcd a b = 1) ∧ Q (.bl true) μ | _ => False
theorem len_is_small : ∀ ds μ Q, sp_is_small ds μ Q → ds.length = (["value"] : List Str).length := by
  intro ds μ Q h
  unfold sp_is_small at h
  split at h <;> first | rfl | exact h.elim
def db_is_small : DTS := (dRet (dAnd (dFn sp_is_fraction_any (daCons (dVar 0) daNil)) (dOp oLe (dOp oIx (dVar 0) (dC (.int 1))) (dC (.int 999)))))
theorem pf_is_small : ∀ ds μ Q, sp_is_small ds μ Q → db_is_small (retD Q) (startD ["value"] ds) μ := by
  intro ds μ Q h
  unfold sp_is_small at h
  split at h
  · rename_i a b
    obtain ⟨⟨h0, h1, h2⟩, h⟩ := h
    show db_is_small (retD Q) [some (.tup [.int a, .int b])] μ
    unfold db_is_small
    walk_at "ev"
    refine ⟨⟨h0, by omega⟩, ?_⟩
    rw [h2]
    show ite _ _ _
    rw [if_pos (by decide), decide_eq_true h1]
    exact ⟨μ, Mu.Sub.refl _, h⟩
  · exact h.elim
/-! ## rules -/
structure R where
  fs : List (Int × Int)
  top : Int
  bot : Int
def enc (r : R) : D := .tup [.str "rule", .tup (r.fs.map fr), .int r.top, .int r.bot]
def post (r : R) (k : Int) : Int × Int := if k = 0 then (0, 1) else if k ≤ r.fs.length then r.fs.getD (k - 1).toNat (0, 1) else low ((k - 1) * r.bot + r.top) r.bot
/-- what a rule's numbers are -/
structure Gr0 (r : R) : Prop where
  len : r.fs.length ≤ 4
  fsok : ∀ p ∈ r.fs, (0 < p.1 ∧ p.1 ≤ 5000) ∧ 0 < p.2 ∧ p.2 ≤ 999 ∧ Int.gcd p.1 p.2 = 1
  bot : 1 ≤ r.bot ∧ r.bot ≤ 999
  top : 0 ≤ r.top ∧ r.top ≤ r.bot
  cop : Int.gcd r.top r.bot = 1
structure GR (r : R) : Prop extends Gr0 r where
  rise : ∀ k : Int, 0 ≤ k → k ≤ r.fs.length → lt (post r k) (post r (k + 1))
  near : ∀ k : Int, 0 ≤ k → k ≤ r.fs.length → le (k, 1) (post r (k + 1)) ∧ le (post r (k + 1)) (k + 1, 1)
theorem post_0 (r : R) : post r 0 = (0, 1) := rfl
theorem post_in {r : R} {k : Int} (h0 : 0 < k) (h1 : k ≤ r.fs.length) : ∃ p ∈ r.fs, post r k = p ∧ atI r.fs (k - 1) = some p := by
  have hl : (k - 1).toNat < r.fs.length := by omega
  refine ⟨r.fs[(k - 1).toNat], List.getElem_mem hl, ?_, ?_⟩
  · unfold post
    rw [if_neg (by omega), if_pos h1, List.getD_eq_getElem?_getD, List.getElem?_eq_getElem hl]
    rfl
  · have := atI_nat (xs := r.fs) (j := (k - 1).toNat) (List.getElem?_eq_getElem hl)
    rw [show (((k - 1).toNat : Nat) : Int) = k - 1 by omega] at this
    exact this
theorem post_out {r : R} {k : Int} (h1 : (r.fs.length : Int) < k) : post r k = low ((k - 1) * r.bot + r.top) r.bot := by
  unfold post
  rw [if_neg (by omega), if_neg (by omega)]
/-- sizes -/
theorem low_sz {t b : Int} (h0 : 0 < b) : 0 < (low t b).2 ∧ (low t b).2 ≤ b ∧ (low t b).1.natAbs ≤ t.natAbs ∧ (0 ≤ t → 0 ≤ (low t b).1) := by
  have hp := gcd_pos (t := t) h0
  have hd := Int.gcd_dvd_right t b
  have hd1 := Int.gcd_dvd_left t b
  refine ⟨?_, ?_, ?_, ?_⟩
  · show 0 < b / (Int.gcd t b : Int)
    exact Int.ediv_pos_of_pos_of_dvd h0 (by omega) hd
  · exact Int.ediv_le_self _ (by omega)
  · exact Int.natAbs_ediv_le_natAbs _ _
  · intro ht
    exact Int.ediv_nonneg ht (by omega)
theorem mul_le_of {x y a b : Int} (hx : 0 ≤ x) (hy : 0 ≤ y) (h1 : x ≤ a) (h2 : y ≤ b) : x * y ≤ a * b := Int.mul_le_mul h1 h2 hy (by omega)
theorem post_sz {r : R} (g : Gr0 r) {k : Int} (h0 : 0 ≤ k) (h1 : k ≤ 10 ^ 20) : 0 ≤ (post r k).1 ∧ (post r k).1 ≤ 10 ^ 24 ∧ 0 < (post r k).2 ∧ (post r k).2 ≤ 999 := by
  by_cases e : k = 0
  · subst e
    rw [post_0]
    decide
  · by_cases e2 : k ≤ r.fs.length
    · obtain ⟨p, hp, ep, _⟩ := post_in (by omega) e2
      rw [ep]
      have := g.fsok p hp
      omega
    · rw [post_out (by omega)]
      have hb := g.bot
      have ht := g.top
      have hs := low_sz (t := (k - 1) * r.bot + r.top) (b := r.bot) (by omega)
      have hm : (k - 1) * r.bot ≤ 10 ^ 20 * 999 := mul_le_of (by omega) (by omega) (by omega) (by omega)
      have hm0 : 0 ≤ (k - 1) * r.bot := Int.mul_nonneg (by omega) (by omega)
      have hn := hs.2.2.2 (by omega)
      omega
def sp_signpost : DSp := fun ds μ Q => ∃ r k, ds = [enc r, .int k] ∧ (Gr0 r ∧ 0 ≤ k ∧ k ≤ 10 ^ 20) ∧ Q (fr (post r k)) μ
theorem len_signpost : ∀ ds μ Q, sp_signpost ds μ Q → ds.length = (["rule", "many"] : List Str).length := by
  rintro ds μ Q ⟨r, k, rfl, _⟩
  rfl
def db_signpost : DTS := (dSeq (dAsg (dVar 0) (gdTup 4 (gdCons (gdName 2) (gdCons (gdName 3) (gdCons (gdName 4) (gdCons (gdName 5) gdNil)))))) (dSeq (dIfS (dTest (dOp oEq (dVar 1) (dC (.int 0)))) (dRet (dTup (daCons (dC (.int 0)) (daCons (dC (.int 1)) daNil)))) dNext) (dRet (dIf (dTest (dOp oLe (dVar 1) (dCall cLen (daCons (dVar 3) daNil)))) (dOp oIx (dVar 3) (dOp oSub (dVar 1) (dC (.int 1)))) (dFn sp_lowest (daCons (dOp oPlus (dOp oTimes (dOp oSub (dVar 1) (dC (.int 1))) (dVar 5)) (dVar 4)) (daCons (dVar 5) daNil)))))))
theorem pf_signpost : ∀ ds μ Q, sp_signpost ds μ Q → db_signpost (retD Q) (startD ["rule", "many", "word", "firsts", "top", "bottom"] ds) μ := by
  rintro ds μ Q ⟨r, k, rfl, ⟨g, h0, h1⟩, h⟩
  show db_signpost (retD Q) [some (enc r), some (.int k), none, none, none, none] μ
  unfold db_signpost enc
  refine sq fun U hU => ?_
  walk_at "ev"
  refine hU.go ?_
  refine sq fun U hU => ?_
  walk_at "ev"
  by_cases e : k = 0
  · rw [if_pos e]
    subst e
    exact ⟨μ, Mu.Sub.refl _, h⟩
  · rw [if_neg e]
    refine hU.go ?_
    walk_at "ev"
    rw [List.length_map]
    by_cases e2 : k ≤ r.fs.length
    · rw [if_pos e2, atI_map]
      obtain ⟨p, hp, ep, ea⟩ := post_in (by omega) e2
      rw [ea]
      rw [ep] at h
      exact ⟨μ, Mu.Sub.refl _, h⟩
    · rw [if_neg e2]
      have hb := g.bot
      refine ⟨mul_ok (by omega) (by omega) (by omega) (by omega), ⟨by omega, by omega⟩, μ, Mu.Sub.refl _, ?_⟩
      rw [post_out (by omega)] at h
      exact h
/-! ## the order of fractions -/
section
variable {p q r : Int × Int}
theorem le_tr (hp : 0 < p.2) (hq : 0 < q.2) (hr : 0 < r.2) (h1 : le p q) (h2 : le q r) : le p r := by
  have a1 : (p.1 * q.2) * r.2 ≤ (q.1 * p.2) * r.2 := Int.mul_le_mul_of_nonneg_right h1 (by omega)
  have a2 : (q.1 * r.2) * p.2 ≤ (r.1 * q.2) * p.2 := Int.mul_le_mul_of_nonneg_right h2 (by omega)
  refine Int.le_of_mul_le_mul_right (a := q.2) ?_ hq
  calc p.1 * r.2 * q.2 = (p.1 * q.2) * r.2 := by rw [Int.mul_right_comm]
    _ ≤ (q.1 * p.2) * r.2 := a1
    _ = (q.1 * r.2) * p.2 := by rw [Int.mul_right_comm]
    _ ≤ (r.1 * q.2) * p.2 := a2
    _ = r.1 * p.2 * q.2 := by rw [Int.mul_right_comm]
theorem lt_of_lt_le (hp : 0 < p.2) (hq : 0 < q.2) (hr : 0 < r.2) (h1 : lt p q) (h2 : le q r) : lt p r := by
  have a1 : (p.1 * q.2) * r.2 < (q.1 * p.2) * r.2 := Int.mul_lt_mul_of_pos_right h1 hr
  have a2 : (q.1 * r.2) * p.2 ≤ (r.1 * q.2) * p.2 := Int.mul_le_mul_of_nonneg_right h2 (by omega)
  refine Int.lt_of_mul_lt_mul_right (a := q.2) ?_ (by omega)
  calc p.1 * r.2 * q.2 = (p.1 * q.2) * r.2 := by rw [Int.mul_right_comm]
    _ < (q.1 * p.2) * r.2 := a1
    _ = (q.1 * r.2) * p.2 := by rw [Int.mul_right_comm]
    _ ≤ (r.1 * q.2) * p.2 := a2
    _ = r.1 * p.2 * q.2 := by rw [Int.mul_right_comm]
theorem lt_of_le_lt (hp : 0 < p.2) (hq : 0 < q.2) (hr : 0 < r.2) (h1 : le p q) (h2 : lt q r) : lt p r := by
  have a1 : (p.1 * q.2) * r.2 ≤ (q.1 * p.2) * r.2 := Int.mul_le_mul_of_nonneg_right h1 (by omega)
  have a2 : (q.1 * r.2) * p.2 < (r.1 * q.2) * p.2 := Int.mul_lt_mul_of_pos_right h2 hp
  refine Int.lt_of_mul_lt_mul_right (a := q.2) ?_ (by omega)
  calc p.1 * r.2 * q.2 = (p.1 * q.2) * r.2 := by rw [Int.mul_right_comm]
    _ ≤ (q.1 * p.2) * r.2 := a1
    _ = (q.1 * r.2) * p.2 := by rw [Int.mul_right_comm]
    _ < (r.1 * q.2) * p.2 := a2
    _ = r.1 * p.2 * q.2 := by rw [Int.mul_right_comm]
theorem not_lt : ¬ lt p q ↔ le q p := by unfold lt le; omega
theorem lt_le (h : lt p q) : le p q := by
  unfold lt at h
  unfold le
  omega
theorem one_p (n : Int) : (0 : Int) < ((n, (1 : Int)) : Int × Int).2 := Int.zero_lt_one
theorem le_ii {a b : Int} (h : a ≤ b) : le (a, 1) (b, 1) := by
  show a * 1 ≤ b * 1
  omega
theorem lt_ii {a b : Int} (h : a < b) : lt (a, 1) (b, 1) := by
  show a * 1 < b * 1
  omega
end
theorem low_eqv {t b : Int} (h0 : 0 < b) : le (low t b) (t, b) ∧ le (t, b) (low t b) := by
  have e1 : t / (Int.gcd t b : Int) * (Int.gcd t b : Int) = t := Int.ediv_mul_cancel (Int.gcd_dvd_left t b)
  have e2 : b / (Int.gcd t b : Int) * (Int.gcd t b : Int) = b := Int.ediv_mul_cancel (Int.gcd_dvd_right t b)
  have e : t / (Int.gcd t b : Int) * b = t * (b / (Int.gcd t b : Int)) := by
    calc t / (Int.gcd t b : Int) * b = t / (Int.gcd t b : Int) * (b / (Int.gcd t b : Int) * (Int.gcd t b : Int)) := by rw [e2]
      _ = (t / (Int.gcd t b : Int) * (Int.gcd t b : Int)) * (b / (Int.gcd t b : Int)) := by rw [Int.mul_comm (b / _), Int.mul_assoc]
      _ = t * (b / (Int.gcd t b : Int)) := by rw [e1]
  exact ⟨Int.le_of_eq e, Int.le_of_eq e.symm⟩
section
variable {r : R} (g : GR r)
include g
theorem bpos {k : Int} (h0 : 0 ≤ k) : 0 < (post r k).2 := by
  by_cases e : k = 0
  · subst e
    rw [post_0]
    decide
  · by_cases e2 : k ≤ r.fs.length
    · obtain ⟨p, hp, ep, _⟩ := post_in (by omega) e2
      rw [ep]
      exact (g.fsok p hp).2.1
    · rw [post_out (by omega)]
      have hb := g.bot
      exact (low_sz (by omega)).1
theorem rise_all {k : Int} (h0 : 0 ≤ k) : lt (post r k) (post r (k + 1)) := by
  by_cases e : k ≤ r.fs.length
  · exact g.rise k h0 e
  · have hb := g.bot
    have p1 := bpos g h0
    have p2 := bpos g (show 0 ≤ k + 1 by omega)
    rw [post_out (by omega)] at p1 ⊢
    rw [post_out (k := k + 1) (by omega)] at p2 ⊢
    refine lt_of_le_lt p1 (by show 0 < r.bot; omega) p2 (low_eqv (by omega)).1 (lt_of_lt_le (q := ((k + 1 - 1) * r.bot + r.top, r.bot)) (by show 0 < r.bot; omega) (by show 0 < r.bot; omega) p2 ?_ (low_eqv (by omega)).2)
    show ((k - 1) * r.bot + r.top) * r.bot < ((k + 1 - 1) * r.bot + r.top) * r.bot
    refine Int.mul_lt_mul_of_pos_right ?_ (by omega)
    rw [show k + 1 - 1 = (k - 1) + 1 by omega, Int.add_mul]
    omega
theorem near_all {k : Int} (h0 : 0 ≤ k) : le (k, 1) (post r (k + 1)) ∧ le (post r (k + 1)) (k + 1, 1) := by
  by_cases e : k ≤ r.fs.length
  · exact g.near k h0 e
  · have hb := g.bot
    have ht := g.top
    have p2 := bpos g (show 0 ≤ k + 1 by omega)
    rw [post_out (k := k + 1) (by omega)] at p2 ⊢
    have q := low_eqv (t := (k + 1 - 1) * r.bot + r.top) (b := r.bot) (by omega)
    have e1 : k + 1 - 1 = k := by omega
    rw [e1] at q p2 ⊢
    constructor
    · refine le_tr (one_p k) (q := (k * r.bot + r.top, r.bot)) (by show 0 < r.bot; omega) p2 ?_ q.2
      show k * r.bot ≤ (k * r.bot + r.top) * 1
      omega
    · refine le_tr p2 (q := (k * r.bot + r.top, r.bot)) (by show 0 < r.bot; omega) (one_p (k + 1)) q.1 ?_
      show (k * r.bot + r.top) * 1 ≤ (k + 1) * r.bot
      rw [Int.add_mul k 1 r.bot]
      omega
/-- the k-th signpost is at most k -/
theorem at_most {k : Int} (h0 : 0 ≤ k) : le (post r k) (k, 1) := by
  by_cases e : k = 0
  · subst e
    exact Int.le_refl _
  · have := (near_all g (k := k - 1) (by omega)).2
    rw [show k - 1 + 1 = k by omega] at this
    exact this
theorem at_least {k : Int} (h0 : 1 ≤ k) : le (k - 1, 1) (post r k) := by
  have := (near_all g (k := k - 1) (by omega)).1
  rw [show k - 1 + 1 = k by omega] at this
  exact this
end
/-! ## what a fraction is rounded to -/
def fl (x : Int × Int) : Int := x.1 / x.2
def Mr (r : R) (x : Int × Int) : Int := if le (post r (fl x + 1)) x then fl x + 1 else fl x
def Lr (r : R) (x : Int × Int) : Int := if 0 < fl x ∧ le x (post r (fl x)) then fl x - 1 else if lt (post r (fl x + 1)) x then fl x + 1 else fl x
section
variable {r : R} (g : GR r) {x : Int × Int} (hx : 0 < x.2) (h0 : 0 ≤ x.1)
include g hx h0
omit g in
theorem fl_le : le (fl x, 1) x ∧ lt x (fl x + 1, 1) ∧ 0 ≤ fl x := by
  refine ⟨?_, ?_, Int.ediv_nonneg h0 (by omega)⟩
  · show fl x * x.2 ≤ x.1 * 1
    have := Int.ediv_mul_le x.1 (show x.2 ≠ 0 by omega)
    unfold fl
    omega
  · show x.1 * 1 < (fl x + 1) * x.2
    have := Int.lt_ediv_add_one_mul_self x.1 hx
    unfold fl
    omega
theorem char_M {k : Int} (hk : 0 ≤ k) : le (post r k) x ↔ k ≤ Mr r x := by
  obtain ⟨f1, f2, f3⟩ := fl_le hx h0
  have one : ∀ n : Int, (0 : Int) < ((n, (1 : Int)) : Int × Int).2 := fun _ => Int.zero_lt_one
  by_cases h1 : k ≤ fl x
  · have a : le (post r k) x := le_tr (bpos g hk) (one k) hx (at_most g hk) (le_tr (one k) (one (fl x)) hx (le_ii h1) f1)
    have b : k ≤ Mr r x := by unfold Mr; split <;> omega
    exact ⟨fun _ => b, fun _ => a⟩
  · by_cases h2 : k = fl x + 1
    · subst h2
      unfold Mr
      split
      · rename_i h
        exact ⟨fun _ => by omega, fun _ => h⟩
      · rename_i h
        exact ⟨fun z => absurd z h, fun z => by omega⟩
    · have a : lt x (post r k) := lt_of_lt_le hx (one (fl x + 1)) (bpos g hk) f2 (le_tr (one _) (one (k - 1)) (bpos g hk) (le_ii (by omega)) (at_least g (by omega)))
      have b : ¬ k ≤ Mr r x := by unfold Mr; split <;> omega
      refine ⟨fun z => ?_, fun z => absurd z b⟩
      unfold le at z
      unfold lt at a
      omega
theorem char_L {k : Int} (hk : 0 ≤ k) : le x (post r (k + 1)) ↔ Lr r x ≤ k := by
  obtain ⟨f1, f2, f3⟩ := fl_le hx h0
  have one : ∀ n : Int, (0 : Int) < ((n, (1 : Int)) : Int × Int).2 := fun _ => Int.zero_lt_one
  have hub : Lr r x ≤ fl x + 1 := by unfold Lr; split <;> (try split) <;> omega
  have hlb : fl x - 1 ≤ Lr r x := by unfold Lr; split <;> (try split) <;> omega
  by_cases h1 : fl x + 1 ≤ k
  · have a : le x (post r (k + 1)) := le_tr hx (one (fl x + 1)) (bpos g (by omega)) (lt_le f2) (le_tr (one _) (one k) (bpos g (by omega)) (le_ii h1) (near_all g hk).1)
    exact ⟨fun _ => by omega, fun _ => a⟩
  · by_cases h2 : k = fl x
    · subst h2
      by_cases hb : 0 < fl x ∧ le x (post r (fl x))
      · have a : le x (post r (fl x + 1)) := le_tr hx (bpos g f3) (bpos g (by omega)) hb.2 (lt_le (rise_all g f3))
        have b : Lr r x = fl x - 1 := by unfold Lr; rw [if_pos hb]
        exact ⟨fun _ => by omega, fun _ => a⟩
      · by_cases hc : lt (post r (fl x + 1)) x
        · have b : Lr r x = fl x + 1 := by unfold Lr; rw [if_neg hb, if_pos hc]
          refine ⟨fun z => ?_, fun z => by omega⟩
          unfold le at z
          unfold lt at hc
          omega
        · have b : Lr r x = fl x := by unfold Lr; rw [if_neg hb, if_neg hc]
          exact ⟨fun _ => by omega, fun _ => not_lt.mp hc⟩
    · by_cases h3 : k = fl x - 1
      · have e : k + 1 = fl x := by omega
        rw [e]
        by_cases hb : 0 < fl x ∧ le x (post r (fl x))
        · have b : Lr r x = fl x - 1 := by unfold Lr; rw [if_pos hb]
          exact ⟨fun _ => by omega, fun _ => hb.2⟩
        · have b : fl x ≤ Lr r x := by unfold Lr; rw [if_neg hb]; split <;> omega
          exact ⟨fun z => absurd ⟨by omega, z⟩ hb, fun z => by omega⟩
      · have a : lt (post r (k + 1)) x := lt_of_le_lt (bpos g (by omega)) (one (k + 1)) hx (at_most g (by omega)) (lt_of_lt_le (one _) (one (fl x)) hx (lt_ii (by omega)) f1)
        refine ⟨fun z => ?_, fun z => by omega⟩
        unfold le at z
        unfold lt at a
        omega
theorem LM : 0 ≤ Lr r x ∧ Lr r x ≤ Mr r x ∧ Mr r x ≤ Lr r x + 1 ∧ fl x - 1 ≤ Lr r x ∧ Mr r x ≤ fl x + 1 := by
  obtain ⟨f1, f2, f3⟩ := fl_le hx h0
  have h1 : fl x - 1 ≤ Lr r x := by unfold Lr; split <;> (try split) <;> omega
  have h2 : Mr r x ≤ fl x + 1 := by unfold Mr; split <;> omega
  have h3 : 0 ≤ Lr r x := by unfold Lr; split <;> (try split) <;> omega
  have h4 : fl x ≤ Mr r x := by unfold Mr; split <;> omega
  refine ⟨h3, ?_, ?_, h1, h2⟩
  · have hM : 0 ≤ Mr r x := by omega
    have a := (char_M g hx h0 hM).mpr (Int.le_refl _)
    rcases Int.lt_or_le (Mr r x) (Lr r x) with h | h
    · have b : ¬ le x (post r (Mr r x + 1)) := fun z => by
        have := (char_L g hx h0 hM).mp z
        omega
      have c : le (post r (Mr r x + 1)) x := by
        unfold le at b ⊢
        omega
      have := (char_M g hx h0 (by omega)).mp c
      omega
    · exact h
  · have a := (char_L g hx h0 h3).mpr (Int.le_refl _)
    rcases Int.lt_or_le (Lr r x + 1) (Mr r x) with h | h
    · have b := (char_M g hx h0 (k := Lr r x + 2) (by omega)).mpr (by omega)
      have c := rise_all g (k := Lr r x + 1) (by omega)
      rw [show Lr r x + 1 + 1 = Lr r x + 2 by omega] at c
      have d := lt_of_le_lt hx (bpos g (by omega)) (bpos g (by omega)) a c
      unfold le at b
      unfold lt at d
      omega
    · exact h
end
theorem mono_LM {r : R} (g : GR r) {x y : Int × Int} (hx : 0 < x.2) (hx0 : 0 ≤ x.1) (hy : 0 < y.2) (hy0 : 0 ≤ y.1) (h : lt x y) : Lr r x ≤ Lr r y ∧ Mr r x ≤ Mr r y := by
  have m1 := LM g hx hx0
  have m2 := LM g hy hy0
  constructor
  · refine (char_L g hx hx0 m2.1).mp ?_
    exact le_tr hx hy (bpos g (by omega)) (lt_le h) ((char_L g hy hy0 m2.1).mpr (Int.le_refl _))
  · refine (char_M g hy hy0 (by omega)).mp ?_
    exact le_tr (bpos g (by omega)) hx hy ((char_M g hx hx0 (by omega)).mpr (Int.le_refl _)) (lt_le h)
end K12
namespace K12
open PySem PySem.Spec PyProof.Rows L2 Dl
local macro_rules | `(tactic| walk_at "ev") => `(tactic| try simp -dsimp only [↓dSeq_at, sp_is_tuple, sp_is_within, sp_is_integer, sp_common, sp_is_less, sp_is_at_most, sp_is_small, sp_floor_of, sp_law_below, dRet, dRetN, dNext, dIfS, dAsg, dDrop, dPar, dNever, dVar, dC, dOp, dUn, dTest, dChain, dAnd, dOr, dNot, dIf, dtAnd, dtOr, dtNot, dTup, daNil, daCons, dCall, dFn, dFnK, dNew, dLst, dOf,
  gdName, gdTup, gdCons, gdNil, gdSub, rdI, rdI0, oPlus, oSub, oTimes, oDiv, oMod, oPow, oLt, oLe, oGt, oGe, oIx, oEq, oNe, uNeg, oIsN, oNotN, D.isNon, cAbs, cMax, cMin, cInt, cDivmod, cLen, cIsi, tyD, items, litems, retD, sTup, mApp, dYes,
  atI_0, atI_1, atI_2, atI_3, atI_4, ixN_20, ixN_21, kit_ii, kit_ib, kit_is, kit_it, kit_il, kit_bi, kit_bb, kit_bs, kit_bt, kit_bl, kit_si, kit_sb, kit_ss, kit_st, kit_sl, kit_ti, kit_tb, kit_ts, kit_tt, kit_tl, kit_li, kit_lb, kit_ls, kit_lt, kit_ll,
  List.getElem?_cons_zero, List.getElem?_cons_succ, List.set_cons_zero, List.set_cons_succ, List.length_cons, List.length_nil, Mu.upd_same, Mu.upd_upd, Nat.zero_add, Nat.reduceAdd, Nat.reduceLeDiff, natlit, Int.reduceEq, Int.reduceLT, Int.reduceLE, Int.reduceAdd, Int.reduceSub, Int.reduceMul, Int.reducePow, Int.reduceNeg, permG2_10, permG3_210, zl_0, zl_1, zl_2, zl_3, zl_4, zl_5, zl_6, zl_7, zl_8, zl_9, zl_10, zl_11, zl_12, zl_13, zl_14, zl_15, zl_16, zl_17, zl_18, zl_19, zl_20, true_and, and_true, eq_self, not_true_eq_false, not_false_eq_true, decide_true, decide_false, if_true, Bool.false_eq_true, if_false, Bool.not_true, Bool.not_false, decide_eq_true_eq, Bool.not_eq_true', decide_eq_false_iff_not, Option.isSome, Option.map])
theorem fr_sz {r : R} (g : Gr0 r) {k : Int} (h0 : 0 ≤ k) (h1 : k ≤ 10 ^ 20) : Sz (post r k).1 ∧ Sz (post r k).2 := by
  have := post_sz g h0 h1
  unfold Sz
  omega
theorem sz_of {i : Int} (h0 : -(10 ^ 40) ≤ i) (h1 : i ≤ 10 ^ 40) : Sz i := by
  unfold Sz
  omega
/-! ## a rule is a rule -/
/-- posts 0 to len + 1 -/
def postD (r : R) : D → D := fun d => match d with | .int i => fr (post r i) | d => d
def posts (r : R) (n : Int) : List D := (rangeD 0 n).map (postD r)
theorem posts_get {r : R} {n : Int} {i : Nat} {d : D} (h : (posts r n)[i]? = some d) : (i : Int) < n ∧ d = fr (post r i) := by
  unfold posts at h
  rw [List.getElem?_map] at h
  have hl : i < (rangeD 0 n).length := by
    rcases Nat.lt_or_ge i (rangeD 0 n).length with q | q
    · exact q
    · rw [List.getElem?_eq_none q] at h
      cases h
  rw [rangeD_len] at hl
  unfold rangeD at h
  rw [List.getElem?_map, List.getElem?_range hl] at h
  cases h
  refine ⟨by omega, ?_⟩
  show fr (post r (0 + (i : Int))) = _
  rw [Int.zero_add]
theorem posts_len (r : R) (n : Int) : (posts r n).length = n.toNat := by
  unfold posts
  rw [List.length_map, rangeD_len, Int.sub_zero]
theorem cut_1 (xs : List D) : Dl.cutD xs (some 1) none = xs.drop 1 := by
  unfold Dl.cutD
  rw [show HT.sIx xs.length 0 (some 1) = min 1 xs.length from HT.sIx_nat xs.length 0 1, HT.sIx_none]
  cases xs with
  | nil => rfl
  | cons x r =>
    rw [show min 1 (x :: r).length = 1 by rw [List.length_cons]; omega]
    rw [List.take_of_length_le]
    rw [List.length_drop]
    omega
def sp_is_rule_any : DSp := fun ds μ Q => ∃ r, ds = [enc r] ∧ GR r ∧ Q (.bl true) μ
theorem len_is_rule_any : ∀ ds μ Q, sp_is_rule_any ds μ Q → ds.length = (["value"] : List Str).length := by
  rintro ds μ Q ⟨r, rfl, _⟩
  rfl
def db_is_rule_any : DTS := (dSeq (dIfS (dtOr (dtNot (dTest (dFn sp_is_tuple (daCons (dVar 0) (daCons (dC (.int 4)) daNil))))) (dtOr (dtNot (dTest (dCall cIsi (daCons (dOp oIx (dVar 0) (dC (.int 0))) (daCons (dC (.ty "str")) daNil))))) (dTest (dOp oNe (dOp oIx (dVar 0) (dC (.int 0))) (dC (.str "rule")))))) (dRet (dC (.bl false))) dNext) (dSeq (dAsg (dVar 0) (gdTup 4 (gdCons (gdName 1) (gdCons (gdName 2) (gdCons (gdName 3) (gdCons (gdName 4) gdNil)))))) (dSeq (dIfS (dtOr (dtNot (dTest (dCall cIsi (daCons (dVar 2) (daCons (dC (.ty "tuple")) daNil))))) (dtOr (dTest (dOp oGt (dCall cLen (daCons (dVar 2) daNil)) (dC (.int 4)))) (dtNot (dTest (dOf sAll (dLc (diSeq (dVar 2)) (gdName 5) dYes (dFn sp_is_small (daCons (dVar 5) daNil)) [5])))))) (dRet (dC (.bl false))) dNext) (dSeq (dIfS (dtOr (dtNot (dTest (dFn sp_is_within (daCons (dVar 4) (daCons (dC (.int 1)) (daCons (dC (.int 999)) daNil)))))) (dtOr (dtNot (dTest (dFn sp_is_within (daCons (dVar 3) (daCons (dC (.int 0)) (daCons (dVar 4) daNil)))))) (dTest (dOp oNe (dFn sp_common (daCons (dVar 3) (daCons (dVar 4) daNil))) (dC (.int 1)))))) (dRet (dC (.bl false))) dNext) (dSeq (dAsg (dNew (dLc (diR1 (daCons (dOp oPlus (dCall cLen (daCons (dVar 2) daNil)) (dC (.int 2))) daNil)) (gdName 7) dYes (dFn sp_signpost (daCons (dVar 0) (daCons (dVar 7) daNil))) [7])) (gdName 6)) (dSeq (dIfS (dtNot (dTest (dOf sAll (dLc (diZip (dVar 6) (dSl (dVar 6) (doSome (dC (.int 1))) doNone)) (gdTup 2 (gdCons (gdName 8) (gdCons (gdName 9) gdNil))) dYes (dFn sp_is_less (daCons (dVar 8) (daCons (dVar 9) daNil))) [8, 9])))) (dRet (dC (.bl false))) dNext) (dRet (dOf sAll (dLc (diEnum2 (dSl (dVar 6) (doSome (dC (.int 1))) doNone)) (gdTup 2 (gdCons (gdName 7) (gdCons (gdName 10) gdNil))) dYes (dAnd (dFn sp_is_at_most (daCons (dTup (daCons (dVar 7) (daCons (dC (.int 1)) daNil))) (daCons (dVar 10) daNil))) (dFn sp_is_at_most (daCons (dVar 10) (daCons (dTup (daCons (dOp oPlus (dVar 7) (dC (.int 1))) (daCons (dC (.int 1)) daNil))) daNil)))) [7, 10])))))))))
theorem pf_is_rule_any : ∀ ds μ Q, sp_is_rule_any ds μ Q → db_is_rule_any (retD Q) (startD ["value", "word", "firsts", "top", "bottom", "one", "posts", "many", "near", "far", "post"] ds) μ := by
  rintro ds μ Q ⟨r, rfl, g, h⟩
  show db_is_rule_any (retD Q) [some (enc r), none, none, none, none, none, none, none, none, none, none] μ
  have hl := g.len
  have hb := g.bot
  have ht := g.top
  unfold db_is_rule_any
  refine sq fun U hU => ?_
  unfold enc
  walk_at "ev"
  refine hU.go ?_
  refine sq fun U hU => ?_
  walk_at "ev"
  refine hU.go ?_
  refine sq fun U hU => ?_
  walk_at "ev"
  rw [List.length_map, if_neg (by omega)]
  simp -dsimp only [dLc, diSeq]
  walk_at "ev"
  refine lc_map (fun _ => .bl true) held_nil (by show (r.fs.map fr).length ≤ _; rw [List.length_map]; omega) (fun x hx μ' Qy hd q => ?_) ?_
  · obtain ⟨p, hp, rfl⟩ := List.mem_map.mp hx
    have := g.fsok p hp
    simp -dsimp only [wipeD, fr]
    walk_at "ev"
    exact ⟨⟨by omega, by omega, this.2.2.2⟩, q⟩
  refine sAll_map (b := fun _ => true) ?_
  walk_at "ev"
  rw [if_neg (by simp)]
  refine hU.go ?_
  refine sq fun U hU => ?_
  walk_at "ev"
  rw [if_neg (by omega), if_neg (by omega)]
  refine ⟨⟨by omega, by omega⟩, ?_⟩
  rw [g.cop, if_neg (by decide)]
  refine hU.go ?_
  refine sq fun U hU => ?_
  walk_at "ev"
  simp -dsimp only [dLc, diR1]
  walk_at "ev"
  rw [List.length_map]
  refine ⟨⟨by omega, by omega⟩, ?_⟩
  refine lc_map (postD r) held_nil (by show (rangeD _ _).length ≤ _; rw [rangeD_len]; omega) (fun x hx μ' Qy hd q => ?_) ?_
  · obtain ⟨i, hi, rfl⟩ := List.mem_map.mp hx
    have hi := List.mem_range.mp hi
    simp -dsimp only [wipeD]
    walk_at "ev"
    exact ⟨r, _, rfl, ⟨g.toGr0, by omega, by omega⟩, q⟩
  intro k hk
  refine hU.go ?_
  refine sq fun U hU => ?_
  walk_at "ev"
  simp -dsimp only [dLc, diZip, dSl, doSome, doNone, lsrc]
  walk_at "ev"
  intro n hn
  have hkn : k ≠ n := Mu.ne_of Mu.upd_same hn
  rw [Mu.upd_ne hkn, Mu.upd_same]
  have hk2 : Src.held ⟨zipD (posts r (r.fs.length + 2)) (Dl.cutD (posts r (r.fs.length + 2)) (some 1) none), [(k, posts r (r.fs.length + 2)), (n, Dl.cutD (posts r (r.fs.length + 2)) (some 1) none)]⟩ ((μ.upd k (posts r (r.fs.length + 2))).upd n (Dl.cutD (posts r (r.fs.length + 2)) (some 1) none)) := by
    intro p hp
    cases hp with
    | head => exact (Mu.upd_ne hkn).trans Mu.upd_same
    | tail _ hp =>
      cases hp with
      | head => exact Mu.upd_same
      | tail _ hp => cases hp
  refine lc_map (fun _ => .bl true) hk2 ?_ (fun x hx μ' Qy hd q => ?_) ?_
  · show (zipD (posts r (r.fs.length + 2)) (Dl.cutD (posts r (r.fs.length + 2)) (some 1) none)).length ≤ _
    unfold zipD
    rw [List.length_zipWith, posts_len]
    omega
  · obtain ⟨i, hi⟩ := List.mem_iff_getElem?.mp hx
    obtain ⟨y, z, hy, hz, rfl⟩ := zipD_get hi
    have hz : (Dl.cutD (posts r (r.fs.length + 2)) (some 1) none)[i]? = some z := hz
    rw [cut_1, List.getElem?_drop] at hz
    obtain ⟨l1, rfl⟩ := posts_get hy
    obtain ⟨l2, rfl⟩ := posts_get hz
    simp -dsimp only [wipeD, fr]
    walk_at "ev"
    have s1 := fr_sz g.toGr0 (k := (i : Int)) (by omega) (by omega)
    have s2 := fr_sz g.toGr0 (k := ((1 + i : Nat) : Int)) (by omega) (by omega)
    refine ⟨⟨s1.1, s1.2, s2.1, s2.2⟩, ?_⟩
    have hr := g.rise (i : Int) (by omega) (by omega)
    simp only [lt] at hr
    have e : ((1 + i : Nat) : Int) = (i : Int) + 1 := by omega
    rw [e, decide_eq_true hr]
    exact q
  refine sAll_map (b := fun _ => true) ?_
  walk_at "ev"
  rw [if_neg (by simp)]
  refine hU.go ?_
  walk_at "ev"
  simp -dsimp only [dLc, diEnum2, dSl, doSome, doNone, lsrc]
  walk_at "ev"
  rw [Mu.upd_ne hkn, Mu.upd_same]
  intro m hm
  refine lc_map (fun _ => .bl true) (held_one Mu.upd_same) ?_ (fun x hx μ' Qy hd q => ?_) ?_
  · show (enumD (Dl.cutD (posts r (r.fs.length + 2)) (some 1) none)).length ≤ _
    rw [enumD_len, cut_1, List.length_drop, posts_len]
    omega
  · obtain ⟨i, hi⟩ := List.mem_iff_getElem?.mp hx
    obtain ⟨y, hy, rfl⟩ := enumD_get hi
    have hy : (Dl.cutD (posts r (r.fs.length + 2)) (some 1) none)[i]? = some y := hy
    rw [cut_1, List.getElem?_drop] at hy
    obtain ⟨l2, rfl⟩ := posts_get hy
    simp -dsimp only [wipeD, fr]
    walk_at "ev"
    have s2 := fr_sz g.toGr0 (k := ((1 + i : Nat) : Int)) (by omega) (by omega)
    have hr := g.near (i : Int) (by omega) (by omega)
    simp only [le] at hr
    have e : ((1 + i : Nat) : Int) = (i : Int) + 1 := by omega
    rw [e] at s2 ⊢
    refine ⟨⟨sz_of (by omega) (by omega), sz_of (by omega) (by omega), s2.1, s2.2⟩, ?_⟩
    rw [if_pos hr.1]
    refine ⟨⟨s2.1, s2.2, sz_of (by omega) (by omega), sz_of (by omega) (by omega)⟩, ?_⟩
    rw [decide_eq_true hr.2]
    exact q
  refine sAll_map (b := fun _ => true) ?_
  refine ⟨μ, (Mu.sub_upd hk).trans ((Mu.sub_upd hn).trans (Mu.sub_upd hm)), ?_⟩
  rw [List.all_eq_true.mpr fun _ _ => rfl]
  exact h
/-! ## what is passed -/
structure GF (x : Int × Int) : Prop where
  p1 : 0 < x.1 ∧ x.1 ≤ 10 ^ 15
  p2 : 0 < x.2 ∧ x.2 ≤ 10 ^ 15
  cop : Int.gcd x.1 x.2 = 1
theorem GF.fl {x : Int × Int} (h : GF x) : 0 ≤ fl x ∧ fl x ≤ 10 ^ 15 := by
  have := h.p1
  have := h.p2
  refine ⟨Int.ediv_nonneg (by omega) (by omega), ?_⟩
  have : x.1 / x.2 ≤ x.1 := Int.ediv_le_self _ (by omega)
  unfold K12.fl
  omega
def sp_want_rule : DSp := fun ds μ Q => ∃ r, ds = [enc r] ∧ GR r ∧ Q .non μ
theorem len_want_rule : ∀ ds μ Q, sp_want_rule ds μ Q → ds.length = (["rule"] : List Str).length := by
  rintro ds μ Q ⟨r, rfl, _⟩
  rfl
def db_want_rule : DTS := (dIfS (dtNot (dTest (dFn sp_is_rule_any (daCons (dVar 0) daNil)))) dNever dNext)
theorem pf_want_rule : ∀ ds μ Q, sp_want_rule ds μ Q → db_want_rule (retD Q) (startD ["rule"] ds) μ := by
  rintro ds μ Q ⟨r, rfl, g, h⟩
  show db_want_rule (retD Q) [some (enc r)] μ
  unfold db_want_rule
  walk_at "ev"
  exact ⟨r, rfl, g, μ, Mu.Sub.refl _, h⟩
def sp_want_fraction : DSp := fun ds μ Q => ∃ x, ds = [fr x] ∧ GF x ∧ Q .non μ
theorem len_want_fraction : ∀ ds μ Q, sp_want_fraction ds μ Q → ds.length = (["fraction"] : List Str).length := by
  rintro ds μ Q ⟨r, rfl, _⟩
  rfl
def db_want_fraction : DTS := (dIfS (dtNot (dTest (dFn sp_is_above (daCons (dVar 0) (daCons (dC (.int 0)) daNil))))) dNever dNext)
theorem pf_want_fraction : ∀ ds μ Q, sp_want_fraction ds μ Q → db_want_fraction (retD Q) (startD ["fraction"] ds) μ := by
  rintro ds μ Q ⟨x, rfl, g, h⟩
  show db_want_fraction (retD Q) [some (fr x)] μ
  have h1 := g.p1
  have h2 := g.p2
  unfold db_want_fraction fr
  walk_at "ev"
  refine ⟨⟨by omega, by omega, g.cop, sz_of (by omega) (by omega)⟩, ?_⟩
  rw [decide_eq_true (by omega)]
  exact ⟨μ, Mu.Sub.refl _, h⟩
def sp_want_seats : DSp := fun ds μ Q => match ds with | [.int m, .int l] => (l ≤ m ∧ m ≤ 200) ∧ Q .non μ | _ => False
theorem len_want_seats : ∀ ds μ Q, sp_want_seats ds μ Q → ds.length = (["many", "least"] : List Str).length := by
  intro ds μ Q h
  unfold sp_want_seats at h
  split at h <;> first | rfl | exact h.elim
def db_want_seats : DTS := (dIfS (dtNot (dTest (dFn sp_is_within (daCons (dVar 0) (daCons (dVar 1) (daCons (dC (.int 200)) daNil)))))) dNever dNext)
theorem pf_want_seats : ∀ ds μ Q, sp_want_seats ds μ Q → db_want_seats (retD Q) (startD ["many", "least"] ds) μ := by
  intro ds μ Q h
  unfold sp_want_seats at h
  split at h
  · rename_i m l
    obtain ⟨h1, h⟩ := h
    show db_want_seats (retD Q) [some (.int m), some (.int l)] μ
    unfold db_want_seats
    walk_at "ev"
    rw [if_neg (by omega)]
    exact ⟨μ, Mu.Sub.refl _, h⟩
  · exact h.elim
/-! ## what a fraction is rounded to, by the program -/
theorem le_dec (p q : Int × Int) : decide (p.1 * q.2 ≤ q.1 * p.2) = decide (le p q) := rfl
theorem lt_dec (p q : Int × Int) : decide (p.1 * q.2 < q.1 * p.2) = decide (lt p q) := rfl
section
variable {r : R} {x : Int × Int}
theorem ask_at_most {k : Int} (g : GR r) (gx : GF x) (h0 : 0 ≤ k) (h1 : k ≤ 10 ^ 20) {μ : Mu} {Q : DK} (h : Q (.bl (decide (le (post r k) x))) μ) : sp_is_at_most [fr (post r k), fr x] μ Q := by
  have s := fr_sz g.toGr0 h0 h1
  have h1 := gx.p1
  have h2 := gx.p2
  exact ⟨⟨s.1, s.2, sz_of (by omega) (by omega), sz_of (by omega) (by omega)⟩, h⟩
theorem ask_at_most' {k : Int} (g : GR r) (gx : GF x) (h0 : 0 ≤ k) (h1 : k ≤ 10 ^ 20) {μ : Mu} {Q : DK} (h : Q (.bl (decide (le x (post r k)))) μ) : sp_is_at_most [fr x, fr (post r k)] μ Q := by
  have s := fr_sz g.toGr0 h0 h1
  have h1 := gx.p1
  have h2 := gx.p2
  exact ⟨⟨sz_of (by omega) (by omega), sz_of (by omega) (by omega), s.1, s.2⟩, h⟩
theorem ask_less {k : Int} (g : GR r) (gx : GF x) (h0 : 0 ≤ k) (h1 : k ≤ 10 ^ 20) {μ : Mu} {Q : DK} (h : Q (.bl (decide (lt (post r k) x))) μ) : sp_is_less [fr (post r k), fr x] μ Q := by
  have s := fr_sz g.toGr0 h0 h1
  have h1 := gx.p1
  have h2 := gx.p2
  exact ⟨⟨s.1, s.2, sz_of (by omega) (by omega), sz_of (by omega) (by omega)⟩, h⟩
theorem ask_post {k : Int} (g : GR r) (h0 : 0 ≤ k) (h1 : k ≤ 10 ^ 20) {μ : Mu} {Q : DK} (h : Q (fr (post r k)) μ) : sp_signpost [enc r, .int k] μ Q := ⟨r, k, rfl, ⟨g.toGr0, h0, h1⟩, h⟩
theorem ask_floor (gx : GF x) {μ : Mu} {Q : DK} (h : Q (.int (fl x)) μ) : sp_floor_of [fr x] μ Q := by
  have h2 := gx.p2
  exact ⟨⟨by omega, by omega⟩, h⟩
end
end K12
namespace K12
open PySem PySem.Spec PyProof.Rows L2 Dl
local macro_rules | `(tactic| walk_at "ev") => `(tactic| try simp -dsimp only [↓dSeq_at, dRet, dRetN, dNext, dIfS, dAsg, dDrop, dPar, dNever, dVar, dC, dOp, dUn, dTest, dChain, dAnd, dOr, dNot, dIf, dtAnd, dtOr, dtNot, dTup, daNil, daCons, dCall, dFn, dFnK, dNew, dLst, dOf,
  gdName, gdTup, gdCons, gdNil, gdSub, rdI, rdI0, oPlus, oSub, oTimes, oDiv, oMod, oPow, oLt, oLe, oGt, oGe, oIx, oEq, oNe, uNeg, oIsN, oNotN, D.isNon, cAbs, cMax, cMin, cInt, cDivmod, cLen, cIsi, tyD, items, litems, retD, sTup, mApp, dYes,
  atI_0, atI_1, atI_2, atI_3, atI_4, ixN_20, ixN_21, kit_ii, kit_ib, kit_is, kit_it, kit_il, kit_bi, kit_bb, kit_bs, kit_bt, kit_bl, kit_si, kit_sb, kit_ss, kit_st, kit_sl, kit_ti, kit_tb, kit_ts, kit_tt, kit_tl, kit_li, kit_lb, kit_ls, kit_lt, kit_ll,
  List.getElem?_cons_zero, List.getElem?_cons_succ, List.set_cons_zero, List.set_cons_succ, List.length_cons, List.length_nil, Mu.upd_same, Mu.upd_upd, Nat.zero_add, Nat.reduceAdd, Nat.reduceLeDiff, natlit, Int.reduceEq, Int.reduceLT, Int.reduceLE, Int.reduceAdd, Int.reduceSub, Int.reduceMul, Int.reducePow, Int.reduceNeg, permG2_10, permG3_210, zl_0, zl_1, zl_2, zl_3, zl_4, zl_5, zl_6, zl_7, zl_8, zl_9, zl_10, zl_11, zl_12, zl_13, zl_14, zl_15, zl_16, zl_17, zl_18, zl_19, zl_20, true_and, and_true, eq_self, not_true_eq_false, not_false_eq_true, decide_true, decide_false, if_true, Bool.false_eq_true, if_false, Bool.not_true, Bool.not_false, decide_eq_true_eq, Bool.not_eq_true', decide_eq_false_iff_not, Option.isSome, Option.map])
/-! ## the pot -/
def PB (a b : Int) : Prop := 0 ≤ a ∧ 0 ≤ b ∧ b ≤ 2147483587
def Pot (μ : Mu) (c : Nat) : Prop := ∃ a b : Int, μ c = some [.int a, .int b] ∧ PB a b
/-- the pot is turned -/
def Turn (c : Nat) (μ : Mu) (Q : Mu → Prop) : Prop := ∀ a b, PB a b → Q (μ.upd c [.int a, .int b])
theorem mulL {i j : Int} (h0 : -(2 ^ 64) < i) (h1 : i < 2 ^ 64) : Dl.MulOk i j := .inl ⟨h0, h1⟩
theorem mulR {i j : Int} (h0 : -(2 ^ 64) < j) (h1 : j < 2 ^ 64) : Dl.MulOk i j := .inr (.inl ⟨h0, h1⟩)
def sp_law_pot : DSp := fun ds μ Q => ∃ (ns : List Int) (k : Int), ds = [.frz (ns.map D.int), .int k] ∧ (0 ≤ k ∧ k ≤ 100) ∧ ∀ c, μ c = none → Turn c μ fun μ' => Q (.cell c) μ'
theorem len_law_pot : ∀ ds μ Q, sp_law_pot ds μ Q → ds.length = (["script", "k"] : List Str).length := by
  rintro ds μ Q ⟨ns, k, rfl, _⟩
  rfl
def db_law_pot : DTS := (dSeq (dAsg (dIf (dTest (dOp oLt (dVar 1) (dCall cLen (daCons (dVar 0) daNil)))) (dCall cAbs (daCons (dOp oIx (dVar 0) (dVar 1)) daNil)) (dOp oPlus (dOp oTimes (dC (.int 2753)) (dVar 1)) (dC (.int 2467)))) (gdName 2)) (dRet (dNew (dLst (daCons (dCall cMax (daCons (dC (.int 0)) (daCons (dOp oSub (dVar 2) (dOp oPow (dC (.int 10)) (dC (.int 18)))) daNil))) (daCons (dOp oPlus (dOp oMod (dCall cInt (daCons (dOp oPlus (dOp oPlus (dOp oTimes (dOp oMod (dCall cInt (daCons (dVar 2) daNil)) (dC (.int 2147483549))) (dC (.int 40692))) (dOp oTimes (dC (.int 2753)) (dVar 1))) (dC (.int 1777))) daNil)) (dC (.int 2147483563))) (dC (.int 1))) daNil))))))
theorem pf_law_pot : ∀ ds μ Q, sp_law_pot ds μ Q → db_law_pot (retD Q) (startD ["script", "k", "cell"] ds) μ := by
  rintro ds μ Q ⟨ns, k, rfl, ⟨h0, h1⟩, h⟩
  show db_law_pot (retD Q) [some (.frz (ns.map D.int)), some (.int k), none] μ
  unfold db_law_pot
  refine sq fun U hU => ?_
  walk_at "ev"
  have rest : ∀ cell : Int, U [some (.frz (ns.map D.int)), some (.int k), some (.int cell)] μ := by
    intro cell
    refine hU.go ?_
    walk_at "ev"
    have m0 := Int.emod_nonneg cell (show (2147483549 : Int) ≠ 0 by decide)
    have m1 := Int.emod_lt_of_pos cell (show (0 : Int) < 2147483549 by decide)
    refine ⟨⟨by decide, by decide, by decide⟩, mulR (by decide) (by decide), mulL (by decide) (by decide), ?_⟩
    intro c hc
    refine ⟨_, Mu.Sub.refl _, h c hc _ _ ⟨by omega, ?_, ?_⟩⟩
    · have := Int.emod_nonneg (cell % 2147483549 * 40692 + 2753 * k + 1777) (show (2147483563 : Int) ≠ 0 by decide)
      omega
    · have := Int.emod_lt_of_pos (cell % 2147483549 * 40692 + 2753 * k + 1777) (show (0 : Int) < 2147483563 by decide)
      omega
  rw [List.length_map]
  by_cases e : k < ns.length
  · rw [if_pos e]
    have hl : k.toNat < ns.length := by omega
    have ha := atI_nat (xs := ns) (j := k.toNat) (List.getElem?_eq_getElem hl)
    rw [show ((k.toNat : Nat) : Int) = k by omega] at ha
    rw [atI_map, ha]
    exact rest _
  · rw [if_neg e]
    exact ⟨mulL (by decide) (by decide), rest _⟩
def sp_law_draw : DSp := fun ds μ Q => match ds with | [.cell c, .int m] => (Pot μ c ∧ 0 < m ∧ m < 2 ^ 30) ∧ ∀ r, 0 ≤ r → r < m → Turn c μ fun μ' => Q (.int r) μ' | _ => False
theorem len_law_draw : ∀ ds μ Q, sp_law_draw ds μ Q → ds.length = (["pot", "many"] : List Str).length := by
  intro ds μ Q h
  unfold sp_law_draw at h
  split at h <;> first | rfl | exact h.elim
def db_law_draw : DTS := (dSeq (dIfS (dTest (dOp oGt (dOp oIx (dVar 0) (dC (.int 0))) (dC (.int 0)))) (dSeq (dAsg (dCall cDivmod (daCons (dOp oIx (dVar 0) (dC (.int 0))) (daCons (dVar 1) daNil))) (gdTup 2 (gdCons (gdSub (dVar 0) (dC (.int 0))) (gdCons (gdName 2) gdNil)))) (dRet (dVar 2))) dNext) (dSeq (dAsg (dOp oMod (dCall cInt (daCons (dOp oPlus (dOp oTimes (dOp oIx (dVar 0) (dC (.int 1))) (dC (.int 40014))) (dC (.int 1777))) daNil)) (dC (.int 2147483587))) (gdSub (dVar 0) (dC (.int 1)))) (dRet (dOp oMod (dCall cInt (daCons (dOp oDiv (dOp oMod (dCall cInt (daCons (dOp oTimes (dOp oIx (dVar 0) (dC (.int 1))) (dOp oIx (dVar 0) (dC (.int 1)))) daNil)) (dC (.int 2147483549))) (dC (.int 17))) daNil)) (dVar 1)))))
theorem pf_law_draw : ∀ ds μ Q, sp_law_draw ds μ Q → db_law_draw (retD Q) (startD ["pot", "many", "digit"] ds) μ := by
  intro ds μ Q h
  unfold sp_law_draw at h
  split at h
  · rename_i c m
    obtain ⟨⟨⟨a, b, hc, hp⟩, hm0, hm1⟩, h⟩ := h
    obtain ⟨p1, p2, p3⟩ := hp
    show db_law_draw (retD Q) [some (.cell c), some (.int m), none] μ
    unfold db_law_draw
    refine sq fun U hU => ?_
    walk_at "ev"
    rw [hc]
    simp -dsimp only [atI_0]
    walk_at "ev"
    have r0 := Int.emod_nonneg a (show m ≠ 0 by omega)
    have r1 := Int.emod_lt_of_pos a hm0
    by_cases e : 0 < a
    · rw [if_pos e]
      refine sq fun V hV => ?_
      walk_at "ev"
      rw [hc]
      simp -dsimp only [atI_0]
      walk_at "ev"
      refine ⟨⟨hm0, by omega⟩, ?_⟩
      refine hV.go ?_
      walk_at "ev"
      exact ⟨_, Mu.Sub.refl _, h _ r0 r1 _ _ ⟨Int.ediv_nonneg p1 (by omega), p2, p3⟩⟩
    · rw [if_neg e]
      refine hU.go ?_
      refine sq fun V hV => ?_
      walk_at "ev"
      rw [hc]
      simp -dsimp only [atI_1]
      walk_at "ev"
      refine ⟨mulL (by omega) (by omega), ?_⟩
      generalize hb : (b * 40014 + 1777) % 2147483587 = b'
      have b0 : 0 ≤ b' := by rw [← hb]; exact Int.emod_nonneg _ (by decide)
      have b1 : b' < 2147483587 := by rw [← hb]; exact Int.emod_lt_of_pos _ (by decide)
      refine hV.go ?_
      walk_at "ev"
      refine ⟨mulL (by omega) (by omega), div_ok (by decide) (by decide), hm0, ?_⟩
      exact ⟨_, Mu.Sub.refl _, h _ (Int.emod_nonneg _ (by omega)) (Int.emod_lt_of_pos _ hm0) _ _ ⟨p1, b0, by omega⟩⟩
  · exact h.elim
theorem ask_draw {c : Nat} {m : Int} {μ : Mu} {Q : DK} (hp : Pot μ c) (h0 : 0 < m) (h1 : m < 2 ^ 30) (h : ∀ r, 0 ≤ r → r < m → Turn c μ fun μ' => Q (.int r) μ') : sp_law_draw [.cell c, .int m] μ Q := ⟨⟨hp, h0, h1⟩, h⟩
theorem pot_turn {μ : Mu} {c : Nat} {a b : Int} (h : PB a b) : Pot (μ.upd c [.int a, .int b]) c := ⟨a, b, Mu.upd_same, h⟩
def sp_law_pick : DSp := fun ds μ Q => match ds with | [.cell c, .cell s] => (Pot μ c ∧ s ≠ c) ∧ ∃ xs, μ s = some xs ∧ (0 < xs.length ∧ xs.length < 2 ^ 30) ∧ ∀ x, x ∈ xs → Turn c μ fun μ' => Q x μ' | _ => False
theorem len_law_pick : ∀ ds μ Q, sp_law_pick ds μ Q → ds.length = (["pot", "some"] : List Str).length := by
  intro ds μ Q h
  unfold sp_law_pick at h
  split at h <;> first | rfl | exact h.elim
def db_law_pick : DTS := (dRet (dOp oIx (dVar 1) (dFn sp_law_draw (daCons (dVar 0) (daCons (dCall cLen (daCons (dVar 1) daNil)) daNil)))))
theorem pf_law_pick : ∀ ds μ Q, sp_law_pick ds μ Q → db_law_pick (retD Q) (startD ["pot", "some"] ds) μ := by
  intro ds μ Q h
  unfold sp_law_pick at h
  split at h
  · rename_i c s
    obtain ⟨⟨hp, hne⟩, xs, hs, ⟨hl0, hl1⟩, h⟩ := h
    show db_law_pick (retD Q) [some (.cell c), some (.cell s)] μ
    unfold db_law_pick
    walk_at "ev"
    rw [hs]
    walk_at "ev"
    refine ask_draw hp (by omega) (by omega) fun r h0 h1 a b hb => ?_
    walk_at "ev"
    rw [Mu.upd_ne hne, hs]
    have hl : r.toNat < xs.length := by omega
    have ha := atI_nat (xs := xs) (j := r.toNat) (List.getElem?_eq_getElem hl)
    rw [show ((r.toNat : Nat) : Int) = r by omega] at ha
    walk_at "ev"
    rw [ha]
    exact ⟨_, Mu.Sub.refl _, h _ (List.getElem_mem hl) a b hb⟩
  · exact h.elim
/-- one of a fresh list, told at once -/
theorem ask_pick {c s : Nat} {xs : List D} {μ : Mu} {Q : DK} (hp : Pot μ c) (hs : μ s = none) (hl : 0 < xs.length ∧ xs.length < 2 ^ 30) (h : ∀ x, x ∈ xs → Turn c (μ.upd s xs) fun μ' => Q x μ') : sp_law_pick [.cell c, .cell s] (μ.upd s xs) Q := by
  obtain ⟨a, b, hc, hb⟩ := hp
  have hne : c ≠ s := Mu.ne_of hc hs
  exact ⟨⟨⟨a, b, (Mu.upd_ne hne).trans hc, hb⟩, fun z => hne z.symm⟩, xs, Mu.upd_same, hl, h⟩
theorem sub_turn {μ μ' : Mu} (s : Mu.Sub μ' μ) (c : Nat) (xs : List D) : Mu.Sub (μ'.upd c xs) (μ.upd c xs) := s.upd c xs
end K12
namespace K12
open PySem PySem.Spec PyProof.Rows L2 Dl
local macro_rules | `(tactic| walk_at "ev") => `(tactic| try simp -dsimp only [↓dSeq_at, dRet, dRetN, dNext, dIfS, dAsg, dDrop, dPar, dNever, dVar, dC, dOp, dUn, dTest, dChain, dAnd, dOr, dNot, dIf, dtAnd, dtOr, dtNot, dTup, daNil, daCons, dCall, dFn, dFnK, dNew, dLst, dOf,
  gdName, gdTup, gdCons, gdNil, gdSub, rdI, rdI0, oPlus, oSub, oTimes, oDiv, oMod, oPow, oLt, oLe, oGt, oGe, oIx, oEq, oNe, uNeg, oIsN, oNotN, D.isNon, cAbs, cMax, cMin, cInt, cDivmod, cLen, cIsi, tyD, items, litems, retD, sTup, mApp, dYes,
  atI_0, atI_1, atI_2, atI_3, atI_4, ixN_20, ixN_21, kit_ii, kit_ib, kit_is, kit_it, kit_il, kit_bi, kit_bb, kit_bs, kit_bt, kit_bl, kit_si, kit_sb, kit_ss, kit_st, kit_sl, kit_ti, kit_tb, kit_ts, kit_tt, kit_tl, kit_li, kit_lb, kit_ls, kit_lt, kit_ll,
  List.getElem?_cons_zero, List.getElem?_cons_succ, List.set_cons_zero, List.set_cons_succ, List.length_cons, List.length_nil, Mu.upd_same, Mu.upd_upd, Nat.zero_add, Nat.reduceAdd, Nat.reduceLeDiff, natlit, Int.reduceEq, Int.reduceLT, Int.reduceLE, Int.reduceAdd, Int.reduceSub, Int.reduceMul, Int.reducePow, Int.reduceNeg, permG2_10, permG3_210, zl_0, zl_1, zl_2, zl_3, zl_4, zl_5, zl_6, zl_7, zl_8, zl_9, zl_10, zl_11, zl_12, zl_13, zl_14, zl_15, zl_16, zl_17, zl_18, zl_19, zl_20, true_and, and_true, eq_self, not_true_eq_false, not_false_eq_true, decide_true, decide_false, if_true, Bool.false_eq_true, if_false, Bool.not_true, Bool.not_false, decide_eq_true_eq, Bool.not_eq_true', decide_eq_false_iff_not, Option.isSome, Option.map])
/-! ## drawn rules -/
def chkR (r : R) : Bool := decide (r.fs.length ≤ 4) && (r.fs.all fun p => decide ((0 < p.1 ∧ p.1 ≤ 5000) ∧ 0 < p.2 ∧ p.2 ≤ 999 ∧ Int.gcd p.1 p.2 = 1)) && decide (1 ≤ r.bot ∧ r.bot ≤ 999) && decide (0 ≤ r.top ∧ r.top ≤ r.bot) && decide (Int.gcd r.top r.bot = 1) &&
  ((List.range (r.fs.length + 1)).all fun k => decide (lt (post r (k : Int)) (post r ((k : Int) + 1))) && decide (le ((k : Int), 1) (post r ((k : Int) + 1)) ∧ le (post r ((k : Int) + 1)) ((k : Int) + 1, 1)))
theorem gr_of {r : R} (h : chkR r = true) : GR r := by
  unfold chkR at h
  simp only [Bool.and_eq_true, decide_eq_true_eq, List.all_eq_true, List.mem_range] at h
  obtain ⟨⟨⟨⟨⟨h1, h2⟩, h3⟩, h4⟩, h5⟩, h6⟩ := h
  refine { len := h1, fsok := h2, bot := h3, top := h4, cop := h5, rise := fun k k0 k1 => ?_, near := fun k k0 k1 => ?_ }
  · have := (h6 k.toNat (by omega)).1
    rw [show ((k.toNat : Nat) : Int) = k by omega] at this
    exact this
  · have := (h6 k.toNat (by omega)).2
    rw [show ((k.toNat : Nat) : Int) = k by omega] at this
    exact this
def mkR (fs : List (Int × Int)) (t b : Int) : R := ⟨fs, (low t b).1, (low t b).2⟩
def menu : List (List (Int × Int) × Int × Int) := [([], 1, 2), ([], 1, 1), ([], 1, 3), ([(7, 10)], 1, 2), ([(1, 3), (1, 1)], 0, 1), ([(1, 1)], 1, 998), ([(1, 2), (4, 3), (2, 1)], 2, 5)]
def menuD (m : List (Int × Int) × Int × Int) : D := .tup [.tup (m.1.map fr), .int m.2.1, .int m.2.2]
theorem menu_ok : ∀ m ∈ menu, chkR (mkR m.1 m.2.1 m.2.2) = true ∧ 0 ≤ m.2.1 ∧ 0 < m.2.2 ∧ m.2.2 < 2 ^ 200 := by decide +kernel
theorem drawn_ok : ∀ b ∈ List.range 9, ∀ t ∈ List.range (b + 1), chkR (mkR [] (1 + (t : Int)) (1 + (b : Int))) = true := by decide +kernel
def sp_law_rule : DSp := fun ds μ Q => match ds with | [.cell c] => Pot μ c ∧ ∀ r, GR r → Turn c μ fun μ' => Q (enc r) μ' | _ => False
theorem len_law_rule : ∀ ds μ Q, sp_law_rule ds μ Q → ds.length = (["pot"] : List Str).length := by
  intro ds μ Q h
  unfold sp_law_rule at h
  split at h <;> first | rfl | exact h.elim
def db_law_rule : DTS := (dSeq (dAsg (dNew (dLst (daCons (dTup (daCons (dTup daNil) (daCons (dC (.int 1)) (daCons (dC (.int 2)) daNil)))) (daCons (dTup (daCons (dTup daNil) (daCons (dC (.int 1)) (daCons (dC (.int 1)) daNil)))) (daCons (dTup (daCons (dTup daNil) (daCons (dC (.int 1)) (daCons (dC (.int 3)) daNil)))) (daCons (dTup (daCons (dTup (daCons (dTup (daCons (dC (.int 7)) (daCons (dC (.int 10)) daNil))) daNil)) (daCons (dC (.int 1)) (daCons (dC (.int 2)) daNil)))) (daCons (dTup (daCons (dTup (daCons (dTup (daCons (dC (.int 1)) (daCons (dC (.int 3)) daNil))) (daCons (dTup (daCons (dC (.int 1)) (daCons (dC (.int 1)) daNil))) daNil))) (daCons (dC (.int 0)) (daCons (dC (.int 1)) daNil)))) (daCons (dTup (daCons (dTup (daCons (dTup (daCons (dC (.int 1)) (daCons (dC (.int 1)) daNil))) daNil)) (daCons (dC (.int 1)) (daCons (dC (.int 998)) daNil)))) (daCons (dTup (daCons (dTup (daCons (dTup (daCons (dC (.int 1)) (daCons (dC (.int 2)) daNil))) (daCons (dTup (daCons (dC (.int 4)) (daCons (dC (.int 3)) daNil))) (daCons (dTup (daCons (dC (.int 2)) (daCons (dC (.int 1)) daNil))) daNil)))) (daCons (dC (.int 2)) (daCons (dC (.int 5)) daNil)))) daNil))))))))) (gdName 1)) (dSeq (dIfS (dTest (dOp oGt (dFn sp_law_draw (daCons (dVar 0) (daCons (dC (.int 3)) daNil))) (dC (.int 0)))) (dAsg (dFn sp_law_pick (daCons (dVar 0) (daCons (dVar 1) daNil))) (gdTup 3 (gdCons (gdName 2) (gdCons (gdName 3) (gdCons (gdName 4) gdNil))))) (dSeq (dAsg (dOp oPlus (dC (.int 1)) (dFn sp_law_draw (daCons (dVar 0) (daCons (dC (.int 9)) daNil)))) (gdName 4)) (dPar 3 2 (daCons (dOp oPlus (dC (.int 1)) (dFn sp_law_draw (daCons (dVar 0) (daCons (dVar 4) daNil)))) (daCons (dTup daNil) daNil))))) (dRet (dOp oPlus (dTup (daCons (dC (.str "rule")) (daCons (dVar 2) daNil))) (dFn sp_law_lowest (daCons (dVar 3) (daCons (dVar 4) daNil)))))))
theorem pf_law_rule : ∀ ds μ Q, sp_law_rule ds μ Q → db_law_rule (retD Q) (startD ["pot", "some", "firsts", "top", "bottom"] ds) μ := by
  intro ds μ Q h
  unfold sp_law_rule at h
  split at h
  · rename_i c
    obtain ⟨⟨a0, b0, hc, hp⟩, h⟩ := h
    show db_law_rule (retD Q) [some (.cell c), none, none, none, none] μ
    unfold db_law_rule
    refine sq fun U hU => ?_
    walk_at "ev"
    intro s hs
    have hne : c ≠ s := Mu.ne_of hc hs
    show U _ (μ.upd s (menu.map menuD))
    have fin : ∀ {fs : List (Int × Int)} {t b : Int} {μ' : Mu} {V : Rho → Mu → Prop} {x : Option D}, chkR (mkR fs t b) = true → 0 ≤ t → 0 < b → b < 2 ^ 200 → (∃ a' b', PB a' b' ∧ Mu.Sub (μ.upd c [.int a', .int b']) μ') →
        Nx (dRet (dOp oPlus (dTup (daCons (dC (.str "rule")) (daCons (dVar 2) daNil))) (dFn sp_law_lowest (daCons (dVar 3) (daCons (dVar 4) daNil)))) (retD Q)) V →
        V [some (.cell c), x, some (.tup (fs.map fr)), some (.int t), some (.int b)] μ' := by
      intro fs t b μ' V x hk ht hb hb2 hs hV
      obtain ⟨a', b', hp', hs⟩ := hs
      refine hV.go ?_
      walk_at "ev"
      refine ⟨⟨ht, hb, hb2⟩, ?_⟩
      simp -dsimp only [fr]
      walk_at "ev"
      exact ⟨_, hs, h _ (gr_of hk) _ _ hp'⟩
    refine hU.go ?_
    refine sq fun U hU => ?_
    walk_at "ev"
    refine ask_draw ⟨a0, b0, (Mu.upd_ne hne).trans hc, hp⟩ (by decide) (by decide) fun r h0 h1 a1 b1 hp1 => ?_
    walk_at "ev"
    have sub1 : ∀ x : List D, Mu.Sub (μ.upd c x) ((μ.upd s (menu.map menuD)).upd c x) := fun x => (Mu.sub_upd hs).upd c x
    by_cases e : 0 < r
    · rw [if_pos e]
      refine ⟨⟨⟨a1, b1, Mu.upd_same, hp1⟩, hne.symm⟩, menu.map menuD, (Mu.upd_ne hne.symm).trans Mu.upd_same, ⟨by decide, by decide⟩, fun x hx a2 b2 hp2 => ?_⟩
      obtain ⟨m, hm, rfl⟩ := List.mem_map.mp hx
      obtain ⟨k1, k2, k3, k4⟩ := menu_ok m hm
      simp -dsimp only [menuD]
      walk_at "ev"
      exact fin k1 k2 k3 k4 ⟨_, _, hp2, sub1 _⟩ hU
    · rw [if_neg e]
      refine sq fun V hV => ?_
      walk_at "ev"
      refine ask_draw ⟨a1, b1, Mu.upd_same, hp1⟩ (by decide) (by decide) fun r2 h2 h3 a2 b2 hp2 => ?_
      walk_at "ev"
      refine hV.go ?_
      walk_at "ev"
      refine ask_draw ⟨a2, b2, Mu.upd_same, hp2⟩ (by omega) (by omega) fun r3 h4 h5 a3 b3 hp3 => ?_
      walk_at "ev"
      have hk := drawn_ok r2.toNat (List.mem_range.mpr (by omega)) r3.toNat (List.mem_range.mpr (by omega))
      rw [show ((r2.toNat : Nat) : Int) = r2 by omega, show ((r3.toNat : Nat) : Int) = r3 by omega] at hk
      exact fin (fs := []) hk (by omega) (by omega) (by omega) ⟨_, _, hp3, sub1 _⟩ hU
  · exact h.elim
theorem ask_law_rule {c : Nat} {μ : Mu} {Q : DK} (hp : Pot μ c) (h : ∀ r, GR r → Turn c μ fun μ' => Q (enc r) μ') : sp_law_rule [.cell c] μ Q := ⟨hp, h⟩
/-! ## signposts by the law -/
def sp_law_post : DSp := fun ds μ Q => ∃ r k, ds = [enc r, .int k] ∧ (Gr0 r ∧ 0 ≤ k ∧ k ≤ 10 ^ 20) ∧ Q (fr (post r k)) μ
theorem len_law_post : ∀ ds μ Q, sp_law_post ds μ Q → ds.length = (["rule", "many"] : List Str).length := by
  rintro ds μ Q ⟨r, k, rfl, _⟩
  rfl
def db_law_post : DTS := (dSeq (dIfS (dTest (dOp oEq (dVar 1) (dC (.int 0)))) (dRet (dTup (daCons (dC (.int 0)) (daCons (dC (.int 1)) daNil)))) dNext) (dSeq (dIfS (dTest (dOp oLe (dVar 1) (dCall cLen (daCons (dOp oIx (dVar 0) (dC (.int 1))) daNil)))) (dRet (dOp oIx (dOp oIx (dVar 0) (dC (.int 1))) (dOp oSub (dVar 1) (dC (.int 1))))) dNext) (dRet (dFn sp_law_lowest (daCons (dOp oPlus (dOp oTimes (dOp oSub (dVar 1) (dC (.int 1))) (dOp oIx (dVar 0) (dC (.int 3)))) (dOp oIx (dVar 0) (dC (.int 2)))) (daCons (dOp oIx (dVar 0) (dC (.int 3))) daNil))))))
theorem pf_law_post : ∀ ds μ Q, sp_law_post ds μ Q → db_law_post (retD Q) (startD ["rule", "many"] ds) μ := by
  rintro ds μ Q ⟨r, k, rfl, ⟨g, h0, h1⟩, h⟩
  show db_law_post (retD Q) [some (enc r), some (.int k)] μ
  unfold db_law_post
  refine sq fun U hU => ?_
  unfold enc
  walk_at "ev"
  by_cases e : k = 0
  · rw [if_pos e]
    subst e
    exact ⟨μ, Mu.Sub.refl _, h⟩
  · rw [if_neg e]
    refine hU.go ?_
    refine sq fun U hU => ?_
    walk_at "ev"
    rw [List.length_map]
    by_cases e2 : k ≤ r.fs.length
    · rw [if_pos e2, atI_map]
      obtain ⟨p, hp, ep, ea⟩ := post_in (by omega) e2
      rw [ea]
      rw [ep] at h
      exact ⟨μ, Mu.Sub.refl _, h⟩
    · rw [if_neg e2]
      refine hU.go ?_
      walk_at "ev"
      have hb := g.bot
      have ht := g.top
      have hm : 0 ≤ (k - 1) * r.bot := Int.mul_nonneg (by omega) (by omega)
      refine ⟨mulR (by omega) (by omega), ⟨by omega, by omega, by omega⟩, μ, Mu.Sub.refl _, ?_⟩
      rw [post_out (by omega)] at h
      exact h
theorem ask_law_post {r : R} {k : Int} (g : GR r) (h0 : 0 ≤ k) (h1 : k ≤ 10 ^ 20) {μ : Mu} {Q : DK} (h : Q (fr (post r k)) μ) : sp_law_post [enc r, .int k] μ Q := ⟨r, k, rfl, ⟨g.toGr0, h0, h1⟩, h⟩
/-! ## drawn fractions -/
theorem gf_low {t b : Int} (h0 : 0 < t) (h1 : t ≤ 10 ^ 15) (h2 : 0 < b) (h3 : b ≤ 10 ^ 15) : GF (low t b) := by
  have hp := gcd_pos (t := t) h2
  have s := low_sz (t := t) h2
  refine ⟨⟨?_, by omega⟩, ⟨s.1, by omega⟩, ?_⟩
  · show 0 < t / (Int.gcd t b : Int)
    exact Int.ediv_pos_of_pos_of_dvd h0 (by omega) (Int.gcd_dvd_left t b)
  · exact Int.gcd_ediv_gcd_ediv_gcd (by omega)
theorem post_bd {r : R} (g : GR r) {k : Int} (h0 : 1 ≤ k) (h1 : k ≤ 200) : 0 < (post r k).1 ∧ (post r k).1 ≤ 199800 ∧ 0 < (post r k).2 ∧ (post r k).2 ≤ 999 := by
  have s := post_sz g.toGr0 (k := k) (by omega) (by omega)
  have a := at_most g (k := k) (by omega)
  have b := rise_all g (k := k - 1) (by omega)
  have c := post_sz g.toGr0 (k := k - 1) (by omega) (by omega)
  rw [show k - 1 + 1 = k by omega] at b
  simp only [le, lt] at a b
  have d : k * (post r k).2 ≤ 200 * 999 := mul_le_of (by omega) (by omega) h1 s.2.2.2
  refine ⟨?_, by omega, s.2.2.1, s.2.2.2⟩
  have e : 0 ≤ (post r (k - 1)).1 * (post r k).2 := Int.mul_nonneg (by omega) (by omega)
  rcases Int.lt_or_le 0 (post r k).1 with z | z
  · exact z
  · have : (post r k).1 = 0 := by omega
    rw [this] at b
    omega
theorem gf_post {r : R} (g : GR r) {k : Int} (h0 : 1 ≤ k) (h1 : k ≤ 200) : GF (post r k) := by
  have s := post_bd g h0 h1
  refine ⟨⟨s.1, by omega⟩, ⟨s.2.2.1, by omega⟩, ?_⟩
  by_cases e2 : k ≤ r.fs.length
  · obtain ⟨p, hp, ep, _⟩ := post_in (by omega) e2
    rw [ep]
    exact (g.fsok p hp).2.2.2
  · rw [post_out (by omega)]
    have hb := g.bot
    exact Int.gcd_ediv_gcd_ediv_gcd (by have := gcd_pos (t := (k - 1) * r.bot + r.top) (b := r.bot) (by omega); omega)
def sp_law_fraction : DSp := fun ds μ Q => ∃ c r, ds = [.cell c, enc r] ∧ (Pot μ c ∧ GR r) ∧ ∀ x, GF x → Turn c μ fun μ' => Q (fr x) μ'
theorem len_law_fraction : ∀ ds μ Q, sp_law_fraction ds μ Q → ds.length = (["pot", "rule"] : List Str).length := by
  rintro ds μ Q ⟨r, k, rfl, _⟩
  rfl
def db_law_fraction : DTS := (dSeq (dAsg (dFn sp_law_draw (daCons (dVar 0) (daCons (dC (.int 5)) daNil))) (gdName 2)) (dSeq (dIfS (dTest (dOp oEq (dVar 2) (dC (.int 0)))) (dRet (dFn sp_law_lowest (daCons (dOp oPlus (dC (.int 1)) (dFn sp_law_draw (daCons (dVar 0) (daCons (dOp oPow (dC (.int 10)) (dC (.int 6))) daNil)))) (daCons (dOp oPlus (dC (.int 1)) (dFn sp_law_draw (daCons (dVar 0) (daCons (dOp oPow (dC (.int 10)) (dC (.int 6))) daNil)))) daNil)))) dNext) (dSeq (dIfS (dTest (dOp oEq (dVar 2) (dC (.int 1)))) (dRet (dFn sp_law_lowest (daCons (dOp oPlus (dC (.int 1)) (dFn sp_law_draw (daCons (dVar 0) (daCons (dC (.int 40)) daNil)))) (daCons (dOp oPlus (dC (.int 1)) (dFn sp_law_draw (daCons (dVar 0) (daCons (dC (.int 12)) daNil)))) daNil)))) dNext) (dSeq (dAsg (dFn sp_law_post (daCons (dVar 1) (daCons (dOp oPlus (dC (.int 1)) (dFn sp_law_draw (daCons (dVar 0) (daCons (dFn sp_law_pick (daCons (dVar 0) (daCons (dNew (dLst (daCons (dC (.int 3)) (daCons (dC (.int 8)) (daCons (dC (.int 190)) daNil))))) daNil))) daNil)))) daNil))) (gdName 3)) (dSeq (dAsg (dFn sp_law_pick (daCons (dVar 0) (daCons (dNew (dLst (daCons (dC (.int 1000)) (daCons (dOp oPow (dC (.int 10)) (dC (.int 6))) (daCons (dC (.int 7)) daNil))))) daNil))) (gdName 4)) (dRet (dIf (dTest (dOp oEq (dVar 2) (dC (.int 2)))) (dVar 3) (dFn sp_law_lowest (daCons (dOp oPlus (dOp oTimes (dOp oIx (dVar 3) (dC (.int 0))) (dVar 4)) (dIf (dTest (dOp oEq (dVar 2) (dC (.int 3)))) (dC (.int 1)) (dUn uNeg (dC (.int 1))))) (daCons (dOp oTimes (dOp oIx (dVar 3) (dC (.int 1))) (dVar 4)) daNil))))))))))
theorem pf_law_fraction : ∀ ds μ Q, sp_law_fraction ds μ Q → db_law_fraction (retD Q) (startD ["pot", "rule", "way", "post", "by"] ds) μ := by
  rintro ds μ Q ⟨c, r, rfl, ⟨hp, g⟩, h⟩
  show db_law_fraction (retD Q) [some (.cell c), some (enc r), none, none, none] μ
  unfold db_law_fraction
  refine sq fun U hU => ?_
  walk_at "ev"
  refine ask_draw hp (by decide) (by decide) fun way h0 h1 a1 b1 hp1 => ?_
  refine hU.go ?_
  refine sq fun U hU => ?_
  walk_at "ev"
  by_cases e : way = 0
  · rw [if_pos e]
    refine ⟨⟨by decide, by decide, by decide⟩, ?_⟩
    refine ask_draw (pot_turn hp1) (by decide) (by decide) fun r1 k0 k1 a2 b2 hp2 => ?_
    refine ⟨⟨by decide, by decide, by decide⟩, ?_⟩
    refine ask_draw (pot_turn hp2) (by decide) (by decide) fun r2 k2 k3 a3 b3 hp3 => ?_
    walk_at "ev"
    have z : (10 : Int) ^ Int.toNat 6 = 1000000 := by decide
    rw [z] at k1 k3
    exact ⟨⟨by omega, by omega, by omega⟩, _, Mu.Sub.refl _, h _ (gf_low (by omega) (by omega) (by omega) (by omega)) _ _ hp3⟩
  rw [if_neg e]
  refine hU.go ?_
  refine sq fun U hU => ?_
  walk_at "ev"
  by_cases e1 : way = 1
  · rw [if_pos e1]
    refine ask_draw (pot_turn hp1) (by decide) (by decide) fun r1 k0 k1 a2 b2 hp2 => ?_
    refine ask_draw (pot_turn hp2) (by decide) (by decide) fun r2 k2 k3 a3 b3 hp3 => ?_
    walk_at "ev"
    exact ⟨⟨by omega, by omega, by omega⟩, _, Mu.Sub.refl _, h _ (gf_low (by omega) (by omega) (by omega) (by omega)) _ _ hp3⟩
  rw [if_neg e1]
  refine hU.go ?_
  refine sq fun U hU => ?_
  walk_at "ev"
  intro s hs
  refine ask_pick (pot_turn hp1) hs ⟨by decide, by decide⟩ fun x hx a2 b2 hp2 => ?_
  obtain ⟨m, rfl, m0, m1⟩ : ∃ m : Int, x = .int m ∧ 0 < m ∧ m ≤ 190 := by
    cases hx with
    | head => exact ⟨3, rfl, by decide, by decide⟩
    | tail _ hx =>
      cases hx with
      | head => exact ⟨8, rfl, by decide, by decide⟩
      | tail _ hx =>
        cases hx with
        | head => exact ⟨190, rfl, by decide, by decide⟩
        | tail _ hx => cases hx
  refine ask_draw (pot_turn hp2) m0 (by omega) fun q q0 q1 a3 b3 hp3 => ?_
  walk_at "ev"
  refine ask_law_post g (by omega) (by omega) ?_
  have ne : c ≠ s := Mu.ne_of Mu.upd_same hs
  have sb : Mu.Sub (μ.upd c [.int a3, .int b3]) (((μ.upd c [.int a1, .int b1]).upd s [.int 3, .int 8, .int 190]).upd c [.int a3, .int b3]) := by
    have := (Mu.sub_upd (xs := [D.int 3, .int 8, .int 190]) hs).upd c [.int a3, .int b3]
    rw [Mu.upd_upd] at this
    exact this
  refine hU.fgt sb ?_
  refine sq fun U hU => ?_
  walk_at "ev"
  refine ⟨⟨by decide, by decide, by decide⟩, ?_⟩
  intro s2 hs2
  have z : (10 : Int) ^ Int.toNat 6 = 1000000 := by decide
  rw [z]
  refine ask_pick (pot_turn hp3) hs2 ⟨by decide, by decide⟩ fun x hx a4 b4 hp4 => ?_
  obtain ⟨m, rfl, m0, m1⟩ : ∃ m : Int, x = .int m ∧ 7 ≤ m ∧ m ≤ 1000000 := by
    cases hx with
    | head => exact ⟨1000, rfl, by decide, by decide⟩
    | tail _ hx =>
      cases hx with
      | head => exact ⟨1000000, rfl, by decide, by decide⟩
      | tail _ hx =>
        cases hx with
        | head => exact ⟨7, rfl, by decide, by decide⟩
        | tail _ hx => cases hx
  have sb2 : Mu.Sub (μ.upd c [.int a4, .int b4]) (((μ.upd c [.int a3, .int b3]).upd s2 [.int 1000, .int 1000000, .int 7]).upd c [.int a4, .int b4]) := by
    have := (Mu.sub_upd (xs := [D.int 1000, .int 1000000, .int 7]) hs2).upd c [.int a4, .int b4]
    rw [Mu.upd_upd] at this
    exact this
  refine hU.fgt sb2 ?_
  simp -dsimp only [fr]
  walk_at "ev"
  have pb := post_bd g (k := 1 + q) (by omega) (by omega)
  have d1 : (post r (1 + q)).1 * m ≤ 199800 * 1000000 := mul_le_of (by omega) (by omega) (by omega) m1
  have d2 : (post r (1 + q)).2 * m ≤ 999 * 1000000 := mul_le_of (by omega) (by omega) (by omega) m1
  have d3 : 1 * 7 ≤ (post r (1 + q)).1 * m := mul_le_of (by omega) (by omega) (by omega) m0
  have d4 : 1 * 7 ≤ (post r (1 + q)).2 * m := mul_le_of (by omega) (by omega) (by omega) m0
  by_cases e2 : way = 2
  · rw [if_pos e2]
    exact ⟨_, Mu.Sub.refl _, h _ (gf_post g (by omega) (by omega)) _ _ hp4⟩
  · rw [if_neg e2]
    refine ⟨mulL (by omega) (by omega), ?_⟩
    by_cases e3 : way = 3
    · rw [if_pos e3]
      refine ⟨mulL (by omega) (by omega), ⟨by omega, by omega, by omega⟩, _, Mu.Sub.refl _, h _ (gf_low (by omega) (by omega) (by omega) (by omega)) _ _ hp4⟩
    · rw [if_neg e3]
      refine ⟨mulL (by omega) (by omega), ⟨by omega, by omega, by omega⟩, _, Mu.Sub.refl _, h _ (gf_low (by omega) (by omega) (by omega) (by omega)) _ _ hp4⟩
end K12
namespace K12
open PySem PySem.Spec PyProof.Rows L2 Dl
/-! ## the greatest of fractions in lowest terms -/
theorem dvd_cop {a b c : Int} (h : Int.gcd a b = 1) (d : b ∣ a * c) : b ∣ c := by
  refine Int.natAbs_dvd_natAbs.mp (Nat.Coprime.dvd_of_dvd_mul_left (m := a.natAbs) ?_ ?_)
  · show Nat.gcd b.natAbs a.natAbs = 1
    rw [Nat.gcd_comm]
    exact h
  · rw [← Int.natAbs_mul]
    exact Int.natAbs_dvd_natAbs.mpr d
theorem can_eq {p q : Int × Int} (hp : GF p) (hq : GF q) (h1 : le p q) (h2 : le q p) : p = q := by
  have e : p.1 * q.2 = q.1 * p.2 := Int.le_antisymm h1 h2
  have p2 := hp.p2.1
  have q2 := hq.p2.1
  have a : p.2 ∣ q.2 := by
    have d : p.2 ∣ p.1 * q.2 := ⟨q.1, by rw [e, Int.mul_comm]⟩
    exact dvd_cop hp.cop d
  have b : q.2 ∣ p.2 := by
    have d : q.2 ∣ q.1 * p.2 := ⟨p.1, by rw [← e, Int.mul_comm]⟩
    exact dvd_cop hq.cop d
  have e2 : p.2 = q.2 := Int.le_antisymm (Int.le_of_dvd q2 a) (Int.le_of_dvd p2 b)
  rw [e2] at e
  exact Prod.ext (Int.eq_of_mul_eq_mul_right (by omega) e) e2
def IsMax (b : Int × Int) (l : List (Int × Int)) : Prop := b ∈ l ∧ ∀ x ∈ l, le x b
def up (b x : Int × Int) : Int × Int := if lt b x then x else b
def bst (l : List (Int × Int)) : Int × Int := l.foldl up (l.headD (0, 1))
theorem le_rfl' (p : Int × Int) : le p p := Int.le_refl _
theorem up_le {b x : Int × Int} : le b (up b x) ∧ le x (up b x) := by
  unfold up
  by_cases h : lt b x
  · rw [if_pos h]
    exact ⟨lt_le h, le_rfl' x⟩
  · rw [if_neg h]
    exact ⟨le_rfl' b, not_lt.mp h⟩
theorem up_or {b x : Int × Int} : up b x = b ∨ up b x = x := by
  unfold up
  by_cases h : lt b x
  · exact .inr (if_pos h)
  · exact .inl (if_neg h)
theorem fold_max : ∀ (l : List (Int × Int)) (b : Int × Int), GF b → (∀ x ∈ l, GF x) → (l.foldl up b = b ∨ l.foldl up b ∈ l) ∧ GF (l.foldl up b) ∧ le b (l.foldl up b) ∧ ∀ x ∈ l, le x (l.foldl up b)
  | [], b, gb, _ => ⟨.inl rfl, gb, le_rfl' b, fun x hx => nomatch hx⟩
  | y :: l, b, gb, hl => by
    have gy := hl y (List.mem_cons_self ..)
    have gu : GF (up b y) := by
      rcases up_or (b := b) (x := y) with e | e
      · rw [e]; exact gb
      · rw [e]; exact gy
    obtain ⟨h1, h2, h3, h4⟩ := fold_max l (up b y) gu fun x hx => hl x (List.mem_cons_of_mem _ hx)
    rw [List.foldl_cons]
    have ub := up_le (b := b) (x := y)
    refine ⟨?_, h2, le_tr gb.p2.1 gu.p2.1 h2.p2.1 ub.1 h3, fun x hx => ?_⟩
    · rcases h1 with e | e
      · rw [e]
        rcases up_or (b := b) (x := y) with q | q
        · exact .inl q
        · exact .inr (by rw [q]; exact List.mem_cons_self ..)
      · exact .inr (List.mem_cons_of_mem _ e)
    · cases hx with
      | head => exact le_tr gy.p2.1 gu.p2.1 h2.p2.1 ub.2 h3
      | tail _ hx => exact h4 x hx
theorem bst_max {l : List (Int × Int)} (h : l ≠ []) (g : ∀ x ∈ l, GF x) : IsMax (bst l) l ∧ GF (bst l) := by
  cases l with
  | nil => exact absurd rfl h
  | cons y l =>
    have f := fold_max (y :: l) y (g y (List.mem_cons_self ..)) g
    refine ⟨⟨?_, f.2.2.2⟩, f.2.1⟩
    rcases f.1 with e | e
    · show List.foldl up y (y :: l) ∈ _
      rw [e]
      exact List.mem_cons_self ..
    · exact e
theorem max_uni {l : List (Int × Int)} {b c : Int × Int} (g : ∀ x ∈ l, GF x) (hb : IsMax b l) (hc : IsMax c l) : b = c :=
  can_eq (g b hb.1) (g c hc.1) (hc.2 b hb.1) (hb.2 c hc.1)
/-! ## prices -/
def cost (r : R) (v m : Int) : Int × Int := low (v * (post r m).2) (post r m).1
theorem cost_gf {r : R} (g : GR r) {v m : Int} (v0 : 1 ≤ v) (v1 : v ≤ 10 ^ 9) (m0 : 1 ≤ m) (m1 : m ≤ 200) : GF (cost r v m) := by
  have b := post_bd g m0 m1
  have u : 1 * 1 ≤ v * (post r m).2 := Int.mul_le_mul v0 (by omega) (by omega) (by omega)
  have d : v * (post r m).2 ≤ 10 ^ 9 * 999 := mul_le_of (by omega) (by omega) v1 b.2.2.2
  exact gf_low (by omega) (by omega) b.1 (by omega)
theorem cost_down {r : R} (g : GR r) {v m : Int} (v0 : 1 ≤ v) (m0 : 1 ≤ m) (m1 : m + 1 ≤ 200) : lt (cost r v (m + 1)) (cost r v m) := by
  have b1 := post_bd g m0 (by omega)
  have b2 := post_bd g (k := m + 1) (by omega) m1
  have ri := rise_all g (k := m) (by omega)
  have e1 := low_eqv (t := v * (post r m).2) b1.1
  have e2 := low_eqv (t := v * (post r (m + 1)).2) b2.1
  have s1 := (low_sz (t := v * (post r m).2) b1.1).1
  have s2 := (low_sz (t := v * (post r (m + 1)).2) b2.1).1
  have mid : lt (v * (post r (m + 1)).2, (post r (m + 1)).1) (v * (post r m).2, (post r m).1) := by
    simp only [lt] at ri ⊢
    rw [Int.mul_assoc, Int.mul_assoc]
    refine Int.mul_lt_mul_of_pos_left ?_ (by omega)
    rw [Int.mul_comm (post r (m + 1)).2, Int.mul_comm (post r m).2]
    exact ri
  exact lt_of_le_lt s2 b2.1 s1 e2.1 (lt_of_lt_le b2.1 b1.1 s1 mid e1.2)
theorem cost_fall {r : R} (g : GR r) {v : Int} (v0 : 1 ≤ v) (v1 : v ≤ 10 ^ 9) {m : Int} (m0 : 1 ≤ m) : ∀ (d : Nat), m + (d : Int) + 1 ≤ 200 → lt (cost r v (m + (d : Int) + 1)) (cost r v m)
  | 0, h => by
    have := cost_down g (v := v) v0 m0 (by omega)
    rw [show m + ((0 : Nat) : Int) + 1 = m + 1 by omega]
    exact this
  | d + 1, h => by
    have a := cost_fall g v0 v1 m0 d (by omega)
    have b := cost_down g (v := v) (m := m + (d : Int) + 1) v0 (by omega) (by omega)
    rw [show m + ((d + 1 : Nat) : Int) + 1 = m + (d : Int) + 1 + 1 by omega]
    exact lt_of_lt_le (cost_gf g v0 v1 (by omega) (by omega)).p2.1 (cost_gf g v0 v1 (by omega) (by omega)).p2.1 (cost_gf g v0 v1 m0 (by omega)).p2.1 b (lt_le a)
theorem cost_after {r : R} (g : GR r) {v m n : Int} (v0 : 1 ≤ v) (v1 : v ≤ 10 ^ 9) (m0 : 1 ≤ m) (h : m < n) (n1 : n ≤ 200) : lt (cost r v n) (cost r v m) := by
  have := cost_fall g (v := v) v0 v1 m0 (n - m - 1).toNat (by omega)
  rw [show m + ((n - m - 1).toNat : Int) + 1 = n by omega] at this
  exact this
/-! ## the steps -/
def vt (vs : List Int) (a : Nat) : Int := vs.getD a 0
structure Vok (vs : List Int) : Prop where
  len : 1 ≤ vs.length ∧ vs.length ≤ 12
  v : ∀ x ∈ vs, 0 ≤ x ∧ x ≤ 10 ^ 9
theorem Vok.at {vs : List Int} (h : Vok vs) (a : Nat) : 0 ≤ vt vs a ∧ vt vs a ≤ 10 ^ 9 := by
  unfold vt
  rw [List.getD_eq_getElem?_getD]
  cases e : vs[a]? with
  | none => exact ⟨by decide, by decide⟩
  | some x => exact h.v x (List.mem_of_getElem? e)
abbrev Sf := Nat → Int
section
variable (r : R) (vs : List Int)
def act : List Nat := (List.range vs.length).filter fun a => decide (0 < vt vs a)
def pr (s : Sf) (a : Nat) : Int × Int := cost r (vt vs a) (s a + 1)
def best (s : Sf) : Int × Int := bst ((act vs).map (pr r vs s))
def isl (s : Sf) (a : Nat) : Bool := decide (0 < vt vs a) && decide (pr r vs s a = best r vs s)
def lot (s : Sf) : List Nat := (act vs).filter fun a => decide (pr r vs s a = best r vs s)
def give (s : Sf) : Sf := fun a => if isl r vs s a = true then s a + 1 else s a
def tot (s : Sf) : Int := ((List.range vs.length).map s).sum
def S : Nat → Sf
  | 0 => fun _ => 0
  | j + 1 => give r vs (S j)
def stepD (s : Sf) : D := .tup [fr (best r vs s), .tup ((lot r vs s).map fun a => .int ((a : Nat) : Int))]
def rowS (J : Nat) : List D := (List.range J).map fun j => stepD r vs (S r vs j)
structure Ends (h : Int) (J : Nat) : Prop where
  low : ∀ j, j < J → act vs ≠ [] ∧ tot vs (S r vs j) < h
  top : act vs = [] ∨ h ≤ tot vs (S r vs J)
theorem rowS_succ (J : Nat) : rowS r vs (J + 1) = rowS r vs J ++ [stepD r vs (S r vs J)] := by
  unfold rowS
  rw [List.range_succ, List.map_append]
  rfl
theorem rowS_len (J : Nat) : (rowS r vs J).length = J := by
  unfold rowS
  rw [List.length_map, List.length_range]
end
theorem Ends.uni {r : R} {vs : List Int} {h : Int} {J J' : Nat} (a : Ends r vs h J) (b : Ends r vs h J') : J = J' := by
  rcases Nat.lt_trichotomy J J' with e | e | e
  · have c := b.low J e
    rcases a.top with t | t
    · exact absurd t c.1
    · omega
  · exact e
  · have c := a.low J' e
    rcases b.top with t | t
    · exact absurd t c.1
    · omega
theorem lot_eq (r : R) (vs : List Int) (s : Sf) : lot r vs s = (List.range vs.length).filter (isl r vs s) := by
  unfold lot act isl
  rw [List.filter_filter]
  refine List.filter_congr fun a _ => ?_
  rw [Bool.and_comm]
theorem sum_bump (c : Nat → Bool) (f : Nat → Int) : ∀ l : List Nat, (l.map fun a => if c a = true then f a + 1 else f a).sum = (l.map f).sum + ((l.filter c).length : Nat)
  | [] => rfl
  | a :: l => by
    rw [List.map_cons, List.map_cons, List.sum_cons, List.sum_cons, sum_bump c f l, List.filter_cons]
    by_cases h : c a = true
    · rw [if_pos h, if_pos h, List.length_cons]
      omega
    · rw [if_neg h, if_neg h]
      omega
theorem tot_give (r : R) (vs : List Int) (s : Sf) : tot vs (give r vs s) = tot vs s + ((lot r vs s).length : Nat) := by
  rw [lot_eq]
  exact sum_bump (isl r vs s) s _
theorem S_pos (r : R) (vs : List Int) : ∀ (j : Nat) (a : Nat), 0 ≤ S r vs j a
  | 0, a => Int.le_refl _
  | j + 1, a => by
    have := S_pos r vs j a
    show 0 ≤ give r vs (S r vs j) a
    unfold give
    split <;> omega
theorem sum_ge {f : Nat → Int} (h : ∀ a, 0 ≤ f a) : ∀ (l : List Nat), 0 ≤ (l.map f).sum ∧ ∀ a ∈ l, f a ≤ (l.map f).sum
  | [] => ⟨Int.le_refl _, fun a ha => nomatch ha⟩
  | b :: l => by
    have i := sum_ge h l
    have hb := h b
    rw [List.map_cons, List.sum_cons]
    refine ⟨by omega, fun a ha => ?_⟩
    cases ha with
    | head => omega
    | tail _ ha =>
      have := i.2 a ha
      omega
theorem S_le (r : R) (vs : List Int) (j : Nat) {a : Nat} (ha : a < vs.length) : S r vs j a ≤ tot vs (S r vs j) := (sum_ge (S_pos r vs j) _).2 a (List.mem_range.mpr ha)
theorem tot_0 (r : R) (vs : List Int) : tot vs (S r vs 0) = 0 := by
  show ((List.range vs.length).map fun _ => (0 : Int)).sum = 0
  have : ∀ l : List Nat, (l.map fun _ => (0 : Int)).sum = 0 := fun l => by
    induction l with
    | nil => rfl
    | cons a l ih =>
      rw [List.map_cons, List.sum_cons, ih]
      rfl
  exact this _
/-- seats that the next steps may be drawn from -/
structure Sok (vs : List Int) (h : Int) (s : Sf) : Prop where
  lo : ∀ a, 0 ≤ s a
  hi : ∀ a, a < vs.length → s a < h
  hh : h ≤ 200
theorem S_ok {r : R} {vs : List Int} {h : Int} {j : Nat} (h2 : h ≤ 200) (t : tot vs (S r vs j) < h) : Sok vs h (S r vs j) := ⟨S_pos r vs j, fun a ha => by have := S_le r vs j ha; omega, h2⟩
section
variable {r : R} {vs : List Int} {h : Int} {s : Sf} (g : GR r) (hv : Vok vs) (hs : Sok vs h s)
theorem act_mem {a : Nat} : a ∈ act vs ↔ a < vs.length ∧ 0 < vt vs a := by
  unfold act
  rw [List.mem_filter, List.mem_range, decide_eq_true_eq]
include g hv hs
theorem pr_gf {a : Nat} (ha : a ∈ act vs) : GF (pr r vs s a) := by
  have v := hv.at a
  have m := act_mem.mp ha
  have lo := hs.lo a
  have hi := hs.hi a m.1
  have hh := hs.hh
  exact cost_gf g (by omega) v.2 (by omega) (by omega)
theorem prs_gf : ∀ x ∈ (act vs).map (pr r vs s), GF x := by
  intro x hx
  obtain ⟨a, ha, rfl⟩ := List.mem_map.mp hx
  exact pr_gf g hv hs ha
theorem best_max (ha : act vs ≠ []) : IsMax (best r vs s) ((act vs).map (pr r vs s)) ∧ GF (best r vs s) := bst_max (by simpa using ha) (prs_gf g hv hs)
theorem lot_pos (ha : act vs ≠ []) : 1 ≤ (lot r vs s).length := by
  have b := (best_max g hv hs ha).1.1
  obtain ⟨a, h1, h2⟩ := List.mem_map.mp b
  have : a ∈ lot r vs s := List.mem_filter.mpr ⟨h1, decide_eq_true h2⟩
  exact List.length_pos_of_mem this
end
def il (lo hi : Int) : List Int := (List.range (hi - lo).toNat).map fun i => lo + (i : Nat)
theorem mem_il {lo hi n : Int} : n ∈ il lo hi ↔ lo ≤ n ∧ n < hi := by
  unfold il
  rw [List.mem_map]
  constructor
  · rintro ⟨i, hi, rfl⟩
    have := List.mem_range.mp hi
    omega
  · intro h
    exact ⟨(n - lo).toNat, List.mem_range.mpr (by omega), by omega⟩
theorem il_cons {lo hi : Int} (h : lo < hi) : il lo hi = lo :: il (lo + 1) hi := by
  unfold il
  rw [show (hi - lo).toNat = (hi - (lo + 1)).toNat + 1 by omega, List.range_succ_eq_map, List.map_cons, List.map_map]
  refine congr (congrArg _ (by omega)) (List.map_congr_left fun i _ => ?_)
  show lo + ((i + 1 : Nat) : Int) = lo + 1 + (i : Int)
  omega
def rowsOf (r : R) (vs : List Int) (h : Int) (s : Sf) (a : Nat) : List (Nat × (Int × Int)) := (il (s a + 1) (h + 1)).map fun m => (a, cost r (vt vs a) m)
def rowsN (r : R) (vs : List Int) (h : Int) (s : Sf) : List (Nat × (Int × Int)) := (act vs).flatMap (rowsOf r vs h s)
section
variable {r : R} {vs : List Int} {h : Int} {s : Sf} (g : GR r) (hv : Vok vs) (hs : Sok vs h s)
include g hv hs
theorem rows_head {a : Nat} (ha : a ∈ act vs) : rowsOf r vs h s a = (a, pr r vs s a) :: (il (s a + 2) (h + 1)).map fun m => (a, cost r (vt vs a) m) := by
  have m := act_mem.mp ha
  have hi := hs.hi a m.1
  unfold rowsOf
  rw [il_cons (by omega), List.map_cons, show s a + 1 + 1 = s a + 2 by omega]
  rfl
theorem later {a : Nat} (ha : a ∈ act vs) {m : Int} (hm : m ∈ il (s a + 2) (h + 1)) : GF (cost r (vt vs a) m) ∧ lt (cost r (vt vs a) m) (pr r vs s a) := by
  have v := hv.at a
  have q := act_mem.mp ha
  have lo := hs.lo a
  have hh := hs.hh
  have k := mem_il.mp hm
  exact ⟨cost_gf g (by omega) v.2 (by omega) (by omega), cost_after g (by omega) v.2 (by omega) (by omega) (by omega)⟩
theorem late_ne {a : Nat} (ha : a ∈ act vs) {m : Int} (hm : m ∈ il (s a + 2) (h + 1)) : cost r (vt vs a) m ≠ best r vs s := by
  intro e
  have l := later g hv hs ha hm
  have b := best_max g hv hs (List.ne_nil_of_mem ha)
  have u := b.1.2 _ (List.mem_map_of_mem (f := pr r vs s) ha)
  have := lt_of_lt_le l.1.p2.1 (pr_gf g hv hs ha).p2.1 b.2.p2.1 l.2 u
  rw [e] at this
  exact Int.lt_irrefl _ this
theorem rows_gf : ∀ x ∈ (rowsN r vs h s).map (·.2), GF x := by
  intro x hx
  obtain ⟨p, hp, rfl⟩ := List.mem_map.mp hx
  obtain ⟨a, ha, hp⟩ := List.mem_flatMap.mp hp
  rw [rows_head g hv hs ha] at hp
  cases hp with
  | head => exact pr_gf g hv hs ha
  | tail _ hp =>
    obtain ⟨m, hm, rfl⟩ := List.mem_map.mp hp
    exact (later g hv hs ha hm).1
theorem rows_max (hne : act vs ≠ []) : IsMax (best r vs s) ((rowsN r vs h s).map (·.2)) := by
  have b := best_max g hv hs hne
  refine ⟨?_, fun x hx => ?_⟩
  · obtain ⟨a, ha, e⟩ := List.mem_map.mp b.1.1
    rw [← e]
    refine List.mem_map.mpr ⟨(a, pr r vs s a), List.mem_flatMap.mpr ⟨a, ha, ?_⟩, rfl⟩
    rw [rows_head g hv hs ha]
    exact List.mem_cons_self ..
  · obtain ⟨p, hp, rfl⟩ := List.mem_map.mp hx
    obtain ⟨a, ha, hp⟩ := List.mem_flatMap.mp hp
    have u := b.1.2 _ (List.mem_map_of_mem (f := pr r vs s) ha)
    rw [rows_head g hv hs ha] at hp
    cases hp with
    | head => exact u
    | tail _ hp =>
      obtain ⟨m, hm, rfl⟩ := List.mem_map.mp hp
      have l := later g hv hs ha hm
      exact le_tr l.1.p2.1 (pr_gf g hv hs ha).p2.1 b.2.p2.1 (lt_le l.2) u
theorem filter_none {β : Type} {c : β → Bool} : ∀ {l : List β}, (∀ x ∈ l, c x = false) → l.filter c = []
  | [], _ => rfl
  | x :: l, k => by
    rw [List.filter_cons, if_neg (by rw [k x (List.mem_cons_self ..)]; decide)]
    exact filter_none fun y hy => k y (List.mem_cons_of_mem _ hy)
theorem rows_lot : ((rowsN r vs h s).filter fun p => decide (p.2 = best r vs s)).map (·.1) = lot r vs s := by
  unfold rowsN lot
  have : ∀ l : List Nat, (∀ a ∈ l, a ∈ act vs) → ((l.flatMap (rowsOf r vs h s)).filter fun p => decide (p.2 = best r vs s)).map (·.1) = l.filter fun a => decide (pr r vs s a = best r vs s) := by
    intro l
    induction l with
    | nil => exact fun _ => rfl
    | cons a l ih =>
      intro hl
      have ha := hl a (List.mem_cons_self ..)
      rw [List.flatMap_cons, List.filter_append, List.map_append, ih fun b hb => hl b (List.mem_cons_of_mem _ hb), rows_head g hv hs ha, List.filter_cons, List.filter_cons]
      have z : ((il (s a + 2) (h + 1)).map fun m => (a, cost r (vt vs a) m)).filter (fun p => decide (p.2 = best r vs s)) = [] := filter_none g hv hs fun x hx => by
        obtain ⟨m, hm, rfl⟩ := List.mem_map.mp hx
        exact decide_eq_false (late_ne g hv hs ha hm)
      rw [z]
      by_cases e : pr r vs s a = best r vs s
      · rw [if_pos (decide_eq_true e), if_pos (decide_eq_true e)]
        rfl
      · rw [if_neg (by simpa using e), if_neg (by simpa using e)]
        rfl
  exact this _ fun _ ha => ha
theorem rows_give : ((rowsN r vs h s).filter fun p => !decide (p.2 = best r vs s)) = rowsN r vs h (give r vs s) := by
  unfold rowsN
  have : ∀ l : List Nat, (∀ a ∈ l, a ∈ act vs) → ((l.flatMap (rowsOf r vs h s)).filter fun p => !decide (p.2 = best r vs s)) = l.flatMap (rowsOf r vs h (give r vs s)) := by
    intro l
    induction l with
    | nil => exact fun _ => rfl
    | cons a l ih =>
      intro hl
      have ha := hl a (List.mem_cons_self ..)
      rw [List.flatMap_cons, List.flatMap_cons, List.filter_append, ih fun b hb => hl b (List.mem_cons_of_mem _ hb)]
      refine congrArg (· ++ _) ?_
      have z : ((il (s a + 2) (h + 1)).map fun m => (a, cost r (vt vs a) m)).filter (fun p => !decide (p.2 = best r vs s)) = (il (s a + 2) (h + 1)).map fun m => (a, cost r (vt vs a) m) := List.filter_eq_self.mpr fun x hx => by
        obtain ⟨m, hm, rfl⟩ := List.mem_map.mp hx
        show (!decide (cost r (vt vs a) m = best r vs s)) = true
        rw [decide_eq_false (late_ne g hv hs ha hm)]
        rfl
      rw [rows_head g hv hs ha, List.filter_cons, z]
      have pos := (act_mem.mp ha).2
      by_cases e : pr r vs s a = best r vs s
      · rw [if_neg (by simpa using e)]
        have gv : give r vs s a = s a + 1 := if_pos (by unfold isl; rw [decide_eq_true pos, decide_eq_true e]; rfl)
        unfold rowsOf
        rw [gv, show s a + 1 + 1 = s a + 2 by omega]
      · rw [if_pos (by simpa using e)]
        have gv : give r vs s a = s a := if_neg (by unfold isl; rw [decide_eq_true pos, decide_eq_false e]; decide)
        rw [← rows_head g hv hs ha]
        unfold rowsOf
        rw [gv]
  exact this _ fun _ ha => ha
theorem rows_ne (hne : act vs ≠ []) : rowsN r vs h s ≠ [] := by
  have m := (rows_max g hv hs hne).1
  intro e
  rw [e] at m
  cases m
end
theorem rows_nil {r : R} {vs : List Int} {h : Int} {s : Sf} (e : act vs = []) : rowsN r vs h s = [] := by
  unfold rowsN
  rw [e]
  rfl
end K12
namespace K12
open PySem PySem.Spec PyProof.Rows L2 Dl
local macro_rules | `(tactic| walk_at "ev") => `(tactic| try simp -dsimp only [↓dSeq_at, sp_is_within, dRet, dRetN, dNext, dIfS, dAsg, dDrop, dPar, dNever, dVar, dC, dOp, dUn, dTest, dChain, dAnd, dOr, dNot, dIf, dtAnd, dtOr, dtNot, dTup, daNil, daCons, dCall, dFn, dFnK, dNew, dLst, dOf,
  gdName, gdTup, gdCons, gdNil, gdSub, rdI, rdI0, oPlus, oSub, oTimes, oDiv, oMod, oPow, oLt, oLe, oGt, oGe, oIx, oEq, oNe, uNeg, oIsN, oNotN, D.isNon, cAbs, cMax, cMin, cInt, cDivmod, cLen, cIsi, tyD, items, litems, retD, sTup, mApp, dYes,
  atI_0, atI_1, atI_2, atI_3, atI_4, ixN_20, ixN_21, kit_ii, kit_ib, kit_is, kit_it, kit_il, kit_bi, kit_bb, kit_bs, kit_bt, kit_bl, kit_si, kit_sb, kit_ss, kit_st, kit_sl, kit_ti, kit_tb, kit_ts, kit_tt, kit_tl, kit_li, kit_lb, kit_ls, kit_lt, kit_ll,
  List.getElem?_cons_zero, List.getElem?_cons_succ, List.set_cons_zero, List.set_cons_succ, List.length_cons, List.length_nil, Mu.upd_same, Mu.upd_upd, Nat.zero_add, Nat.reduceAdd, Nat.reduceLeDiff, natlit, Int.reduceEq, Int.reduceLT, Int.reduceLE, Int.reduceAdd, Int.reduceSub, Int.reduceMul, Int.reducePow, Int.reduceNeg, permG2_10, permG3_210, zl_0, zl_1, zl_2, zl_3, zl_4, zl_5, zl_6, zl_7, zl_8, zl_9, zl_10, zl_11, zl_12, zl_13, zl_14, zl_15, zl_16, zl_17, zl_18, zl_19, zl_20, true_and, and_true, eq_self, not_true_eq_false, not_false_eq_true, decide_true, decide_false, if_true, Bool.false_eq_true, if_false, Bool.not_true, Bool.not_false, decide_eq_true_eq, Bool.not_eq_true', decide_eq_false_iff_not, Option.isSome, Option.map])
def encV (vs : List Int) : D := .tup (vs.map D.int)
theorem GF.sz {x : Int × Int} (h : GF x) : Sz x.1 ∧ Sz x.2 := by
  have := h.p1
  have := h.p2
  exact ⟨sz_of (by omega) (by omega), sz_of (by omega) (by omega)⟩
def mx (xs : List (Int × Int)) : D := if xs = [] then .non else fr (bst xs)
theorem mx_nil : mx [] = .non := rfl
theorem mx_one (x : Int × Int) : mx [x] = fr x := by
  show (if [x] = [] then _ else _) = _
  rw [if_neg (by simp)]
  show fr (up x x) = fr x
  rcases up_or (b := x) (x := x) with e | e <;> rw [e]
theorem mx_cons (y x : Int × Int) (l : List (Int × Int)) : mx (y :: l) = fr (bst (y :: l)) ∧ mx (y :: l ++ [x]) = fr (up (bst (y :: l)) x) := by
  refine ⟨if_neg (by simp), ?_⟩
  show (if y :: l ++ [x] = [] then _ else _) = _
  rw [if_neg (by simp)]
  show fr ((y :: l ++ [x]).foldl up y) = _
  rw [List.foldl_append]
  rfl
def sp_most_of : DSp := fun ds μ Q => ∃ k xs, ds = [.cell k] ∧ μ k = some (xs.map fr) ∧ (∀ x ∈ xs, GF x) ∧ Q (mx xs) μ
theorem len_most_of : ∀ ds μ Q, sp_most_of ds μ Q → ds.length = (["some"] : List Str).length := by
  rintro ds μ Q ⟨k, xs, rfl, _⟩
  rfl
def db_most_of : DTS := (dSeq (dAsg (dC .non) (gdName 1)) (dSeq (dFor (diSeq (dVar 0)) (gdName 2) (dIfS (dtOr (dTest (dOp oIsN (dVar 1) (dC .non))) (dTest (dFn sp_is_less (daCons (dVar 1) (daCons (dVar 2) daNil))))) (dAsg (dVar 2) (gdName 1)) dNext)) (dRet (dVar 1))))
theorem pf_most_of : ∀ ds μ Q, sp_most_of ds μ Q → db_most_of (retD Q) (startD ["some", "found", "one"] ds) μ := by
  rintro ds μ Q ⟨k, xs, rfl, hk, hg, h⟩
  show db_most_of (retD Q) [some (.cell k), none, none] μ
  unfold db_most_of
  refine sq fun U hU => ?_
  walk_at "ev"
  refine hU.go ?_
  clear hU
  refine sq fun U hU => ?_
  simp -dsimp only [dFor, diSeq]
  walk_at "ev"
  simp -dsimp only [lsrc]
  rw [hk]
  walk_at "ev"
  refine ⟨fun i ρ' μ' => ∃ w, ρ' = [some (.cell k), some (mx (xs.take i)), w] ∧ μ' = μ, ⟨_, rfl, rfl⟩, fun i x ρ' μ' hi w => ?_, fun ρ' μ' w => ?_⟩
  · obtain ⟨w, rfl, rfl⟩ := w
    refine ⟨held_one hk, ?_⟩
    have hi : (xs.map fr)[i]? = some x := hi
    rw [List.getElem?_map] at hi
    obtain ⟨y, hiy, rfl⟩ := Option.map_eq_some_iff.mp hi
    have gy := hg y (List.mem_of_getElem? hiy)
    have et : xs.take (i + 1) = xs.take i ++ [y] := by rw [List.take_add_one, hiy]; rfl
    have hl : ∀ z ∈ xs.take i, GF z := fun z hz => hg z (List.mem_of_mem_take hz)
    walk_at "ev"
    rw [et]
    generalize xs.take i = l at hl ⊢
    cases l with
    | nil =>
      rw [mx_nil, if_pos rfl, List.nil_append, mx_one]
      exact ⟨_, rfl⟩
    | cons z l =>
      rw [(mx_cons z y l).1, (mx_cons z y l).2]
      have gb := (bst_max (l := z :: l) (by simp) hl).2
      generalize bst (z :: l) = b at gb ⊢
      rw [if_neg (by simp [fr, D.isNon])]
      simp -dsimp only [fr]
      walk_at "ev"
      refine ⟨⟨gb.sz.1, gb.sz.2, gy.sz.1, gy.sz.2⟩, ?_⟩
      walk_at "ev"
      unfold up
      by_cases e : lt b y
      · rw [if_pos e, if_pos (by simp only [lt] at e; exact e)]
        exact ⟨_, rfl⟩
      · rw [if_neg e, if_neg (by simp only [lt] at e; exact e)]
        exact ⟨_, rfl⟩
  · obtain ⟨w, rfl, rfl⟩ := w
    refine ⟨held_one hk, ?_⟩
    refine hU.go ?_
    walk_at "ev"
    refine ⟨_, Mu.Sub.refl _, ?_⟩
    rw [List.length_map, List.take_length]
    exact h
def sp_is_row_of_votes : DSp := fun ds μ Q => ∃ vs, ds = [encV vs] ∧ Vok vs ∧ Q (.bl true) μ
theorem len_is_row_of_votes : ∀ ds μ Q, sp_is_row_of_votes ds μ Q → ds.length = (["value"] : List Str).length := by
  rintro ds μ Q ⟨vs, rfl, _⟩
  rfl
def db_is_row_of_votes : DTS := (dSeq (dIfS (dtOr (dtNot (dTest (dCall cIsi (daCons (dVar 0) (daCons (dC (.ty "tuple")) daNil))))) (dtNot (dTest (dChain oLe oLe (dC (.int 1)) (dCall cLen (daCons (dVar 0) daNil)) (dC (.int 12)))))) (dRet (dC (.bl false))) dNext) (dRet (dOf sAll (dLc (diSeq (dVar 0)) (gdName 1) dYes (dFn sp_is_within (daCons (dVar 1) (daCons (dC (.int 0)) (daCons (dC (.int 1000000000)) daNil)))) [1]))))
theorem pf_is_row_of_votes : ∀ ds μ Q, sp_is_row_of_votes ds μ Q → db_is_row_of_votes (retD Q) (startD ["value", "one"] ds) μ := by
  rintro ds μ Q ⟨vs, rfl, hv, h⟩
  show db_is_row_of_votes (retD Q) [some (.tup (vs.map D.int)), none] μ
  have hl := hv.len
  unfold db_is_row_of_votes
  refine sq fun U hU => ?_
  walk_at "ev"
  rw [List.length_map, if_pos (by omega), if_neg (by omega)]
  refine hU.go ?_
  walk_at "ev"
  simp -dsimp only [dLc, diSeq]
  walk_at "ev"
  refine lc_tm (fun _ => .bl true) held_nil (by omega) (fun v hv' μ' Qy hd q => ?_) ?_
  · simp -dsimp only [wipeD]
    walk_at "ev"
    have := hv.v v hv'
    show Qy (.bl (decide (0 ≤ v ∧ v ≤ 1000000000))) μ'
    rw [decide_eq_true (by omega)]
    exact q
  · refine sAll_ty (b := fun _ => true) ?_
    rw [all_yes]
    exact ⟨_, Mu.Sub.refl _, h⟩
def sp_want_votes : DSp := fun ds μ Q => ∃ vs, ds = [encV vs] ∧ Vok vs ∧ Q .non μ
theorem len_want_votes : ∀ ds μ Q, sp_want_votes ds μ Q → ds.length = (["votes"] : List Str).length := by
  rintro ds μ Q ⟨vs, rfl, _⟩
  rfl
def db_want_votes : DTS := (dIfS (dtNot (dTest (dFn sp_is_row_of_votes (daCons (dVar 0) daNil)))) dNever dNext)
theorem pf_want_votes : ∀ ds μ Q, sp_want_votes ds μ Q → db_want_votes (retD Q) (startD ["votes"] ds) μ := by
  rintro ds μ Q ⟨vs, rfl, hv, h⟩
  show db_want_votes (retD Q) [some (encV vs)] μ
  unfold db_want_votes
  walk_at "ev"
  refine ⟨vs, rfl, hv, ?_⟩
  walk_at "ev"
  exact ⟨_, Mu.Sub.refl _, h⟩
def sp_want_house : DSp := fun ds μ Q => match ds with | [.int m] => (0 ≤ m ∧ m ≤ 200) ∧ Q .non μ | _ => False
theorem len_want_house : ∀ ds μ Q, sp_want_house ds μ Q → ds.length = (["house"] : List Str).length := by
  intro ds μ Q h
  unfold sp_want_house at h
  split at h <;> first | rfl | exact h.elim
def db_want_house : DTS := (dIfS (dtNot (dTest (dFn sp_is_within (daCons (dVar 0) (daCons (dC (.int 0)) (daCons (dC (.int 200)) daNil)))))) dNever dNext)
theorem pf_want_house : ∀ ds μ Q, sp_want_house ds μ Q → db_want_house (retD Q) (startD ["house"] ds) μ := by
  intro ds μ Q h
  unfold sp_want_house at h
  split at h
  · rename_i m
    show db_want_house (retD Q) [some (.int m)] μ
    unfold db_want_house
    walk_at "ev"

    rw [if_neg (by omega)]
    exact ⟨_, Mu.Sub.refl _, h.2⟩
  · exact h.elim
def sp_want_number : DSp := fun ds μ Q => ∃ vs n, ds = [encV vs, .int n] ∧ (Vok vs ∧ 0 ≤ n ∧ n < vs.length) ∧ Q .non μ
theorem len_want_number : ∀ ds μ Q, sp_want_number ds μ Q → ds.length = (["votes", "number"] : List Str).length := by
  rintro ds μ Q ⟨vs, n, rfl, _⟩
  rfl
def db_want_number : DTS := (dIfS (dtNot (dTest (dFn sp_is_within (daCons (dVar 1) (daCons (dC (.int 0)) (daCons (dOp oSub (dCall cLen (daCons (dVar 0) daNil)) (dC (.int 1))) daNil)))))) dNever dNext)
theorem pf_want_number : ∀ ds μ Q, sp_want_number ds μ Q → db_want_number (retD Q) (startD ["votes", "number"] ds) μ := by
  rintro ds μ Q ⟨vs, n, rfl, ⟨hv, h0, h1⟩, h⟩
  show db_want_number (retD Q) [some (.tup (vs.map D.int)), some (.int n)] μ
  unfold db_want_number
  walk_at "ev"

  rw [List.length_map, if_neg (by omega)]
  exact ⟨_, Mu.Sub.refl _, h⟩
/-! ## prices -/
theorem post_pos {r : R} (g : GR r) {m : Int} (m0 : 1 ≤ m) (m1 : m ≤ 200) : 0 < (post r m).1 ∧ (post r m).1 < 2 ^ 200 ∧ 0 < (post r m).2 ∧ (post r m).2 < 2 ^ 64 := by
  have b := post_bd g m0 m1
  exact ⟨b.1, by omega, b.2.2.1, by omega⟩
def sp_price_at : DSp := fun ds μ Q => ∃ r v m, ds = [enc r, .int v, .int m] ∧ (GR r ∧ (0 ≤ v ∧ v ≤ 10 ^ 9) ∧ 1 ≤ m ∧ m ≤ 200) ∧ Q (fr (cost r v m)) μ
theorem len_price_at : ∀ ds μ Q, sp_price_at ds μ Q → ds.length = (["rule", "votes", "many"] : List Str).length := by
  rintro ds μ Q ⟨r, v, m, rfl, _⟩
  rfl
def db_price_at : DTS := (dSeq (dAsg (dFn sp_signpost (daCons (dVar 0) (daCons (dVar 2) daNil))) (gdName 3)) (dRet (dFn sp_lowest (daCons (dOp oTimes (dVar 1) (dOp oIx (dVar 3) (dC (.int 1)))) (daCons (dOp oIx (dVar 3) (dC (.int 0))) daNil)))))
theorem pf_price_at : ∀ ds μ Q, sp_price_at ds μ Q → db_price_at (retD Q) (startD ["rule", "votes", "many", "post"] ds) μ := by
  rintro ds μ Q ⟨r, v, m, rfl, ⟨g, hv, m0, m1⟩, h⟩
  show db_price_at (retD Q) [some (enc r), some (.int v), some (.int m), none] μ
  have b := post_pos g m0 m1
  unfold db_price_at
  refine sq fun U hU => ?_
  walk_at "ev"
  refine ⟨r, m, rfl, ⟨g.toGr0, by omega, by omega⟩, ?_⟩
  refine hU.go ?_
  simp -dsimp only [fr]
  walk_at "ev"
  exact ⟨mulL (by omega) (by omega), ⟨b.1, b.2.1⟩, _, Mu.Sub.refl _, h⟩
def sp_law_price : DSp := fun ds μ Q => ∃ r v m, ds = [enc r, .int v, .int m] ∧ (GR r ∧ (0 ≤ v ∧ v ≤ 10 ^ 9) ∧ 1 ≤ m ∧ m ≤ 200) ∧ Q (fr (cost r v m)) μ
theorem len_law_price : ∀ ds μ Q, sp_law_price ds μ Q → ds.length = (["rule", "votes", "many"] : List Str).length := by
  rintro ds μ Q ⟨r, v, m, rfl, _⟩
  rfl
def db_law_price : DTS := (dSeq (dAsg (dFn sp_law_post (daCons (dVar 0) (daCons (dVar 2) daNil))) (gdName 3)) (dRet (dFn sp_law_lowest (daCons (dOp oTimes (dVar 1) (dOp oIx (dVar 3) (dC (.int 1)))) (daCons (dOp oIx (dVar 3) (dC (.int 0))) daNil)))))
theorem pf_law_price : ∀ ds μ Q, sp_law_price ds μ Q → db_law_price (retD Q) (startD ["rule", "votes", "many", "post"] ds) μ := by
  rintro ds μ Q ⟨r, v, m, rfl, ⟨g, hv, m0, m1⟩, h⟩
  show db_law_price (retD Q) [some (enc r), some (.int v), some (.int m), none] μ
  have b := post_pos g m0 m1
  unfold db_law_price
  refine sq fun U hU => ?_
  walk_at "ev"
  refine ⟨r, m, rfl, ⟨g.toGr0, by omega, by omega⟩, ?_⟩
  refine hU.go ?_
  simp -dsimp only [fr]
  walk_at "ev"
  have z : 0 ≤ v * (post r m).2 := Int.mul_nonneg hv.1 (by omega)
  exact ⟨mulL (by omega) (by omega), ⟨z, b.1, b.2.1⟩, _, Mu.Sub.refl _, h⟩
end K12
namespace K12
open PySem PySem.Spec PyProof.Rows L2 Dl
local macro_rules | `(tactic| walk_at "ev") => `(tactic| try simp -dsimp only [↓dSeq_at, dRet, dRetN, dNext, dIfS, dAsg, dDrop, dPar, dNever, dVar, dC, dOp, dUn, dTest, dChain, dAnd, dOr, dNot, dIf, dtAnd, dtOr, dtNot, dTup, daNil, daCons, dCall, dFn, dFnK, dNew, dLst, dOf,
  gdName, gdTup, gdCons, gdNil, gdSub, rdI, rdI0, oPlus, oSub, oTimes, oDiv, oMod, oPow, oLt, oLe, oGt, oGe, oIx, oEq, oNe, uNeg, oIsN, oNotN, D.isNon, cAbs, cMax, cMin, cInt, cDivmod, cLen, cIsi, tyD, items, litems, retD, sTup, mApp, dYes,
  atI_0, atI_1, atI_2, atI_3, atI_4, ixN_20, ixN_21, kit_ii, kit_ib, kit_is, kit_it, kit_il, kit_bi, kit_bb, kit_bs, kit_bt, kit_bl, kit_si, kit_sb, kit_ss, kit_st, kit_sl, kit_ti, kit_tb, kit_ts, kit_tt, kit_tl, kit_li, kit_lb, kit_ls, kit_lt, kit_ll,
  List.getElem?_cons_zero, List.getElem?_cons_succ, List.set_cons_zero, List.set_cons_succ, List.length_cons, List.length_nil, Mu.upd_same, Mu.upd_upd, Nat.zero_add, Nat.reduceAdd, Nat.reduceLeDiff, natlit, Int.reduceEq, Int.reduceLT, Int.reduceLE, Int.reduceAdd, Int.reduceSub, Int.reduceMul, Int.reducePow, Int.reduceNeg, permG2_10, permG3_210, zl_0, zl_1, zl_2, zl_3, zl_4, zl_5, zl_6, zl_7, zl_8, zl_9, zl_10, zl_11, zl_12, zl_13, zl_14, zl_15, zl_16, zl_17, zl_18, zl_19, zl_20, true_and, and_true, eq_self, not_true_eq_false, not_false_eq_true, decide_true, decide_false, if_true, Bool.false_eq_true, if_false, Bool.not_true, Bool.not_false, decide_eq_true_eq, Bool.not_eq_true', decide_eq_false_iff_not, Option.isSome, Option.map])
def ivD (vs : List Int) (a : Nat) : D := .tup [.int ((a : Nat) : Int), .int (vt vs a)]
theorem enumV (vs : List Int) : enumD (vs.map D.int) = (List.range vs.length).map (ivD vs) := by
  refine List.ext_getElem? fun i => ?_
  unfold enumD
  rw [List.getElem?_map, List.getElem?_zipIdx, List.getElem?_map, List.getElem?_map]
  by_cases h : i < vs.length
  · rw [List.getElem?_range h, List.getElem?_eq_getElem h]
    show some (D.tup [.int ((0 + i : Nat) : Int), .int vs[i]]) = some (ivD vs i)
    unfold ivD vt
    rw [Nat.zero_add, List.getD_eq_getElem?_getD, List.getElem?_eq_getElem h]
    rfl
  · rw [List.getElem?_eq_none (by omega), List.getElem?_eq_none (by rw [List.length_range]; omega)]
    rfl
def seatD (n : Nat) (s : Sf) : List D := (List.range n).map fun a => .int (s a)
theorem seat_len (n : Nat) (s : Sf) : (seatD n s).length = n := by
  unfold seatD
  rw [List.length_map, List.length_range]
theorem seat_get {n : Nat} {s : Sf} {a : Nat} (h : a < n) : (seatD n s)[a]? = some (.int (s a)) := by
  unfold seatD
  rw [List.getElem?_map, List.getElem?_range h]
  rfl
theorem seat_at {n : Nat} {s : Sf} {a : Nat} (h : a < n) : atI (seatD n s) (a : Int) = some (.int (s a)) := atI_nat (seat_get h)
def gotD (r : R) (vs : List Int) (s : Sf) (a : Nat) : D := .tup [.int ((a : Nat) : Int), fr (pr r vs s a)]
theorem eqv_pair (p q : Int × Int) : PyData.eqv (.tuple [.int p.1, .int p.2]) (.tuple [.int q.1, .int q.2]) = decide (p = q) := by
  show (p.1 == q.1 && (p.2 == q.2 && true)) = decide (p = q)
  rw [Bool.and_true]
  by_cases e : p = q
  · subst e
    rw [decide_eq_true rfl]
    simp
  · rw [decide_eq_false e]
    cases h1 : p.1 == q.1 with
    | false => rfl
    | true =>
      cases h2 : p.2 == q.2 with
      | false => rfl
      | true => exact absurd (Prod.ext (beq_iff_eq.mp h1) (beq_iff_eq.mp h2)) e
theorem fr_nev (p q : Int × Int) (μ : Mu) (Q : DK) (h : Q (.bl (!decide (p = q))) μ) : deepEq true (fr p) (fr q) μ Q := by
  refine ⟨.tuple [.int p.1, .int p.2], .tuple [.int q.1, .int q.2], ?_, ?_, rfl, rfl, ?_⟩
  · exact .tup (.cons (.int _) (.cons (.int _) .nil))
  · exact .tup (.cons (.int _) (.cons (.int _) .nil))
  · rw [if_pos rfl, eqv_pair]
    exact h
theorem fr_eqv (p q : Int × Int) (μ : Mu) (Q : DK) (h : Q (.bl (decide (p = q))) μ) : deepEq false (fr p) (fr q) μ Q := by
  refine ⟨.tuple [.int p.1, .int p.2], .tuple [.int q.1, .int q.2], ?_, ?_, rfl, rfl, ?_⟩
  · exact .tup (.cons (.int _) (.cons (.int _) .nil))
  · exact .tup (.cons (.int _) (.cons (.int _) .nil))
  · rw [if_neg (by decide), eqv_pair]
    exact h
def sp_next_step : DSp := fun ds μ Q => ∃ r vs k s h, ds = [enc r, encV vs, .cell k] ∧ μ k = some (seatD vs.length s) ∧ (GR r ∧ Vok vs ∧ Sok vs h s) ∧ Q (if act vs = [] then .non else stepD r vs s) μ
theorem len_next_step : ∀ ds μ Q, sp_next_step ds μ Q → ds.length = (["rule", "votes", "seats"] : List Str).length := by
  rintro ds μ Q ⟨r, vs, k, s, h, rfl, _⟩
  rfl
def db_next_step : DTS := (dSeq (dAsg (dNew (dLc (diEnum2 (dVar 1)) (gdTup 2 (gdCons (gdName 4) (gdCons (gdName 5) gdNil))) (dTest (dOp oGt (dVar 5) (dC (.int 0)))) (dTup (daCons (dVar 4) (daCons (dFn sp_price_at (daCons (dVar 0) (daCons (dVar 5) (daCons (dOp oPlus (dOp oIx (dVar 2) (dVar 4)) (dC (.int 1))) daNil)))) daNil))) [4, 5])) (gdName 3)) (dSeq (dAsg (dFn sp_most_of (daCons (dNew (dLc (diSeq (dVar 3)) (gdTup 2 (gdCons (gdName 4) (gdCons (gdName 7) gdNil))) dYes (dVar 7) [4, 7])) daNil)) (gdName 6)) (dRet (dIf (dTest (dOp oIsN (dVar 6) (dC .non))) (dC .non) (dTup (daCons (dVar 6) (daCons (dOf sTup (dLc (diSeq (dVar 3)) (gdTup 2 (gdCons (gdName 4) (gdCons (gdName 7) gdNil))) (dTest (dOp oEq (dVar 7) (dVar 6))) (dVar 4) [4, 7])) daNil)))))))
theorem pf_next_step : ∀ ds μ Q, sp_next_step ds μ Q → db_next_step (retD Q) (startD ["rule", "votes", "seats", "some", "at", "one", "best", "worth"] ds) μ := by
  rintro ds μ Q ⟨r, vs, k, s, hh, rfl, hk, ⟨g, hv, hs⟩, h⟩
  show db_next_step (retD Q) [some (enc r), some (.tup (vs.map D.int)), some (.cell k), none, none, none, none, none] μ
  have hl := hv.len
  unfold db_next_step
  refine sq fun U hU => ?_
  walk_at "ev"
  simp -dsimp only [dLc, diEnum2]
  walk_at "ev"
  rw [enumV]
  refine lc_ty (fun a => decide (0 < vt vs a)) (gotD r vs s) held_nil (by rw [List.length_range]; omega) (fun a ha μ' Qy Qn sb q => ?_) ?_
  · have ha := List.mem_range.mp ha
    have va := hv.at a
    simp -dsimp only [wipeD, ivD]
    walk_at "ev"
    by_cases e : 0 < vt vs a
    · rw [if_pos (decide_eq_true e)] at q
      rw [if_pos e, sb _ _ hk]
      walk_at "ev"
      rw [seat_at ha]
      have lo := hs.lo a
      have hi := hs.hi a ha
      have h2 := hs.hh
      exact ⟨r, _, _, rfl, ⟨g, va, by omega, by omega⟩, q⟩
    · rw [if_neg (by simpa using e)] at q
      rw [if_neg e]
      exact q
  intro k3 hk3
  have e3 : (List.range vs.length).filter (fun a => decide (0 < vt vs a)) = act vs := rfl
  rw [e3]
  refine hU.go ?_
  clear hU
  refine sq fun U hU => ?_
  walk_at "ev"
  simp -dsimp only [dLc, diSeq]
  walk_at "ev"
  simp -dsimp only [lsrc]
  walk_at "ev"
  refine lc_tm (l := act vs) (fun a => fr (pr r vs s a)) (held_one Mu.upd_same) ?_ (fun a ha μ' Qy sb q => ?_) ?_
  · have := List.length_filter_le (fun a => decide (0 < vt vs a)) (List.range vs.length)
    rw [List.length_range] at this
    show (act vs).length ≤ 100000
    unfold act
    omega
  · simp -dsimp only [wipeD, gotD]
    walk_at "ev"
    exact q
  intro k4 hk4
  have hm : (act vs).map (fun a => fr (pr r vs s a)) = ((act vs).map (pr r vs s)).map fr := by
    rw [List.map_map]
    rfl
  refine ⟨k4, _, rfl, by rw [Mu.upd_same, hm], prs_gf g hv hs, ?_⟩
  refine hU.go ?_
  clear hU
  walk_at "ev"
  by_cases e : act vs = []
  · rw [if_pos e] at h
    rw [show mx ((act vs).map (pr r vs s)) = .non by rw [e]; rfl]
    show if true = true then _ else _
    rw [if_pos rfl]
    exact ⟨μ, (Mu.sub_upd hk3).trans (Mu.sub_upd hk4), h⟩
  · rw [if_neg e] at h
    have em : mx ((act vs).map (pr r vs s)) = fr (best r vs s) := if_neg (by simpa using e)
    rw [em, if_neg (by simp [fr, D.isNon])]
    walk_at "ev"
    simp -dsimp only [dLc, diSeq]
    walk_at "ev"
    simp -dsimp only [lsrc]
    have k3k : (μ.upd k3 ((act vs).map (gotD r vs s))).upd k4 ((act vs).map fun a => fr (pr r vs s a)) k3 = some ((act vs).map (gotD r vs s)) := Mu.keep Mu.upd_same hk4
    rw [k3k]
    walk_at "ev"
    refine lc_ty (l := act vs) (fun a => decide (pr r vs s a = best r vs s)) (fun a => .int ((a : Nat) : Int)) (held_one k3k) ?_ (fun a ha μ' Qy Qn sb q => ?_) ?_
    · have := List.length_filter_le (fun a => decide (0 < vt vs a)) (List.range vs.length)
      rw [List.length_range] at this
      show (act vs).length ≤ 100000
      unfold act
      omega
    · simp -dsimp only [wipeD, gotD]
      walk_at "ev"
      show deepEq false (fr (pr r vs s a)) (fr (best r vs s)) μ' _
      refine fr_eqv _ _ _ _ ?_
      walk_at "ev"
      by_cases e2 : pr r vs s a = best r vs s
      · rw [if_pos (decide_eq_true e2)] at q
        rw [if_pos e2]
        exact q
      · rw [if_neg (by simpa using e2)] at q
        rw [if_neg e2]
        exact q
    · walk_at "ev"
      exact ⟨μ, (Mu.sub_upd hk3).trans (Mu.sub_upd hk4), h⟩
end K12
namespace K12
open PySem PySem.Spec PyProof.Rows L2 Dl
local macro_rules | `(tactic| walk_at "ev") => `(tactic| try simp -dsimp only [↓dSeq_at, dPar3, dRet, dRetN, dNext, dIfS, dAsg, dDrop, dPar, dNever, dVar, dC, dOp, dUn, dTest, dChain, dAnd, dOr, dNot, dIf, dtAnd, dtOr, dtNot, dTup, daNil, daCons, dCall, dFn, dFnK, dNew, dLst, dOf,
  gdName, gdTup, gdCons, gdNil, gdSub, rdI, rdI0, oPlus, oSub, oTimes, oDiv, oMod, oPow, oLt, oLe, oGt, oGe, oIx, oEq, oNe, uNeg, oIsN, oNotN, D.isNon, cAbs, cMax, cMin, cInt, cDivmod, cLen, cIsi, tyD, items, litems, retD, sTup, mApp, dYes,
  atI_0, atI_1, atI_2, atI_3, atI_4, ixN_20, ixN_21, kit_ii, kit_ib, kit_is, kit_it, kit_il, kit_bi, kit_bb, kit_bs, kit_bt, kit_bl, kit_si, kit_sb, kit_ss, kit_st, kit_sl, kit_ti, kit_tb, kit_ts, kit_tt, kit_tl, kit_li, kit_lb, kit_ls, kit_lt, kit_ll,
  List.getElem?_cons_zero, List.getElem?_cons_succ, List.set_cons_zero, List.set_cons_succ, List.length_cons, List.length_nil, Mu.upd_same, Mu.upd_upd, Nat.zero_add, Nat.reduceAdd, Nat.reduceLeDiff, natlit, Int.reduceEq, Int.reduceLT, Int.reduceLE, Int.reduceAdd, Int.reduceSub, Int.reduceMul, Int.reducePow, Int.reduceNeg, permG2_10, permG3_210, zl_0, zl_1, zl_2, zl_3, zl_4, zl_5, zl_6, zl_7, zl_8, zl_9, zl_10, zl_11, zl_12, zl_13, zl_14, zl_15, zl_16, zl_17, zl_18, zl_19, zl_20, true_and, and_true, eq_self, not_true_eq_false, not_false_eq_true, decide_true, decide_false, if_true, Bool.false_eq_true, if_false, Bool.not_true, Bool.not_false, decide_eq_true_eq, Bool.not_eq_true', decide_eq_false_iff_not, Option.isSome, Option.map])
theorem ask_next {r : R} {vs : List Int} {k : Nat} {s : Sf} {h : Int} {μ : Mu} {Q : DK} (hk : μ k = some (seatD vs.length s)) (g : GR r) (hv : Vok vs) (hs : Sok vs h s) (q : Q (if act vs = [] then .non else stepD r vs s) μ) :
    sp_next_step [enc r, .tup (vs.map D.int), .cell k] μ Q := ⟨r, vs, k, s, h, rfl, hk, ⟨g, hv, hs⟩, q⟩
theorem seat_sum (n : Nat) (s : Sf) : ∃ ns : List Int, seatD n s = ns.map D.int ∧ ns.sum = ((List.range n).map s).sum := ⟨(List.range n).map s, by unfold seatD; rw [List.map_map]; rfl, rfl⟩
theorem tot_ge {r : R} {vs : List Int} {h : Int} (g : GR r) (hv : Vok vs) (h2 : h ≤ 200) : ∀ j, (∀ i, i < j → act vs ≠ [] ∧ tot vs (S r vs i) < h) → (j : Int) ≤ tot vs (S r vs j)
  | 0, _ => by rw [tot_0]; decide
  | j + 1, q => by
    have ih := tot_ge g hv h2 j fun i hi => q i (by omega)
    have a := q j (by omega)
    have l := lot_pos g hv (S_ok h2 a.2) a.1
    have t := tot_give r vs (S r vs j)
    show ((j + 1 : Nat) : Int) ≤ tot vs (give r vs (S r vs j))
    omega
def part (s : Sf) (l : List Nat) : Sf := fun a => if a ∈ l then s a + 1 else s a
theorem part_nil (s : Sf) : part s [] = s := by
  funext a
  unfold part
  rw [if_neg (by simp)]
theorem lot_nodup (r : R) (vs : List Int) (s : Sf) : (lot r vs s).Nodup := by
  unfold lot act
  exact (List.nodup_range.filter _).filter _
theorem lot_lt {r : R} {vs : List Int} {s : Sf} {a : Nat} (h : a ∈ lot r vs s) : a < vs.length ∧ isl r vs s a = true := by
  rw [lot_eq] at h
  have := List.mem_filter.mp h
  exact ⟨List.mem_range.mp this.1, this.2⟩
theorem part_all (r : R) (vs : List Int) (s : Sf) : seatD vs.length (part s (lot r vs s)) = seatD vs.length (give r vs s) := by
  unfold seatD
  refine List.map_congr_left fun a ha => ?_
  have ha := List.mem_range.mp ha
  unfold part give
  by_cases e : isl r vs s a = true
  · rw [if_pos e, if_pos (by rw [lot_eq]; exact List.mem_filter.mpr ⟨List.mem_range.mpr ha, e⟩)]
  · rw [if_neg e, if_neg fun z => e (lot_lt z).2]
theorem part_step {n : Nat} {s : Sf} {l : List Nat} {i a : Nat} (nd : l.Nodup) (h : l[i]? = some a) (ha : a < n) : part s (l.take i) a = s a ∧ (seatD n (part s (l.take i))).set a (.int (s a + 1)) = seatD n (part s (l.take (i + 1))) := by
  have et : l.take (i + 1) = l.take i ++ [a] := by rw [List.take_add_one, h]; rfl
  have no : a ∉ l.take i := by
    intro z
    have nd2 : (l.take (i + 1)).Nodup := nd.sublist (List.take_sublist _ _)
    rw [et] at nd2
    exact (List.nodup_append.mp nd2).2.2 a z a (List.mem_cons_self ..) rfl
  refine ⟨if_neg no, ?_⟩
  refine List.ext_getElem? fun j => ?_
  rw [List.getElem?_set]
  by_cases hj : j < n
  · rw [seat_get hj]
    by_cases e : a = j
    · subst e
      rw [if_pos rfl, if_pos (by rw [seat_len]; exact ha)]
      rw [seat_get ha]
      unfold part
      rw [et, if_pos (by simp)]
    · rw [if_neg e, seat_get hj]
      unfold part
      rw [et]
      by_cases m : j ∈ l.take i
      · rw [if_pos m, if_pos (List.mem_append_left _ m)]
      · rw [if_neg m, if_neg]
        intro z
        rcases List.mem_append.mp z with z | z
        · exact m z
        · cases z with
          | head => exact e rfl
          | tail _ z => cases z
  · rw [List.getElem?_eq_none (by rw [seat_len]; omega), List.getElem?_eq_none (by rw [seat_len]; omega), if_neg (show ¬ a = j by omega)]
def sp_steps_to : DSp := fun ds μ Q => ∃ r vs h, ds = [enc r, encV vs, .int h] ∧ (GR r ∧ Vok vs ∧ 0 ≤ h ∧ h ≤ 200) ∧ ∀ J, Ends r vs h J → ∀ k1 k2 μ', Mu.Sub μ μ' → μ k1 = none → μ' k1 = some (rowS r vs J) → Q (.tup [.cell k1, .cell k2]) μ'
theorem len_steps_to : ∀ ds μ Q, sp_steps_to ds μ Q → ds.length = (["rule", "votes", "house"] : List Str).length := by
  rintro ds μ Q ⟨r, vs, h, rfl, _⟩
  rfl
def db_steps_to : DTS := (dSeq (dPar3 3 4 5 (daCons (dNew (dLst daNil)) (daCons (dOp oTimes (dNew (dLst (daCons (dC (.int 0)) daNil))) (dCall cLen (daCons (dVar 1) daNil))) (daCons (dOp oTimes (dNew (dLst (daCons (dC (.int 0)) daNil))) (dCall cLen (daCons (dVar 1) daNil))) daNil)))) (dSeq (dWhile (dTest (dOp oLt (dCall (dSeq1 false sSum) (daCons (dVar 4) daNil)) (dVar 2))) (dSeq (dAsg (dFn sp_next_step (daCons (dVar 0) (daCons (dVar 1) (daCons (dVar 4) daNil)))) (gdName 6)) (dSeq (dIfS (dTest (dOp oIsN (dVar 6) (dC .non))) dBreak dNext) (dSeq (dAsg (dNew (dCallF (dSeqL1 true sLst) (daCons (dVar 4) daNil))) (gdName 5)) (dSeq (dFor (diSeq (dOp oIx (dVar 6) (dC (.int 1)))) (gdName 7) (dAsg (dOp oPlus (dOp oIx (dVar 4) (dVar 7)) (dC (.int 1))) (gdSub (dVar 4) (dVar 7)))) (dDrop (mApp (dVar 3) (dVar 6)))))))) (dRet (dTup (daCons (dVar 3) (daCons (dVar 5) daNil))))))
def rounds (f : Nat) (μ : Mu) : Nat := match μ f with
  | some xs => 300 - xs.length
  | none => 0
structure Wl (r : R) (vs : List Int) (h : Int) (μ : Mu) (f t j : Nat) (ν : Mu) : Prop where
  sb : Mu.Sub μ ν
  fo : ν f = some (rowS r vs j)
  se : ν t = some (seatD vs.length (S r vs j))
  lo : ∀ i, i < j → act vs ≠ [] ∧ tot vs (S r vs i) < h
theorem zeros (n : Nat) : (List.replicate n [D.int 0]).flatten = seatD n fun _ => 0 := by
  unfold seatD
  induction n with
  | zero => rfl
  | succ n ih =>
    rw [List.replicate_succ', List.flatten_append, ih, List.range_succ, List.map_append]
    rfl
theorem none_of {μ ν : Mu} {t : Nat} (h : Mu.Sub μ ν) (n : ν t = none) : μ t = none := by
  cases e : μ t with
  | none => rfl
  | some xs =>
    rw [h t xs e] at n
    cases n
theorem _root_.Dl.Mu.Sub.put {μ ν : Mu} {t : Nat} {xs : List D} (h : Mu.Sub μ ν) (n : μ t = none) : Mu.Sub μ (ν.upd t xs) := fun j ys e => by
  rw [Mu.upd_ne (Mu.ne_of e n)]
  exact h j ys e
theorem pf_steps_to : ∀ ds μ Q, sp_steps_to ds μ Q → db_steps_to (retD Q) (startD ["rule", "votes", "house", "found", "seats", "ahead", "step", "at"] ds) μ := by
  rintro ds μ Q ⟨r, vs, h, rfl, ⟨g, hv, h0, h1⟩, q⟩
  show db_steps_to (retD Q) [some (enc r), some (.tup (vs.map D.int)), some (.int h), none, none, none, none, none] μ
  have hl := hv.len
  unfold db_steps_to
  refine sq fun U hU => ?_
  walk_at "ev"
  intro f hf
  intro z1 hz1
  have sz : (1 : Nat) * (((vs.map D.int).length : Nat) : Int).toNat ≤ sizeLine := by
    rw [List.length_map]
    exact sz1000 (by omega)
  have ln : (((vs.map D.int).length : Nat) : Int) < 9223372036854775808 := by
    rw [List.length_map]
    omega
  refine ⟨⟨by omega, ln, sz⟩, ?_⟩
  intro t ht z2 hz2
  refine ⟨⟨by omega, ln, sz⟩, ?_⟩
  intro w hw
  rw [show (List.replicate (((vs.map D.int).length : Nat) : Int).toNat [D.int 0]).flatten = seatD vs.length (S r vs 0) by rw [List.length_map, Int.toNat_natCast]; exact zeros _] at hz2 hw ⊢
  obtain ⟨ν, en⟩ : ∃ ν, ν = (((((μ.upd f []).upd z1 [.int 0]).upd t (seatD vs.length (S r vs 0))).upd z2 [.int 0]).upd w (seatD vs.length (S r vs 0))) := ⟨_, rfl⟩
  rw [← en]
  have sb0 : Mu.Sub μ ν := by
    rw [en]
    exact (Mu.sub_upd hf).trans ((Mu.sub_upd hz1).trans ((Mu.sub_upd ht).trans ((Mu.sub_upd hz2).trans (Mu.sub_upd hw))))
  have nf : ν f = some (rowS r vs 0) := by
    rw [en]
    exact Mu.keep (Mu.keep (Mu.keep (Mu.keep Mu.upd_same hz1) ht) hz2) hw
  have nt : ν t = some (seatD vs.length (S r vs 0)) := by
    rw [en]
    exact Mu.keep (Mu.keep Mu.upd_same hz2) hw
  have hft : f ≠ t := Mu.ne_of (Mu.keep (Mu.upd_same (μ := μ) (k := f) (xs := [])) hz1) ht
  have mt : μ t = none := none_of ((Mu.sub_upd hf).trans (Mu.sub_upd hz1)) ht
  clear hz1 ht hz2 hw en
  refine hU.go ?_
  clear hU
  refine sq fun U hU => ?_
  refine ⟨fun ρ' μ' => ∃ j a5 w6 w7, ρ' = [some (enc r), some (.tup (vs.map D.int)), some (.int h), some (.cell f), some (.cell t), some (.cell a5), w6, w7] ∧ Wl r vs h μ f t j μ', fun _ μ' => rounds f μ', ⟨0, w, none, none, rfl, sb0, nf, nt, fun i hi => absurd hi (Nat.not_lt_zero i)⟩, fun ρ' μ' w => ?_⟩
  obtain ⟨j, a5, w6, w7, rfl, sb, fo, se, lo⟩ := w
  walk_at "ev"
  simp -dsimp only [dSeq1, sitems]
  walk_at "ev"
  rw [se]
  obtain ⟨ns, e1, e2⟩ := seat_sum vs.length (S r vs j)
  refine ⟨ns, e1, ?_⟩
  walk_at "ev"
  rw [e2]
  show if tot vs (S r vs j) < h then _ else _
  by_cases lt : tot vs (S r vs j) < h
  · rw [if_pos lt]
    refine sq fun V hV => ?_
    walk_at "ev"
    refine ask_next se g hv (S_ok h1 lt) ?_
    refine hV.go ?_
    clear hV
    refine sq fun V hV => ?_
    walk_at "ev"
    by_cases ea : act vs = []
    · rw [if_pos ea]
      show if true = true then _ else _
      rw [if_pos rfl]
      refine hU.go ?_
      walk_at "ev"
      exact ⟨_, Mu.Sub.refl _, q j ⟨lo, .inl ea⟩ f a5 μ' sb hf fo⟩
    · rw [if_neg ea]
      show if false = true then _ else _
      rw [if_neg (by decide)]
      refine hV.go ?_
      clear hV
      refine sq fun V hV => ?_
      walk_at "ev"
      simp -dsimp only [dCallF, dSeqL1, sitems, sLst]
      walk_at "ev"
      rw [se]
      intro b hb
      refine hV.go ?_
      clear hV
      have sb2 := sb.trans (Mu.sub_upd (xs := seatD vs.length (S r vs j)) hb)
      have fo2 := Mu.keep (xs := seatD vs.length (S r vs j)) fo hb
      have se2 := Mu.keep (xs := seatD vs.length (S r vs j)) se hb
      generalize μ'.upd b (seatD vs.length (S r vs j)) = ν2 at sb2 fo2 se2 ⊢
      refine sq fun V hV => ?_
      simp -dsimp only [dFor, diSeq, stepD]
      walk_at "ev"
      refine ⟨fun i ρ3 μ3 => ∃ w7, ρ3 = [some (enc r), some (.tup (vs.map D.int)), some (.int h), some (.cell f), some (.cell t), some (.cell b), some (stepD r vs (S r vs j)), w7] ∧ Mu.Sub μ μ3 ∧ μ3 f = some (rowS r vs j) ∧ μ3 t = some (seatD vs.length (part (S r vs j) ((lot r vs (S r vs j)).take i))),
        ⟨w7, rfl, sb2, fo2, by rw [List.take_zero, part_nil]; exact se2⟩, fun i x ρ3 μ3 hi w => ⟨held_nil, ?_⟩, fun ρ3 μ3 w => ⟨held_nil, ?_⟩⟩
      · obtain ⟨u7, rfl, s3, f3, t3⟩ := w
        have hi : ((lot r vs (S r vs j)).map fun a => D.int ((a : Nat) : Int))[i]? = some x := hi
        rw [List.getElem?_map] at hi
        obtain ⟨a, hia, rfl⟩ := Option.map_eq_some_iff.mp hi
        have la := lot_lt (List.mem_of_getElem? hia)
        have ps := part_step (n := vs.length) (s := S r vs j) (lot_nodup r vs (S r vs j)) hia la.1
        walk_at "ev"
        rw [t3]
        walk_at "ev"
        rw [seat_at la.1, ps.1]
        walk_at "ev"
        rw [seat_len, ixN_nat la.1]
        walk_at "ev"
        rw [ps.2]
        exact ⟨_, rfl, s3.put mt, (Mu.upd_ne hft).trans f3, rfl⟩
      · obtain ⟨u7, rfl, s3, f3, t3⟩ := w
        have t3 : μ3 t = some (seatD vs.length (part (S r vs j) ((lot r vs (S r vs j)).take ((lot r vs (S r vs j)).map fun a => D.int ((a : Nat) : Int)).length))) := t3
        rw [List.length_map, List.take_length, part_all] at t3
        refine hV.go ?_
        clear hV
        walk_at "ev"
        rw [f3]
        refine ⟨rfl, _, rfl, sz_lt (by rw [rowS_len]; have := tot_ge g hv h1 j lo; omega), ?_⟩
        refine ⟨⟨j + 1, b, _, _, rfl, s3.put hf, ?_, (Mu.upd_ne hft.symm).trans t3, fun i hi => ?_⟩, ?_⟩
        · rw [Mu.upd_same, rowS_succ]
        · rcases Nat.lt_or_ge i j with z | z
          · exact lo i z
          · rw [show i = j by omega]
            exact ⟨ea, lt⟩
        · unfold rounds
          rw [Mu.upd_same, fo]
          have := tot_ge g hv h1 j lo
          show 300 - (rowS r vs j ++ [stepD r vs (S r vs j)]).length < 300 - (rowS r vs j).length
          rw [List.length_append, rowS_len]
          show 300 - (j + 1) < 300 - j
          omega
  · rw [if_neg lt]
    refine hU.go ?_
    walk_at "ev"
    exact ⟨_, Mu.Sub.refl _, q j ⟨lo, .inr (by omega)⟩ f a5 μ' sb hf fo⟩
end K12
namespace K12
open PySem PySem.Spec PyProof.Rows L2 Dl
local macro_rules | `(tactic| walk_at "ev") => `(tactic| try simp -dsimp only [↓dSeq_at, sp_is_within, dRet, dRetN, dNext, dIfS, dAsg, dDrop, dPar, dNever, dVar, dC, dOp, dUn, dTest, dChain, dAnd, dOr, dNot, dIf, dtAnd, dtOr, dtNot, dTup, daNil, daCons, dCall, dFn, dFnK, dNew, dLst, dOf,
  gdName, gdTup, gdCons, gdNil, gdSub, rdI, rdI0, oPlus, oSub, oTimes, oDiv, oMod, oPow, oLt, oLe, oGt, oGe, oIx, oEq, oNe, uNeg, oIsN, oNotN, D.isNon, cAbs, cMax, cMin, cInt, cDivmod, cLen, cIsi, tyD, items, litems, retD, sTup, mApp, dYes,
  atI_0, atI_1, atI_2, atI_3, atI_4, ixN_20, ixN_21, kit_ii, kit_ib, kit_is, kit_it, kit_il, kit_bi, kit_bb, kit_bs, kit_bt, kit_bl, kit_si, kit_sb, kit_ss, kit_st, kit_sl, kit_ti, kit_tb, kit_ts, kit_tt, kit_tl, kit_li, kit_lb, kit_ls, kit_lt, kit_ll,
  List.getElem?_cons_zero, List.getElem?_cons_succ, List.set_cons_zero, List.set_cons_succ, List.length_cons, List.length_nil, Mu.upd_same, Mu.upd_upd, Nat.zero_add, Nat.reduceAdd, Nat.reduceLeDiff, natlit, Int.reduceEq, Int.reduceLT, Int.reduceLE, Int.reduceAdd, Int.reduceSub, Int.reduceMul, Int.reducePow, Int.reduceNeg, permG2_10, permG3_210, zl_0, zl_1, zl_2, zl_3, zl_4, zl_5, zl_6, zl_7, zl_8, zl_9, zl_10, zl_11, zl_12, zl_13, zl_14, zl_15, zl_16, zl_17, zl_18, zl_19, zl_20, true_and, and_true, eq_self, not_true_eq_false, not_false_eq_true, decide_true, decide_false, if_true, Bool.false_eq_true, if_false, Bool.not_true, Bool.not_false, decide_eq_true_eq, Bool.not_eq_true', decide_eq_false_iff_not, Option.isSome, Option.map])
def New (xs : List D) (μ : Mu) (Q : DK) : Prop := ∀ k, μ k = none → Q (.cell k) (μ.upd k xs)
theorem sub_cell {μ ν : Mu} {f : Nat} {xs : List D} (h : Mu.Sub μ ν) (n : μ f = none) (e : ν f = some xs) : Mu.Sub (μ.upd f xs) ν := fun j ys q => by
  by_cases z : j = f
  · subst z
    rw [Mu.upd_same] at q
    cases q
    exact e
  · rw [Mu.upd_ne z] at q
    exact h j ys q
theorem ask_want_rule {r : R} (g : GR r) {μ : Mu} {Q : DK} (q : Q .non μ) : sp_want_rule [enc r] μ Q := ⟨r, rfl, g, q⟩
def sp_price : DSp := fun ds μ Q => ∃ r vs n m, ds = [enc r, encV vs, .int n, .int m] ∧ (GR r ∧ Vok vs ∧ (0 ≤ n ∧ n < vs.length) ∧ 1 ≤ m ∧ m ≤ 200) ∧ Q (fr (cost r (vt vs n.toNat) m)) μ
theorem len_price : ∀ ds μ Q, sp_price ds μ Q → ds.length = (["rule", "votes", "number", "many"] : List Str).length := by
  rintro ds μ Q ⟨r, vs, n, m, rfl, _⟩
  rfl
theorem vote_at {vs : List Int} {n : Int} (h0 : 0 ≤ n) (h1 : n < vs.length) : atI (vs.map D.int) n = some (.int (vt vs n.toNat)) := by
  have hl : n.toNat < vs.length := by omega
  have e : (vs.map D.int)[n.toNat]? = some (.int (vt vs n.toNat)) := by
    unfold vt
    rw [List.getElem?_map, List.getD_eq_getElem?_getD, List.getElem?_eq_getElem hl]
    rfl
  have := atI_nat e
  rw [show ((n.toNat : Nat) : Int) = n by omega] at this
  exact this
def db_price : DTS := (dSeq (dDrop (dFn sp_want_rule (daCons (dVar 0) daNil))) (dSeq (dDrop (dFn sp_want_votes (daCons (dVar 1) daNil))) (dSeq (dDrop (dFn sp_want_number (daCons (dVar 1) (daCons (dVar 2) daNil)))) (dSeq (dDrop (dFn sp_want_seats (daCons (dVar 3) (daCons (dC (.int 1)) daNil)))) (dRet (dFn sp_price_at (daCons (dVar 0) (daCons (dOp oIx (dVar 1) (dVar 2)) (daCons (dVar 3) daNil)))))))))
theorem pf_price : ∀ ds μ Q, sp_price ds μ Q → db_price (retD Q) (startD ["rule", "votes", "number", "many"] ds) μ := by
  rintro ds μ Q ⟨r, vs, n, m, rfl, ⟨g, hv, ⟨n0, n1⟩, m0, m1⟩, h⟩
  show db_price (retD Q) [some (enc r), some (.tup (vs.map D.int)), some (.int n), some (.int m)] μ
  unfold db_price
  refine sq fun U hU => ?_
  walk_at "ev"
  refine ask_want_rule g ?_
  refine hU.go ?_
  refine sq fun U hU => ?_
  walk_at "ev"
  refine ⟨vs, rfl, hv, ?_⟩
  refine hU.go ?_
  refine sq fun U hU => ?_
  walk_at "ev"
  refine ⟨vs, n, rfl, ⟨hv, n0, n1⟩, ?_⟩
  refine hU.go ?_
  refine sq fun U hU => ?_
  walk_at "ev"
  refine ⟨⟨m0, m1⟩, ?_⟩
  refine hU.go ?_
  walk_at "ev"
  rw [vote_at n0 n1]
  exact ⟨r, _, m, rfl, ⟨g, hv.at _, m0, m1⟩, _, Mu.Sub.refl _, h⟩
def sp_row_of_seats : DSp := fun ds μ Q => ∃ r vs h, ds = [enc r, encV vs, .int h] ∧ (GR r ∧ Vok vs ∧ 0 ≤ h ∧ h ≤ 200) ∧ ∀ J, Ends r vs h J → New (rowS r vs J) μ Q
theorem len_row_of_seats : ∀ ds μ Q, sp_row_of_seats ds μ Q → ds.length = (["rule", "votes", "house"] : List Str).length := by
  rintro ds μ Q ⟨r, vs, h, rfl, _⟩
  rfl
def db_row_of_seats : DTS := (dSeq (dDrop (dFn sp_want_rule (daCons (dVar 0) daNil))) (dSeq (dDrop (dFn sp_want_votes (daCons (dVar 1) daNil))) (dSeq (dDrop (dFn sp_want_house (daCons (dVar 2) daNil))) (dRet (dOp oIx (dFn sp_steps_to (daCons (dVar 0) (daCons (dVar 1) (daCons (dVar 2) daNil)))) (dC (.int 0)))))))
theorem pf_row_of_seats : ∀ ds μ Q, sp_row_of_seats ds μ Q → db_row_of_seats (retD Q) (startD ["rule", "votes", "house"] ds) μ := by
  rintro ds μ Q ⟨r, vs, h, rfl, ⟨g, hv, h0, h1⟩, q⟩
  show db_row_of_seats (retD Q) [some (enc r), some (.tup (vs.map D.int)), some (.int h)] μ
  unfold db_row_of_seats
  refine sq fun U hU => ?_
  walk_at "ev"
  refine ask_want_rule g ?_
  refine hU.go ?_
  refine sq fun U hU => ?_
  walk_at "ev"
  refine ⟨vs, rfl, hv, ?_⟩
  refine hU.go ?_
  refine sq fun U hU => ?_
  walk_at "ev"
  refine ⟨⟨h0, h1⟩, ?_⟩
  refine hU.go ?_
  walk_at "ev"
  refine ⟨r, vs, h, rfl, ⟨g, hv, h0, h1⟩, fun J hJ k1 k2 μ' sb n1 e1 => ?_⟩
  walk_at "ev"
  exact ⟨_, sub_cell sb n1 e1, q J hJ k1 n1⟩
/-! ## the same row, from all prices -/
theorem range_il (lo hi : Int) : rangeD lo hi = (il lo hi).map D.int := by
  unfold rangeD il
  rw [List.map_map]
  rfl
theorem il_len (lo hi : Int) : (il lo hi).length = (hi - lo).toNat := by
  unfold il
  rw [List.length_map, List.length_range]
def rowD (p : Nat × (Int × Int)) : D := .tup [.int ((p.1 : Nat) : Int), fr p.2]
def pyRow (p : Nat × (Int × Int)) : PyData := .tuple [.int ((p.1 : Nat) : Int), .tuple [.int p.2.1, .int p.2.2]]
theorem eq_row {μ : Mu} (p : Nat × (Int × Int)) : EqOk μ (rowD p) (pyRow p) 2 := .tup (.cons (.mono (.int _) (Nat.zero_le 1)) (.cons (.tup (.cons (.int _) (.cons (.int _) .nil))) .emp))
def rowsP (r : R) (vs : List Int) (h : Int) (i : Nat) : List (Nat × (Int × Int)) := ((List.range i).filter fun a => decide (0 < vt vs a)).flatMap (rowsOf r vs h (S r vs 0))
theorem rowsP_succ (r : R) (vs : List Int) (h : Int) (i : Nat) : rowsP r vs h (i + 1) = rowsP r vs h i ++ if 0 < vt vs i then rowsOf r vs h (S r vs 0) i else [] := by
  unfold rowsP
  rw [List.range_succ, List.filter_append, List.flatMap_append]
  refine congrArg _ ?_
  by_cases e : 0 < vt vs i
  · rw [if_pos e, List.filter_cons, if_pos (decide_eq_true e)]
    simp
  · rw [if_neg e, List.filter_cons, if_neg (by simpa using e)]
    rfl
theorem rowsOf_len (r : R) (vs : List Int) (h : Int) (s : Sf) (a : Nat) (h1 : h ≤ 200) (hs : 0 ≤ s a) : (rowsOf r vs h s a).length ≤ 200 := by
  unfold rowsOf
  rw [List.length_map, il_len]
  omega
theorem rowsP_len (r : R) (vs : List Int) (h : Int) (h1 : h ≤ 200) : ∀ i, (rowsP r vs h i).length ≤ i * 200
  | 0 => Nat.zero_le _
  | i + 1 => by
    rw [rowsP_succ, List.length_append]
    have a := rowsP_len r vs h h1 i
    have b := rowsOf_len r vs h (S r vs 0) i h1 (Int.le_refl _)
    split
    · omega
    · simp only [List.length_nil]
      omega
theorem flat_len {β γ : Type} {f : β → List γ} {c : Nat} (hf : ∀ b, (f b).length ≤ c) : ∀ l : List β, (l.flatMap f).length ≤ l.length * c
  | [] => Nat.zero_le _
  | b :: l => by
    have a := flat_len hf l
    have := hf b
    rw [List.flatMap_cons, List.length_append, List.length_cons, Nat.add_mul]
    omega
theorem rowsN_len (r : R) (vs : List Int) (h : Int) (j : Nat) (hv : Vok vs) (h1 : h ≤ 200) : (rowsN r vs h (S r vs j)).length ≤ 2400 := by
  have a := flat_len (f := rowsOf r vs h (S r vs j)) (c := 200) (fun a => rowsOf_len r vs h _ a h1 (S_pos r vs j a)) (act vs)
  have b : (act vs).length ≤ 12 := by
    have := List.length_filter_le (fun a => decide (0 < vt vs a)) (List.range vs.length)
    rw [List.length_range] at this
    have := hv.len
    unfold act
    omega
  show ((act vs).flatMap _).length ≤ _
  omega
def sp_law_row : DSp := fun ds μ Q => ∃ r vs h, ds = [enc r, encV vs, .int h] ∧ (GR r ∧ Vok vs ∧ 0 ≤ h ∧ h ≤ 200) ∧ ∀ J, Ends r vs h J → New (rowS r vs J) μ Q
theorem len_law_row : ∀ ds μ Q, sp_law_row ds μ Q → ds.length = (["rule", "votes", "house"] : List Str).length := by
  rintro ds μ Q ⟨r, vs, h, rfl, _⟩
  rfl
def db_law_row : DTS := (dSeq (dAsg (dNew (dLst daNil)) (gdName 3)) (dSeq (dFor (diEnum2 (dVar 1)) (gdTup 2 (gdCons (gdName 4) (gdCons (gdName 5) gdNil))) (dDrop (mExtL (dVar 3) (dIfL (dTest (dOp oGt (dVar 5) (dC (.int 0)))) (dLc (diR2 (daCons (dC (.int 1)) (daCons (dOp oPlus (dVar 2) (dC (.int 1))) daNil))) (gdName 6) dYes (dTup (daCons (dVar 4) (daCons (dFn sp_law_price (daCons (dVar 0) (daCons (dVar 5) (daCons (dVar 6) daNil)))) daNil))) [6]) (dLst daNil))))) (dSeq (dPar 7 8 (daCons (dNew (dLst daNil)) (daCons (dC (.int 0)) daNil))) (dSeq (dWhile (dtAnd (dTest (dOp oNe (dVar 3) (dNew (dLst daNil)))) (dTest (dOp oLt (dVar 8) (dVar 2)))) (dSeq (dAsg (dOp oIx (dOp oIx (dVar 3) (dC (.int 0))) (dC (.int 1))) (gdName 9)) (dSeq (dFor (diSeq (dVar 3)) (gdTup 2 (gdCons (gdName 4) (gdCons (gdName 10) gdNil))) (dAsg (dIf (dTest (dFn sp_law_below (daCons (dVar 9) (daCons (dVar 10) daNil)))) (dVar 10) (dVar 9)) (gdName 9))) (dSeq (dAsg (dOf sTup (dLc (diSeq (dVar 3)) (gdTup 2 (gdCons (gdName 4) (gdCons (gdName 10) gdNil))) (dTest (dOp oEq (dVar 10) (dVar 9))) (dVar 4) [4, 10])) (gdName 11)) (dSeq (dDrop (mApp (dVar 7) (dTup (daCons (dVar 9) (daCons (dVar 11) daNil))))) (dPar 3 8 (daCons (dNew (dLc (diSeq (dVar 3)) (gdName 12) (dTest (dOp oNe (dOp oIx (dVar 12) (dC (.int 1))) (dVar 9))) (dVar 12) [12])) (daCons (dOp oPlus (dVar 8) (dCall cLen (daCons (dVar 11) daNil))) daNil)))))))) (dRet (dVar 7))))))
structure Wr (r : R) (vs : List Int) (h : Int) (μ : Mu) (k f j : Nat) (ν : Mu) : Prop where
  sb : Mu.Sub μ ν
  ro : ν k = some ((rowsN r vs h (S r vs j)).map rowD)
  fo : ν f = some (rowS r vs j)
  kf : k ≠ f
  lo : ∀ i, i < j → act vs ≠ [] ∧ tot vs (S r vs i) < h
theorem pf_law_row : ∀ ds μ Q, sp_law_row ds μ Q → db_law_row (retD Q) (startD ["rule", "votes", "house", "rows", "at", "one", "many", "found", "seats", "best", "worth", "lot", "row"] ds) μ := by
  rintro ds μ Q ⟨r, vs, h, rfl, ⟨g, hv, h0, h1⟩, q⟩
  show db_law_row (retD Q) [some (enc r), some (.tup (vs.map D.int)), some (.int h), none, none, none, none, none, none, none, none, none, none] μ
  have hl := hv.len
  unfold db_law_row
  refine sq fun U hU => ?_
  walk_at "ev"
  intro k hk
  refine hU.go ?_
  clear hU
  refine sq fun U hU => ?_
  simp -dsimp only [dFor, diEnum2]
  walk_at "ev"
  rw [enumV]
  refine ⟨fun i ρ' μ' => ∃ w4 w5 w6, ρ' = [some (enc r), some (.tup (vs.map D.int)), some (.int h), some (.cell k), w4, w5, w6, none, none, none, none, none, none] ∧ μ' = μ.upd k ((rowsP r vs h i).map rowD), ⟨_, _, _, rfl, rfl⟩, fun i x ρ' μ' hi w => ⟨held_nil, ?_⟩, fun ρ' μ' w => ⟨held_nil, ?_⟩⟩
  · obtain ⟨w4, w5, w6, rfl, rfl⟩ := w
    have hi : ((List.range vs.length).map (ivD vs))[i]? = some x := hi
    rw [List.getElem?_map] at hi
    obtain ⟨a, hia, rfl⟩ := Option.map_eq_some_iff.mp hi
    have hin : i < vs.length := by
      have := (List.getElem?_eq_some_iff.mp hia).1
      rw [List.length_range] at this
      exact this
    rw [List.getElem?_range hin] at hia
    obtain rfl := Option.some.inj hia
    have va := hv.at i
    simp -dsimp only [ivD]
    walk_at "ev"
    simp -dsimp only [mExtL, dIfL]
    walk_at "ev"
    have ln := rowsP_len r vs h h1 i
    rw [rowsP_succ]
    by_cases e : 0 < vt vs i
    · rw [if_pos e, if_pos e]
      simp -dsimp only [dLc, diR2]
      walk_at "ev"
      refine ⟨⟨⟨by decide, by decide⟩, by omega, by omega⟩, ?_⟩
      rw [range_il]
      refine lc_tm (fun m => rowD (i, cost r (vt vs i) m)) held_nil (by rw [il_len]; omega) (fun m hm μ' Qy sb q => ?_) ?_
      · have hm := mem_il.mp hm
        simp -dsimp only [wipeD]
        walk_at "ev"
        exact ⟨r, _, m, rfl, ⟨g, va, by omega, by omega⟩, q⟩
      · refine ⟨_, Mu.upd_same, ?_, ?_⟩
        · rw [List.length_map, List.length_map, il_len]
          exact sz1000 (by omega)
        · walk_at "ev"
          refine ⟨_, _, _, rfl, ?_⟩
          rw [List.map_append]
          refine congrArg (fun z => μ.upd k (_ ++ z)) ?_
          unfold rowsOf
          rw [List.map_map]
          rfl
    · rw [if_neg e, if_neg e]
      walk_at "ev"
      refine ⟨_, rfl, ?_, ?_⟩
      · rw [List.length_map]
        exact sz1000 (by omega)
      · refine ⟨_, _, _, rfl, ?_⟩
        rw [List.append_nil, List.append_nil]
  · obtain ⟨w4, w5, w6, rfl, w⟩ := w
    have w : μ' = μ.upd k ((rowsP r vs h ((List.range vs.length).map (ivD vs)).length).map rowD) := w
    rw [List.length_map, List.length_range] at w
    subst w
    refine hU.go ?_
    clear hU
    refine sq fun U hU => ?_
    walk_at "ev"
    intro f hf
    refine hU.go ?_
    clear hU
    have sb0 : Mu.Sub μ ((μ.upd k ((rowsP r vs h vs.length).map rowD)).upd f []) := (Mu.sub_upd hk).trans (Mu.sub_upd hf)
    have kf : k ≠ f := Mu.ne_of (Mu.upd_same (μ := μ) (k := k) (xs := (rowsP r vs h vs.length).map rowD)) hf
    have mf : μ f = none := none_of (Mu.sub_upd hk) hf
    have r0 : ((μ.upd k ((rowsP r vs h vs.length).map rowD)).upd f []) k = some ((rowsN r vs h (S r vs 0)).map rowD) := Mu.keep Mu.upd_same hf
    have f0 : ((μ.upd k ((rowsP r vs h vs.length).map rowD)).upd f []) f = some (rowS r vs 0) := Mu.upd_same
    generalize ((μ.upd k ((rowsP r vs h vs.length).map rowD)).upd f []) = ν at sb0 r0 f0 ⊢
    clear hf
    refine sq fun U hU => ?_
    refine ⟨fun ρ' μ' => ∃ j k, (∃ w4 w5 w6 w9 w10 w11 w12, ρ' = [some (enc r), some (.tup (vs.map D.int)), some (.int h), some (.cell k), w4, w5, w6, some (.cell f), some (.int (tot vs (S r vs j))), w9, w10, w11, w12]) ∧ Wr r vs h μ k f j μ', fun _ μ' => rounds f μ', ⟨0, k, ⟨w4, w5, w6, none, none, none, none, by rw [tot_0]⟩, sb0, r0, f0, kf, fun i hi => absurd hi (Nat.not_lt_zero i)⟩, fun ρ' μ' w => ?_⟩
    clear r0 f0 kf sb0
    obtain ⟨j, p, ⟨w4, w5, w6, w9, w10, w11, w12, rfl⟩, sb, ro, fo, kf, lo⟩ := w
    have rl := rowsN_len r vs h j hv h1
    walk_at "ev"
    intro e0 he0
    refine ask_deep (a := 3) (b := 3) (.lst (Mu.keep ro he0) (.map fun p _ => eq_row p)) (.lst Mu.upd_same .emp) (by decide) (by decide) ?_
    have ev0 : PyData.eqv (.list ((rowsN r vs h (S r vs j)).map pyRow)) (.list []) = decide (rowsN r vs h (S r vs j) = []) := by
      cases rowsN r vs h (S r vs j) <;> simp [PyData.eqv, PyData.eqvAll]
    rw [if_pos rfl, ev0]
    have sb1 := sb.trans (Mu.sub_upd (xs := []) he0)
    have ro1 := Mu.keep (xs := []) ro he0
    have fo1 := Mu.keep (xs := []) fo he0
    generalize μ'.upd e0 [] = ν1 at sb1 ro1 fo1 ⊢
    have fin : ∀ {x4 x5 x6 x9 x10 x11 x12 : Option D} {z : D}, (act vs = [] ∨ h ≤ tot vs (S r vs j)) → U [some (enc r), some (.tup (vs.map D.int)), some (.int h), some (.cell p), x4, x5, x6, some (.cell f), some z, x9, x10, x11, x12] ν1 := by
      intro x4 x5 x6 x9 x10 x11 x12 z top
      refine hU.go ?_
      walk_at "ev"
      exact ⟨_, sub_cell sb1 mf fo1, q j ⟨lo, top⟩ f mf⟩
    walk_at "ev"
    by_cases eR : rowsN r vs h (S r vs j) = []
    · rw [if_neg (fun z => z eR)]
      refine fin ?_
      by_cases ea : act vs = []
      · exact .inl ea
      · by_cases lt : tot vs (S r vs j) < h
        · exact absurd eR (rows_ne g hv (S_ok h1 lt) ea)
        · exact .inr (by omega)
    rw [if_pos eR]
    by_cases lt : tot vs (S r vs j) < h
    · rw [if_pos lt]
      have ea : act vs ≠ [] := fun z => eR (rows_nil z)
      have so := S_ok h1 lt
      have gfs := rows_gf g hv so
      have mxs := rows_max g hv so ea
      have elot := rows_lot g hv so
      have egv := rows_give g hv so
      have hb : bst ((rowsN r vs h (S r vs j)).map (·.2)) = best r vs (S r vs j) := max_uni gfs (bst_max (by simpa using eR) gfs).1 mxs
      obtain ⟨p0, rest, eC⟩ : ∃ p0 rest, rowsN r vs h (S r vs j) = p0 :: rest := by
        cases e : rowsN r vs h (S r vs j) with
        | nil => exact absurd e eR
        | cons a b => exact ⟨a, b, rfl⟩
      rw [eC] at ro1 rl gfs elot egv hb
      refine sq fun V hV => ?_
      walk_at "ev"
      rw [ro1]
      simp -dsimp only [List.map_cons, rowD]
      walk_at "ev"
      refine hV.go ?_
      clear hV
      refine sq fun V hV => ?_
      simp -dsimp only [dFor, diSeq]
      walk_at "ev"
      simp -dsimp only [lsrc]
      rw [ro1]
      walk_at "ev"
      refine ⟨fun i ρ3 μ3 => ∃ u4 u10, ρ3 = [some (enc r), some (.tup (vs.map D.int)), some (.int h), some (.cell p), u4, w5, w6, some (.cell f), some (.int (tot vs (S r vs j))), some (fr ((((p0 :: rest).map (·.2)).take i).foldl up p0.2)), u10, w11, w12] ∧ μ3 = ν1, ⟨_, _, rfl, rfl⟩, fun i x ρ3 μ3 hi w => ?_, fun ρ3 μ3 w => ?_⟩
      · obtain ⟨u4, u10, rfl, rfl⟩ := w
        refine ⟨held_one ro1, ?_⟩
        have hi : ((p0 :: rest).map rowD)[i]? = some x := hi
        rw [List.getElem?_map] at hi
        obtain ⟨y, hiy, rfl⟩ := Option.map_eq_some_iff.mp hi
        have hiz : ((p0 :: rest).map (·.2))[i]? = some y.2 := by rw [List.getElem?_map, hiy]; rfl
        have et : ((p0 :: rest).map (·.2)).take (i + 1) = ((p0 :: rest).map (·.2)).take i ++ [y.2] := by rw [List.take_add_one, hiz]; rfl
        have gy := gfs y.2 (List.mem_of_getElem? hiz)
        have gb := (fold_max (((p0 :: rest).map (·.2)).take i) p0.2 (gfs p0.2 (List.mem_cons_self ..)) fun z hz => gfs z (List.mem_of_mem_take hz)).2.1
        simp -dsimp only [rowD]
        walk_at "ev"
        rw [et, List.foldl_append]
        generalize (((p0 :: rest).map (·.2)).take i).foldl up p0.2 = b at gb ⊢
        show sp_law_below [fr b, fr y.2] _ _
        refine ⟨⟨gb.sz.1, gb.sz.2, gy.sz.1, gy.sz.2⟩, ?_⟩
        walk_at "ev"
        show if b.1 * y.2.2 < y.2.1 * b.2 then _ else _
        by_cases l3 : K12.lt b y.2
        · rw [if_pos (by simp only [K12.lt] at l3; exact l3)]
          rw [show [y.2].foldl up b = y.2 from if_pos l3]
          exact ⟨_, _, rfl⟩
        · rw [if_neg (by simp only [K12.lt] at l3; exact l3)]
          rw [show [y.2].foldl up b = b from if_neg l3]
          exact ⟨_, _, rfl⟩
      · obtain ⟨u4, u10, rfl, rfl⟩ := w
        refine ⟨held_one ro1, ?_⟩
        have hb : (((p0 :: rest).map (·.2)).take ((p0 :: rest).map rowD).length).foldl up p0.2 = best r vs (S r vs j) := by
          rw [← hb, List.length_map, show (p0 :: rest).length = ((p0 :: rest).map (·.2)).length by rw [List.length_map], List.take_length]
          rfl
        simp -dsimp only []
        rw [hb]
        refine hV.go ?_
        clear hV
        refine sq fun V hV => ?_
        walk_at "ev"
        simp -dsimp only [dLc, diSeq]
        walk_at "ev"
        simp -dsimp only [lsrc]
        rw [ro1]
        walk_at "ev"
        refine lc_ty (l := p0 :: rest) (fun y => decide (y.2 = best r vs (S r vs j))) (fun y => .int ((y.1 : Nat) : Int)) (held_one ro1) (by omega) (fun y hy μ4 Qy Qn sb4 q4 => ?_) ?_
        · simp -dsimp only [wipeD, rowD]
          walk_at "ev"
          show deepEq false (fr y.2) (fr (best r vs (S r vs j))) μ4 _
          refine fr_eqv _ _ _ _ ?_
          walk_at "ev"
          by_cases e2 : y.2 = best r vs (S r vs j)
          · rw [if_pos (decide_eq_true e2)] at q4
            rw [if_pos e2]
            exact q4
          · rw [if_neg (by simpa using e2)] at q4
            rw [if_neg e2]
            exact q4
        have el : ((p0 :: rest).filter fun y => decide (y.2 = best r vs (S r vs j))).map (fun y => D.int ((y.1 : Nat) : Int)) = (lot r vs (S r vs j)).map fun a => D.int ((a : Nat) : Int) := by
          rw [← elot, List.map_map]
          rfl
        rw [el]
        walk_at "ev"
        refine hV.go ?_
        clear hV
        refine sq fun V hV => ?_
        walk_at "ev"
        rw [fo1]
        have js := tot_ge g hv h1 j lo
        refine ⟨rfl, _, rfl, sz_lt (by rw [rowS_len]; omega), ?_⟩
        refine hV.go ?_
        clear hV
        have sb2 : Mu.Sub μ (μ3.upd f (rowS r vs (j + 1))) := sb1.put mf
        have ro2 : (μ3.upd f (rowS r vs (j + 1))) p = some ((p0 :: rest).map rowD) := (Mu.upd_ne kf).trans ro1
        have fo2 : (μ3.upd f (rowS r vs (j + 1))) f = some (rowS r vs (j + 1)) := Mu.upd_same
        have ef : rowS r vs j ++ [D.tup [fr (best r vs (S r vs j)), D.tup ((lot r vs (S r vs j)).map fun a => D.int ((a : Nat) : Int))]] = rowS r vs (j + 1) := (rowS_succ r vs j).symm
        rw [ef]
        generalize μ3.upd f (rowS r vs (j + 1)) = μ5 at sb2 ro2 fo2 ⊢
        walk_at "ev"
        simp -dsimp only [dLc, diSeq]
        walk_at "ev"
        simp -dsimp only [lsrc]
        rw [ro2]
        walk_at "ev"
        refine lc_ty (l := p0 :: rest) (fun y => !decide (y.2 = best r vs (S r vs j))) rowD (held_one ro2) (by omega) (fun y hy μ4 Qy Qn sb4 q4 => ?_) ?_
        · simp -dsimp only [wipeD, rowD]
          walk_at "ev"
          show deepEq true (fr y.2) (fr (best r vs (S r vs j))) μ4 _
          refine fr_nev _ _ _ _ ?_
          walk_at "ev"
          by_cases e2 : y.2 = best r vs (S r vs j)
          · rw [if_neg (by simpa using e2)] at q4
            rw [if_neg (fun z => z e2)]
            exact q4
          · rw [if_pos (by simpa using e2)] at q4
            rw [if_pos e2]
            exact q4
        intro p2 hp2
        walk_at "ev"
        have et : tot vs (S r vs j) + (((lot r vs (S r vs j)).map fun a => D.int ((a : Nat) : Int)).length : Nat) = tot vs (S r vs (j + 1)) := by
          rw [List.length_map]
          exact (tot_give r vs (S r vs j)).symm
        rw [et]
        refine ⟨⟨j + 1, p2, ⟨_, _, _, _, _, _, _, rfl⟩, sb2.trans (Mu.sub_upd hp2), ?_, Mu.keep fo2 hp2, (Mu.ne_of fo2 hp2).symm, fun i hi => ?_⟩, ?_⟩
        · rw [Mu.upd_same, egv]
          rfl
        · rcases Nat.lt_or_ge i j with z | z
          · exact lo i z
          · rw [show i = j by omega]
            exact ⟨ea, lt⟩
        · unfold rounds
          rw [Mu.keep fo2 hp2, fo]
          show 300 - (rowS r vs (j + 1)).length < 300 - (rowS r vs j).length
          rw [rowS_len, rowS_len]
          omega
    · rw [if_neg lt]
      exact fin (.inr (by omega))
end K12
namespace K12
open PySem PySem.Spec PyProof.Rows L2 Dl
local macro_rules | `(tactic| walk_at "ev") => `(tactic| try simp -dsimp only [↓dSeq_at, dRet, dRetN, dNext, dIfS, dAsg, dDrop, dPar, dNever, dVar, dC, dOp, dUn, dTest, dChain, dAnd, dOr, dNot, dIf, dtAnd, dtOr, dtNot, dTup, daNil, daCons, dCall, dFn, dFnK, dNew, dLst, dOf,
  gdName, gdTup, gdCons, gdNil, gdSub, rdI, rdI0, oPlus, oSub, oTimes, oDiv, oMod, oPow, oLt, oLe, oGt, oGe, oIx, oEq, oNe, uNeg, oIsN, oNotN, D.isNon, cAbs, cMax, cMin, cInt, cDivmod, cLen, cIsi, tyD, items, litems, retD, sTup, mApp, dYes,
  atI_0, atI_1, atI_2, atI_3, atI_4, ixN_20, ixN_21, kit_ii, kit_ib, kit_is, kit_it, kit_il, kit_bi, kit_bb, kit_bs, kit_bt, kit_bl, kit_si, kit_sb, kit_ss, kit_st, kit_sl, kit_ti, kit_tb, kit_ts, kit_tt, kit_tl, kit_li, kit_lb, kit_ls, kit_lt, kit_ll,
  List.getElem?_cons_zero, List.getElem?_cons_succ, List.set_cons_zero, List.set_cons_succ, List.length_cons, List.length_nil, Mu.upd_same, Mu.upd_upd, Nat.zero_add, Nat.reduceAdd, Nat.reduceLeDiff, natlit, Int.reduceEq, Int.reduceLT, Int.reduceLE, Int.reduceAdd, Int.reduceSub, Int.reduceMul, Int.reducePow, Int.reduceNeg, permG2_10, permG3_210, zl_0, zl_1, zl_2, zl_3, zl_4, zl_5, zl_6, zl_7, zl_8, zl_9, zl_10, zl_11, zl_12, zl_13, zl_14, zl_15, zl_16, zl_17, zl_18, zl_19, zl_20, true_and, and_true, eq_self, not_true_eq_false, not_false_eq_true, decide_true, decide_false, if_true, Bool.false_eq_true, if_false, Bool.not_true, Bool.not_false, decide_eq_true_eq, Bool.not_eq_true', decide_eq_false_iff_not, Option.isSome, Option.map])
/-- what is kept while the law runs: the pot stands somewhere, all else of the caller's is as it was -/
def Good (μ : Mu) (c : Nat) (ν : Mu) : Prop := ∃ a b : Int, PB a b ∧ Mu.Sub (μ.upd c [.int a, .int b]) ν
theorem Good.pot {μ ν : Mu} {c : Nat} (h : Good μ c ν) : Pot ν c := by
  obtain ⟨a, b, h1, h2⟩ := h
  exact ⟨a, b, h2 _ _ Mu.upd_same, h1⟩
theorem Good.sub {μ ν ν' : Mu} {c : Nat} (h : Good μ c ν) (n : Mu.Sub ν ν') : Good μ c ν' := by
  obtain ⟨a, b, h1, h2⟩ := h
  exact ⟨a, b, h1, h2.trans n⟩
theorem Good.new {μ ν : Mu} {c k : Nat} {xs : List D} (h : Good μ c ν) (n : ν k = none) : Good μ c (ν.upd k xs) := h.sub (Mu.sub_upd n)
theorem Good.turn {μ ν : Mu} {c : Nat} {a b : Int} (h : Good μ c ν) (hp : PB a b) : Good μ c (ν.upd c [.int a, .int b]) := by
  obtain ⟨a1, b1, h1, h2⟩ := h
  refine ⟨a, b, hp, ?_⟩
  have := h2.upd c [.int a, .int b]
  rw [Mu.upd_upd] at this
  exact this
theorem Good.start {μ : Mu} {c : Nat} (h : Pot μ c) : Good μ c μ := by
  obtain ⟨a, b, h1, h2⟩ := h
  refine ⟨a, b, h2, fun j ys e => ?_⟩
  by_cases z : j = c
  · subst z
    rw [Mu.upd_same] at e
    cases e
    exact h1
  · rw [Mu.upd_ne z] at e
    exact e
theorem upd_comm {μ : Mu} {j k : Nat} {xs ys : List D} (h : j ≠ k) : (μ.upd j xs).upd k ys = (μ.upd k ys).upd j xs := by
  funext i
  by_cases a : i = k
  · subst a
    rw [Mu.upd_same, Mu.upd_ne h.symm, Mu.upd_same]
  · rw [Mu.upd_ne a]
    by_cases b : i = j
    · subst b
      rw [Mu.upd_same, Mu.upd_same]
    · rw [Mu.upd_ne b, Mu.upd_ne b, Mu.upd_ne a]
theorem lc_pot {its : List D} {g : DTG} {de : DTE} {ρ : Rho} {Q : List D → Mu → Prop} {μ : Mu} {c : Nat} (P : D → Prop) (hp : Pot μ c) (hl : its.length ≤ 1000)
    (hb : ∀ x, x ∈ its → ∀ μ' (Qy : DK), Pot μ' c → (∀ y a b μ4, P y → PB a b → Mu.Sub (μ'.upd c [.int a, .int b]) μ4 → Qy y μ4) → g x ρ μ' fun ρ2 μ2 => de ρ2 μ2 Qy)
    (hq : ∀ xs : List D, xs.length = its.length → (∀ y ∈ xs, P y) → Turn c μ fun μ' => Q xs μ') : lcIn ⟨its, []⟩ g dYes de ρ Q μ := by
  intro k hk
  obtain ⟨a0, b0, hc, hpb⟩ := hp
  have ck : c ≠ k := Mu.ne_of hc hk
  refine ⟨fun i μ' => ∃ a b xs, PB a b ∧ xs.length = i ∧ (∀ y ∈ xs, P y) ∧ Mu.Sub ((μ.upd c [.int a, .int b]).upd k xs) μ', ⟨a0, b0, [], hpb, rfl, (fun _ hy => nomatch hy), ?_⟩, fun i x μ' hi w => ⟨held_nil, ?_⟩, fun μ' w => ⟨held_nil, ?_⟩⟩
  · rw [upd_comm ck]
    refine fun j ys e => ?_
    by_cases z : j = c
    · subst z
      rw [Mu.upd_same] at e
      cases e
      exact (Mu.upd_ne ck).trans hc
    · rw [Mu.upd_ne z] at e
      exact e
  · obtain ⟨a, b, xs, pb, len, all, sb⟩ := w
    have hi : its[i]? = some x := hi
    have li := (List.getElem?_eq_some_iff.mp hi).1
    have pot : Pot μ' c := ⟨a, b, sb _ _ ((Mu.upd_ne ck).trans Mu.upd_same), pb⟩
    refine hb x (List.mem_of_getElem? hi) μ' _ pot fun y a2 b2 μ4 hy pb2 s4 => ?_
    have s5 := (sb.upd c [.int a2, .int b2]).trans s4
    rw [← upd_comm ck, Mu.upd_upd] at s5
    refine ⟨xs, s5 _ _ Mu.upd_same, sz_lt (by omega), a2, b2, xs ++ [y], pb2, by rw [List.length_append, len]; rfl, fun z hz => ?_, ?_⟩
    · rcases List.mem_append.mp hz with hz | hz
      · exact all z hz
      · cases hz with
        | head => exact hy
        | tail _ hz => cases hz
    · have := s5.upd k (xs ++ [y])
      rw [Mu.upd_upd] at this
      exact this
  · obtain ⟨a, b, xs, pb, len, all, sb⟩ := w
    exact ⟨xs, μ.upd c [.int a, .int b], sb _ _ Mu.upd_same, (Mu.upd_ne ck.symm).trans hk, sb, hq xs len all a b pb⟩
def Vt (y : D) : Prop := ∃ v : Int, y = .int v ∧ 0 ≤ v ∧ v ≤ 10 ^ 9
theorem vts : ∀ (xs : List D), (∀ y ∈ xs, Vt y) → ∃ vs : List Int, xs = vs.map D.int ∧ ∀ v ∈ vs, 0 ≤ v ∧ v ≤ 10 ^ 9
  | [], _ => ⟨[], rfl, (fun _ h => nomatch h)⟩
  | y :: xs, h => by
    obtain ⟨v, rfl, hv⟩ := h y (List.mem_cons_self ..)
    obtain ⟨vs, rfl, hs⟩ := vts xs fun z hz => h z (List.mem_cons_of_mem _ hz)
    refine ⟨v :: vs, rfl, fun w hw => ?_⟩
    cases hw with
    | head => exact hv
    | tail _ hw => exact hs w hw
theorem vok_of {vs : List Int} {n : Nat} (h : ∀ v ∈ vs, 0 ≤ v ∧ v ≤ 10 ^ 9) (hn : vs.length = n) (h0 : 1 ≤ n) (h1 : n ≤ 12) : Vok vs := ⟨⟨by omega, by omega⟩, h⟩
def sp_law_votes : DSp := fun ds μ Q => ∃ c n, ds = [.cell c, .int n, .bl true] ∧ (Pot μ c ∧ 1 ≤ n ∧ n ≤ 12) ∧ ∀ vs, Vok vs → Turn c μ fun μ' => Q (encV vs) μ'
theorem len_law_votes : ∀ ds μ Q, sp_law_votes ds μ Q → ds.length = (["pot", "lists", "great"] : List Str).length := by
  rintro ds μ Q ⟨c, n, rfl, _⟩
  rfl
def db_law_votes : DTS := (dSeq (dIfS (dtAnd (dTest (dVar 2)) (dTest (dOp oEq (dFn sp_law_draw (daCons (dVar 0) (daCons (dC (.int 3)) daNil))) (dC (.int 0))))) (dRet (dOf sTup (dLc (diR1 (daCons (dVar 1) daNil)) (gdName 3) dYes (dFn sp_law_pick (daCons (dVar 0) (daCons (dNew (dLst (daCons (dC (.int 0)) (daCons (dC (.int 1)) (daCons (dOp oPow (dC (.int 10)) (dC (.int 9))) (daCons (dC (.int 999999999)) (daCons (dOp oTimes (dC (.int 7)) (dOp oPow (dC (.int 10)) (dC (.int 8)))) (daCons (dC (.int 333333333)) daNil)))))))) daNil))) [3]))) dNext) (dRet (dOf sTup (dLc (diR1 (daCons (dVar 1) daNil)) (gdName 3) dYes (dFn sp_law_draw (daCons (dVar 0) (daCons (dC (.int 13)) daNil))) [3]))))
theorem turn_turn {c : Nat} {μ : Mu} {a b : Int} {P : Mu → Prop} (h : Turn c μ P) : Turn c (μ.upd c [.int a, .int b]) P := by
  intro a2 b2 hp
  rw [Mu.upd_upd]
  exact h a2 b2 hp
theorem pf_law_votes : ∀ ds μ Q, sp_law_votes ds μ Q → db_law_votes (retD Q) (startD ["pot", "lists", "great", "one"] ds) μ := by
  rintro ds μ Q ⟨c, n, rfl, ⟨hp, n0, n1⟩, q⟩
  show db_law_votes (retD Q) [some (.cell c), some (.int n), some (.bl true), none] μ
  unfold db_law_votes
  refine sq fun U hU => ?_
  walk_at "ev"
  refine ask_draw hp (by decide) (by decide) fun way h0 h1 a1 b1 hp1 => ?_
  have fin : ∀ xs : List D, xs.length = (rangeD 0 n).length → (∀ y ∈ xs, Vt y) → Turn c μ fun μ' => ∃ μ'', Mu.Sub μ'' μ' ∧ Q (.tup xs) μ'' := by
    intro xs hx hy a b hp
    obtain ⟨vs, rfl, hv⟩ := vts xs hy
    rw [List.length_map, rangeD_len] at hx
    exact ⟨_, Mu.Sub.refl _, q vs (vok_of hv hx (by omega) (by omega)) a b hp⟩
  walk_at "ev"
  by_cases e : way = 0
  · rw [if_pos e]
    simp -dsimp only [dLc, diR1]
    walk_at "ev"
    refine ⟨⟨by omega, by omega⟩, ?_⟩
    refine lc_pot Vt (pot_turn hp1) (by rw [rangeD_len]; omega) (fun x hx μ' Qy pot qy => ?_) fun xs hx hy => ?_
    · obtain ⟨i, hi, rfl⟩ := List.mem_map.mp hx
      simp -dsimp only [wipeD]
      walk_at "ev"
      have z1 : (10 : Int) ^ Int.toNat 9 = 1000000000 := by decide
      have z2 : (7 : Int) * 10 ^ Int.toNat 8 = 700000000 := by decide
      refine ⟨⟨by decide, by decide, by decide⟩, ⟨by decide, by decide, by decide⟩, mulL (by decide) (by decide), ?_⟩
      rw [z1, z2]
      intro s hs
      refine ask_pick pot hs ⟨by decide, by decide⟩ fun y hy a2 b2 hp2 => ?_
      refine qy _ a2 b2 _ ?_ hp2 (sub_turn (Mu.sub_upd hs) c _)
      have hy : y ∈ ([0, 1, 1000000000, 999999999, 700000000, 333333333] : List Int).map D.int := hy
      obtain ⟨v, hv, rfl⟩ := List.mem_map.mp hy
      have all : ∀ v ∈ ([0, 1, 1000000000, 999999999, 700000000, 333333333] : List Int), 0 ≤ v ∧ v ≤ 10 ^ 9 := by decide
      exact ⟨v, rfl, all v hv⟩
    · exact turn_turn (fin xs hx hy)
  · rw [if_neg e]
    refine hU.go ?_
    walk_at "ev"
    simp -dsimp only [dLc, diR1]
    walk_at "ev"
    refine ⟨⟨by omega, by omega⟩, ?_⟩
    refine lc_pot Vt (pot_turn hp1) (by rw [rangeD_len]; omega) (fun x hx μ' Qy pot qy => ?_) fun xs hx hy => ?_
    · obtain ⟨i, hi, rfl⟩ := List.mem_map.mp hx
      simp -dsimp only [wipeD]
      walk_at "ev"
      refine ask_draw pot (by decide) (by decide) fun d d0 d1 a2 b2 hp2 => ?_
      exact qy _ a2 b2 _ ⟨d, rfl, d0, by omega⟩ hp2 (Mu.Sub.refl _)
    · exact turn_turn (fin xs hx hy)
def sp_law_drawn : DSp := fun ds μ Q => ∃ c, ds = [.cell c] ∧ Pot μ c ∧ ∀ vs, Vok vs → Turn c μ fun μ' => Q (encV vs) μ'
theorem len_law_drawn : ∀ ds μ Q, sp_law_drawn ds μ Q → ds.length = (["pot"] : List Str).length := by
  rintro ds μ Q ⟨c, rfl, _⟩
  rfl
def db_law_drawn : DTS := (dSeq (dAsg (dFn sp_law_votes (daCons (dVar 0) (daCons (dOp oPlus (dC (.int 1)) (dFn sp_law_draw (daCons (dVar 0) (daCons (dFn sp_law_pick (daCons (dVar 0) (daCons (dNew (dLst (daCons (dC (.int 3)) (daCons (dC (.int 5)) (daCons (dC (.int 12)) daNil))))) daNil))) daNil)))) (daCons (dC (.bl true)) daNil)))) (gdName 1)) (dSeq (dIfS (dTest (dOp oEq (dFn sp_law_draw (daCons (dVar 0) (daCons (dC (.int 2)) daNil))) (dC (.int 0)))) (dSeq (dAsg (dOp oPlus (dC (.int 1)) (dFn sp_law_draw (daCons (dVar 0) (daCons (dC (.int 5)) daNil)))) (gdName 2)) (dAsg (dOf sTup (dLc (diSeq (dVar 1)) (gdName 3) dYes (dFn sp_law_pick (daCons (dVar 0) (daCons (dNew (dLst (daCons (dVar 2) (daCons (dOp oTimes (dC (.int 2)) (dVar 2)) (daCons (dOp oTimes (dC (.int 3)) (dVar 2)) (daCons (dC (.int 0)) (daCons (dC (.int 6)) daNil))))))) daNil))) [3])) (gdName 1))) dNext) (dRet (dVar 1))))
theorem pf_law_drawn : ∀ ds μ Q, sp_law_drawn ds μ Q → db_law_drawn (retD Q) (startD ["pot", "votes", "by", "one"] ds) μ := by
  rintro ds μ Q ⟨c, rfl, hp, q⟩
  show db_law_drawn (retD Q) [some (.cell c), none, none, none] μ
  unfold db_law_drawn
  refine sq fun U hU => ?_
  walk_at "ev"
  intro s hs
  refine ask_pick hp hs ⟨by decide, by decide⟩ fun x hx a1 b1 hp1 => ?_
  have good : Good μ c ((μ.upd s [.int 3, .int 5, .int 12]).upd c [.int a1, .int b1]) := ((Good.start hp).new hs).turn hp1
  obtain ⟨m, rfl, m0, m1⟩ : ∃ m : Int, x = .int m ∧ 3 ≤ m ∧ m ≤ 12 := by
    have hx : x ∈ ([3, 5, 12] : List Int).map D.int := hx
    obtain ⟨m, hm, rfl⟩ := List.mem_map.mp hx
    have : ∀ m ∈ ([3, 5, 12] : List Int), 3 ≤ m ∧ m ≤ 12 := by decide
    exact ⟨m, rfl, this m hm⟩
  refine ask_draw good.pot (by omega) (by omega) fun d d0 d1 a2 b2 hp2 => ?_
  replace good := good.turn hp2
  generalize (((μ.upd s [.int 3, .int 5, .int 12]).upd c [.int a1, .int b1]).upd c [.int a2, .int b2]) = ν at good ⊢
  walk_at "ev"
  refine ⟨c, _, rfl, ⟨good.pot, by omega, by omega⟩, fun vs hv a3 b3 hp3 => ?_⟩
  replace good := good.turn hp3
  generalize ν.upd c [.int a3, .int b3] = ν at good ⊢
  refine hU.go ?_
  clear hU
  have fin : ∀ {vs : List Int} {w2 w3 : Option D} {ν : Mu}, Good μ c ν → Vok vs → dRet (dVar 1) (retD Q) [some (.cell c), some (encV vs), w2, w3] ν := by
    intro vs w2 w3 ν good hv
    obtain ⟨a, b, hp, sb⟩ := good
    walk_at "ev"
    exact ⟨_, sb, q vs hv a b hp⟩
  refine sq fun U hU => ?_
  walk_at "ev"
  refine ask_draw good.pot (by decide) (by decide) fun way h0 h1 a4 b4 hp4 => ?_
  replace good := good.turn hp4
  generalize ν.upd c [.int a4, .int b4] = ν at good ⊢
  walk_at "ev"
  by_cases e : way = 0
  · rw [if_pos e]
    refine sq fun V hV => ?_
    walk_at "ev"
    refine ask_draw good.pot (by decide) (by decide) fun by_ y0 y1 a5 b5 hp5 => ?_
    replace good := good.turn hp5
    generalize ν.upd c [.int a5, .int b5] = ν at good ⊢
    walk_at "ev"
    refine hV.go ?_
    clear hV
    walk_at "ev"
    simp -dsimp only [dLc, diSeq, encV]
    walk_at "ev"
    have hl := hv.len
    refine lc_pot Vt good.pot (by rw [List.length_map]; omega) (fun x hx μ' Qy pot qy => ?_) fun xs hx hy => ?_
    · obtain ⟨v, hvv, rfl⟩ := List.mem_map.mp hx
      simp -dsimp only [wipeD]
      walk_at "ev"
      refine ⟨mulL (by decide) (by decide), mulL (by decide) (by decide), ?_⟩
      intro s2 hs2
      refine ask_pick pot hs2 ⟨Nat.zero_lt_succ _, by show 5 < 2 ^ 30; decide⟩ fun y hy a2 b2 hp2 => ?_
      refine qy _ a2 b2 _ ?_ hp2 (sub_turn (Mu.sub_upd hs2) c _)
      have hy : y ∈ ([1 + by_, 2 * (1 + by_), 3 * (1 + by_), 0, 6] : List Int).map D.int := hy
      obtain ⟨v, hv, rfl⟩ := List.mem_map.mp hy
      refine ⟨v, rfl, ?_⟩
      simp only [List.mem_cons, List.not_mem_nil, or_false] at hv
      omega
    · intro a6 b6 hp6
      obtain ⟨ws, rfl, hws⟩ := vts xs hy
      rw [List.length_map, List.length_map] at hx
      walk_at "ev"
      refine hU.go ?_
      exact fin (good.turn hp6) (vok_of hws hx hl.1 hl.2)
  · rw [if_neg e]
    refine hU.go ?_
    exact fin good hv
end K12
namespace K12
open PySem PySem.Spec PyProof.Rows L2 Dl
local macro_rules | `(tactic| walk_at "ev") => `(tactic| try simp -dsimp only [↓dSeq_at, dRet, dRetN, dNext, dIfS, dAsg, dDrop, dPar, dNever, dVar, dC, dOp, dUn, dTest, dChain, dAnd, dOr, dNot, dIf, dtAnd, dtOr, dtNot, dTup, daNil, daCons, dCall, dFn, dFnK, dNew, dLst, dOf,
  gdName, gdTup, gdCons, gdNil, gdSub, rdI, rdI0, oPlus, oSub, oTimes, oDiv, oMod, oPow, oLt, oLe, oGt, oGe, oIx, oEq, oNe, uNeg, oIsN, oNotN, D.isNon, cAbs, cMax, cMin, cInt, cDivmod, cLen, cIsi, tyD, items, litems, retD, sTup, mApp, dYes,
  atI_0, atI_1, atI_2, atI_3, atI_4, ixN_20, ixN_21, kit_ii, kit_ib, kit_is, kit_it, kit_il, kit_bi, kit_bb, kit_bs, kit_bt, kit_bl, kit_si, kit_sb, kit_ss, kit_st, kit_sl, kit_ti, kit_tb, kit_ts, kit_tt, kit_tl, kit_li, kit_lb, kit_ls, kit_lt, kit_ll,
  List.getElem?_cons_zero, List.getElem?_cons_succ, List.set_cons_zero, List.set_cons_succ, List.length_cons, List.length_nil, Mu.upd_same, Mu.upd_upd, Nat.zero_add, Nat.reduceAdd, Nat.reduceLeDiff, natlit, Int.reduceEq, Int.reduceLT, Int.reduceLE, Int.reduceAdd, Int.reduceSub, Int.reduceMul, Int.reducePow, Int.reduceNeg, permG2_10, permG3_210, zl_0, zl_1, zl_2, zl_3, zl_4, zl_5, zl_6, zl_7, zl_8, zl_9, zl_10, zl_11, zl_12, zl_13, zl_14, zl_15, zl_16, zl_17, zl_18, zl_19, zl_20, true_and, and_true, eq_self, not_true_eq_false, not_false_eq_true, decide_true, decide_false, if_true, Bool.false_eq_true, if_false, Bool.not_true, Bool.not_false, decide_eq_true_eq, Bool.not_eq_true', decide_eq_false_iff_not, Option.isSome, Option.map])
def pyfr (p : Int × Int) : PyData := .tuple [.int p.1, .int p.2]
theorem rp_fr {μ : Mu} {p : Int × Int} (h1 : p.1.natAbs < 10 ^ 22) (h2 : p.2.natAbs < 10 ^ 22) : RpOk μ (fr p) (pyfr p) 2 1 := (RpOk.tup (.cons (.int h1) (.cons (.int h2) .nil))).mono (by decide) (by decide)
def pyR (r : R) : PyData := .tuple [.str "rule", .tuple (r.fs.map pyfr), .int r.top, .int r.bot]
theorem rp_enc {μ : Mu} {r : R} (g : GR r) : RpOk μ (enc r) (pyR r) 100 3 := by
  have hb := g.bot
  have ht := g.top
  have hl := g.len
  have h := RpAll.map (μ := μ) (f := fr) (g := pyfr) (c := 2) (dep := 1) (xs := r.fs) fun p hp => by
    have := g.fsok p hp
    exact rp_fr (by omega) (by omega)
  refine (RpOk.tup (.cons (RpOk.str (x := "rule") (by decide)) (.cons (RpOk.tup h) (.cons (.int (by omega)) (.cons (.int (by omega)) .nil))))).mono ?_ (by omega)
  have e : (("rule" : Str).cps.size) = 4 := by decide
  omega
def pyV (vs : List Int) : PyData := .tuple (vs.map PyData.int)
theorem rp_votes {μ : Mu} {vs : List Int} (hv : Vok vs) : RpOk μ (.tup (vs.map D.int)) (pyV vs) 20 1 := by
  have h := RpAll.map (μ := μ) (f := D.int) (g := PyData.int) (c := 0) (dep := 0) (xs := vs) fun v hvv => by
    have := hv.v v hvv
    exact .int (by omega)
  have := hv.len
  exact (RpOk.tup h).mono (by omega) (by omega)
def pyS (r : R) (vs : List Int) (s : Sf) : PyData := .tuple [pyfr (best r vs s), .tuple ((lot r vs s).map fun a => PyData.int ((a : Nat) : Int))]
theorem lot_len {r : R} {vs : List Int} {s : Sf} (hv : Vok vs) : (lot r vs s).length ≤ 12 := by
  have a := List.length_filter_le (fun a => decide (pr r vs s a = best r vs s)) (act vs)
  have b := List.length_filter_le (fun a => decide (0 < vt vs a)) (List.range vs.length)
  rw [List.length_range] at b
  have := hv.len
  unfold lot
  have c : (act vs).length ≤ vs.length := b
  omega
theorem rp_step {μ : Mu} {r : R} {vs : List Int} {s : Sf} {h : Int} (g : GR r) (hv : Vok vs) (hs : Sok vs h s) (ha : act vs ≠ []) : RpOk μ (stepD r vs s) (pyS r vs s) 16 2 := by
  have b := (best_max g hv hs ha).2
  have b1 := b.p1
  have b2 := b.p2
  have l := lot_len (r := r) (s := s) hv
  have hl := hv.len
  have h2 := RpAll.map (μ := μ) (f := fun a => D.int ((a : Nat) : Int)) (g := fun a => PyData.int ((a : Nat) : Int)) (c := 0) (dep := 0) (xs := lot r vs s) fun a ha => by
    have := (lot_lt ha).1
    exact .int (by omega)
  exact (RpOk.tup (.cons (rp_fr (by omega) (by omega)) (.cons (RpOk.tup h2) .nil))).mono (by omega) (by omega)
theorem Ends.le {r : R} {vs : List Int} {h : Int} {J : Nat} (g : GR r) (hv : Vok vs) (h0 : 0 ≤ h) (h1 : h ≤ 200) (e : Ends r vs h J) : (J : Int) ≤ h := by
  rcases Nat.eq_zero_or_pos J with z | z
  · omega
  · have a := e.low (J - 1) (by omega)
    have b := tot_ge g hv h1 (J - 1) fun i hi => e.low i (by omega)
    omega
theorem rp_row {μ : Mu} {r : R} {vs : List Int} {h : Int} {J : Nat} (g : GR r) (hv : Vok vs) (h0 : 0 ≤ h) (h1 : h ≤ 200) (e : Ends r vs h J) : RpAll μ (rowS r vs J) ((List.range J).map fun j => pyS r vs (S r vs j)) 3400 2 := by
  have j := e.le g hv h0 h1
  have h := RpAll.map (μ := μ) (f := fun j => stepD r vs (S r vs j)) (g := fun j => pyS r vs (S r vs j)) (c := 16) (dep := 2) (xs := List.range J) fun i hi => by
    have l := e.low i (List.mem_range.mp hi)
    exact rp_step g hv (S_ok h1 l.2) l.1
  refine ⟨h.rs, h.sh, h.nd, h.ls, Nat.le_trans h.bk ?_, h.dp⟩
  rw [List.length_range]
  omega
theorem rp_cost {μ : Mu} {r : R} (g : GR r) {v m : Int} (hv : 0 ≤ v ∧ v ≤ 10 ^ 9) (m0 : 1 ≤ m) (m1 : m ≤ 200) : RpOk μ (fr (cost r v m)) (pyfr (cost r v m)) 2 1 := by
  have b := post_bd g m0 m1
  have s := low_sz (t := v * (post r m).2) b.1
  have u : 0 ≤ v * (post r m).2 := Int.mul_nonneg hv.1 (by omega)
  have d : v * (post r m).2 ≤ 10 ^ 9 * 999 := mul_le_of (by omega) (by omega) hv.2 b.2.2.2
  exact rp_fr (by show (low _ _).1.natAbs < _; omega) (by show (low _ _).2.natAbs < _; omega)
/-! ## one list alone -/
section
variable {r : R} {v : Int} (hv : 0 < v)
include hv
theorem al_act : act [0, v, 0] = [1] := by
  show (List.range 3).filter _ = _
  simp [List.range, List.range.loop, vt, hv]
theorem al_best (s : Sf) : best r [0, v, 0] s = cost r v (s 1 + 1) := by
  unfold best
  rw [al_act hv]
  show up _ _ = _
  rcases up_or (b := pr r [0, v, 0] s 1) (x := pr r [0, v, 0] s 1) with e | e <;> exact e
theorem al_lot (s : Sf) : lot r [0, v, 0] s = [1] := by
  unfold lot
  rw [al_act hv, List.filter_cons, if_pos (decide_eq_true (by rw [al_best hv]; rfl))]
  rfl
theorem al_S : ∀ j : Nat, S r [0, v, 0] j = fun a => if a = 1 then (j : Int) else 0
  | 0 => by
    funext a
    show (0 : Int) = _
    split <;> rfl
  | j + 1 => by
    have ih := al_S j
    funext a
    show give r [0, v, 0] (S r [0, v, 0] j) a = _
    unfold give isl
    have z : ¬ a = 1 → vt [0, v, 0] a = 0 := by
      intro e
      unfold vt
      match a, e with
      | 0, _ => rfl
      | 1, e => exact absurd rfl e
      | 2, _ => rfl
      | a + 3, _ => rfl
    rw [al_best hv, ih]
    by_cases e : a = 1
    · subst e
      rw [if_pos rfl, if_pos (by show (decide (0 < v) && decide (_ = _)) = true; rw [decide_eq_true hv]; exact decide_eq_true rfl)]
      show (if (1 : Nat) = 1 then (j : Int) else 0) + 1 = ((j + 1 : Nat) : Int)
      rw [if_pos rfl]
      omega
    · rw [if_neg e]
      refine (if_neg ?_).trans (if_neg e)
      rw [z e]
      exact Bool.false_ne_true
theorem al_tot (j : Nat) : tot [0, v, 0] (S r [0, v, 0] j) = (j : Int) := by
  rw [al_S hv]
  show ((List.range 3).map _).sum = _
  simp [List.range, List.range.loop]
def lateD (r : R) (v m : Int) : D := .tup [fr (cost r v m), .tup [.int 1]]
theorem al_row (J : Nat) : rowS r [0, v, 0] J = (il 1 (J + 1)).map (lateD r v) := by
  unfold rowS il
  rw [List.map_map, show ((J : Int) + 1 - 1).toNat = J by omega]
  refine List.map_congr_left fun j _ => ?_
  show stepD r [0, v, 0] (S r [0, v, 0] j) = lateD r v (1 + (j : Nat))
  unfold stepD lateD
  rw [al_best hv, al_lot hv, al_S hv]
  show D.tup [fr (cost r v ((j : Int) + 1)), _] = _
  rw [Int.add_comm]
  rfl
theorem al_ends {h : Int} {J : Nat} (h0 : 0 ≤ h) (e : Ends r [0, v, 0] h J) : (J : Int) = h := by
  have t := e.top
  rw [al_act hv, al_tot hv] at t
  rcases t with t | t
  · exact absurd t (by simp)
  · rcases Nat.eq_zero_or_pos J with z | z
    · omega
    · have a := (e.low (J - 1) (by omega)).2
      rw [al_tot hv] at a
      omega
end
def pyLate (r : R) (v m : Int) : PyData := .tuple [pyfr (cost r v m), .tuple [.int 1]]
theorem eq_late {μ : Mu} (r : R) (v m : Int) : EqOk μ (lateD r v m) (pyLate r v m) 2 :=
  .tup (.cons (.tup (.cons (.int _) (.cons (.int _) .nil))) (.cons (.tup (.cons (.int _) .emp)) .emp))
theorem vok_alone {v : Int} (h0 : 0 ≤ v) (h1 : v ≤ 10 ^ 9) : Vok [0, v, 0] := ⟨⟨by show 1 ≤ 3; decide, by show 3 ≤ 12; decide⟩, fun x hx => by
  simp only [List.mem_cons, List.not_mem_nil, or_false] at hx
  omega⟩
end K12
namespace K12
open PySem PySem.Spec PyProof.Rows L2 Dl
local macro_rules | `(tactic| walk_at "ev") => `(tactic| try simp -dsimp only [↓dSeq_at, encV, dRet, dRetN, dNext, dIfS, dAsg, dDrop, dPar, dNever, dVar, dC, dOp, dUn, dTest, dChain, dAnd, dOr, dNot, dIf, dtAnd, dtOr, dtNot, dTup, daNil, daCons, dCall, dFn, dFnK, dNew, dLst, dOf,
  gdName, gdTup, gdCons, gdNil, gdSub, rdI, rdI0, oPlus, oSub, oTimes, oDiv, oMod, oPow, oLt, oLe, oGt, oGe, oIx, oEq, oNe, uNeg, oIsN, oNotN, D.isNon, cAbs, cMax, cMin, cInt, cDivmod, cLen, cIsi, tyD, items, litems, retD, sTup, mApp, dYes,
  atI_0, atI_1, atI_2, atI_3, atI_4, ixN_20, ixN_21, kit_ii, kit_ib, kit_is, kit_it, kit_il, kit_bi, kit_bb, kit_bs, kit_bt, kit_bl, kit_si, kit_sb, kit_ss, kit_st, kit_sl, kit_ti, kit_tb, kit_ts, kit_tt, kit_tl, kit_li, kit_lb, kit_ls, kit_lt, kit_ll,
  List.getElem?_cons_zero, List.getElem?_cons_succ, List.set_cons_zero, List.set_cons_succ, List.length_cons, List.length_nil, Mu.upd_same, Mu.upd_upd, Nat.zero_add, Nat.reduceAdd, Nat.reduceLeDiff, natlit, Int.reduceEq, Int.reduceLT, Int.reduceLE, Int.reduceAdd, Int.reduceSub, Int.reduceMul, Int.reducePow, Int.reduceNeg, permG2_10, permG3_210, zl_0, zl_1, zl_2, zl_3, zl_4, zl_5, zl_6, zl_7, zl_8, zl_9, zl_10, zl_11, zl_12, zl_13, zl_14, zl_15, zl_16, zl_17, zl_18, zl_19, zl_20, true_and, and_true, eq_self, not_true_eq_false, not_false_eq_true, decide_true, decide_false, if_true, Bool.false_eq_true, if_false, Bool.not_true, Bool.not_false, decide_eq_true_eq, Bool.not_eq_true', decide_eq_false_iff_not, Option.isSome, Option.map])
theorem ask_law_row {r : R} {vs : List Int} {h : Int} {μ : Mu} {Q : DK} (g : GR r) (hv : Vok vs) (h0 : 0 ≤ h) (h1 : h ≤ 200) (q : ∀ J, Ends r vs h J → New (rowS r vs J) μ Q) : sp_law_row [enc r, .tup (vs.map D.int), .int h] μ Q := ⟨r, vs, h, rfl, ⟨g, hv, h0, h1⟩, q⟩
theorem ask_row {r : R} {vs : List Int} {h : Int} {J : Nat} {μ : Mu} {Q : DK} (g : GR r) (hv : Vok vs) (h0 : 0 ≤ h) (h1 : h ≤ 200) (e : Ends r vs h J) (q : New (rowS r vs J) μ Q) : sp_row_of_seats [enc r, .tup (vs.map D.int), .int h] μ Q :=
  ⟨r, vs, h, rfl, ⟨g, hv, h0, h1⟩, fun J' e' => by rw [← e.uni e']; exact q⟩
def sp_law_right : DSp := fun ds μ Q => match ds with | [.cell c] => Pot μ c ∧ Turn c μ fun μ' => Q (.bl true) μ' | _ => False
theorem len_law_right : ∀ ds μ Q, sp_law_right ds μ Q → ds.length = (["pot"] : List Str).length := by
  intro ds μ Q h
  unfold sp_law_right at h
  split at h <;> first | rfl | exact h.elim
def db_law_right : DTS := (dSeq (dAsg (dTup (daCons (dFn sp_law_rule (daCons (dVar 0) daNil)) (daCons (dFn sp_law_drawn (daCons (dVar 0) daNil)) (daCons (dFn sp_law_pick (daCons (dVar 0) (daCons (dNew (dLst (daCons (dC (.int 0)) (daCons (dC (.int 1)) (daCons (dC (.int 2)) (daCons (dC (.int 5)) (daCons (dC (.int 9)) (daCons (dC (.int 16)) daNil)))))))) daNil))) daNil)))) (gdTup 3 (gdCons (gdName 1) (gdCons (gdName 2) (gdCons (gdName 3) gdNil))))) (dSeq (dIfS (dtAnd (dTest (dOp oLt (dCall cLen (daCons (dVar 2) daNil)) (dC (.int 3)))) (dTest (dOp oEq (dFn sp_law_draw (daCons (dVar 0) (daCons (dC (.int 4)) daNil))) (dC (.int 0))))) (dAsg (dFn sp_law_pick (daCons (dVar 0) (daCons (dNew (dLst (daCons (dC (.int 40)) (daCons (dC (.int 60)) daNil)))) daNil))) (gdName 3)) dNext) (dSeq (dPar 4 5 (daCons (dCall cRepr (daCons (dNew (dLst (daCons (dVar 1) (daCons (dVar 2) daNil)))) daNil)) (daCons (dFn sp_law_row (daCons (dVar 1) (daCons (dVar 2) (daCons (dVar 3) daNil)))) daNil))) (dSeq (dAsg (dFn sp_row_of_seats (daCons (dVar 1) (daCons (dVar 2) (daCons (dVar 3) daNil)))) (gdName 6)) (dSeq (dIfS (dTest (dOp oNe (dCall cRepr (daCons (dNew (dLst (daCons (dVar 6) (daCons (dFnK sp_row_of_seats [2, 1, 0] (daCons (dVar 3) (daCons (dVar 2) (daCons (dVar 1) daNil)))) daNil)))) daNil)) (dCall cRepr (daCons (dNew (dLst (daCons (dVar 5) (daCons (dVar 5) daNil)))) daNil)))) (dRet (dC (.bl false))) dNext) (dSeq (dDrop (mApp (dVar 6) (dC .non))) (dSeq (dFor (diR1 (daCons (dC (.int 6)) daNil)) (gdName 7) (dSeq (dPar 8 9 (daCons (dFn sp_law_draw (daCons (dVar 0) (daCons (dCall cLen (daCons (dVar 2) daNil)) daNil))) (daCons (dFn sp_law_pick (daCons (dVar 0) (daCons (dNew (dLst (daCons (dC (.int 1)) (daCons (dC (.int 2)) (daCons (dC (.int 3)) (daCons (dC (.int 7)) (daCons (dC (.int 100)) (daCons (dC (.int 200)) daNil)))))))) daNil))) daNil))) (dSeq (dAsg (dFn sp_law_price (daCons (dVar 1) (daCons (dOp oIx (dVar 2) (dVar 8)) (daCons (dVar 9) daNil)))) (gdName 10)) (dIfS (dTest (dOp oNe (dCall cRepr (daCons (dNew (dLst (daCons (dFn sp_price (daCons (dVar 1) (daCons (dVar 2) (daCons (dVar 8) (daCons (dVar 9) daNil))))) (daCons (dFnK sp_price [3, 2, 1, 0] (daCons (dVar 9) (daCons (dVar 8) (daCons (dVar 2) (daCons (dVar 1) daNil))))) daNil)))) daNil)) (dCall cRepr (daCons (dNew (dLst (daCons (dVar 10) (daCons (dVar 10) daNil)))) daNil)))) (dRet (dC (.bl false))) dNext)))) (dSeq (dAsg (dCall cMin (daCons (dOp oPow (dC (.int 10)) (dC (.int 9))) (daCons (dOp oPlus (dOp oIx (dVar 2) (dC (.int 0))) (dC (.int 1))) daNil))) (gdName 11)) (dSeq (dAsg (dNew (dLc (diR2 (daCons (dC (.int 1)) (daCons (dC (.int 201)) daNil))) (gdName 9) dYes (dTup (daCons (dFn sp_law_price (daCons (dVar 1) (daCons (dVar 11) (daCons (dVar 9) daNil)))) (daCons (dTup (daCons (dC (.int 1)) daNil)) daNil))) [9])) (gdName 12)) (dSeq (dIfS (dTest (dOp oNe (dFn sp_row_of_seats (daCons (dVar 1) (daCons (dTup (daCons (dC (.int 0)) (daCons (dVar 11) (daCons (dC (.int 0)) daNil)))) (daCons (dC (.int 200)) daNil)))) (dVar 12))) (dRet (dC (.bl false))) dNext) (dRet (dAnd (dOp oEq (dCall cRepr (daCons (dFn sp_row_of_seats (daCons (dVar 1) (daCons (dVar 2) (daCons (dVar 3) daNil)))) daNil)) (dCall cRepr (daCons (dVar 5) daNil))) (dOp oEq (dCall cRepr (daCons (dNew (dLst (daCons (dVar 1) (daCons (dVar 2) daNil)))) daNil)) (dVar 4))))))))))))))
theorem pf_law_right : ∀ ds μ Q, sp_law_right ds μ Q → db_law_right (retD Q) (startD ["pot", "rule", "votes", "house", "shown", "due", "told", "step", "at", "many", "worth", "alone", "late"] ds) μ := by
  intro ds μ Q q
  unfold sp_law_right at q
  split at q
  · rename_i c
    obtain ⟨hp, q⟩ := q
    show db_law_right (retD Q) [some (.cell c), none, none, none, none, none, none, none, none, none, none, none, none] μ
    unfold db_law_right
    -- rule, votes, house
    refine sq fun U hU => ?_
    walk_at "ev"
    refine ask_law_rule hp fun r g a1 b1 hp1 => ?_
    have good := (Good.start hp).turn hp1
    generalize μ.upd c [.int a1, .int b1] = ν at good ⊢
    refine ⟨c, rfl, good.pot, fun vs hv a2 b2 hp2 => ?_⟩
    replace good := good.turn hp2
    generalize ν.upd c [.int a2, .int b2] = ν at good ⊢
    intro s hs
    refine ask_pick good.pot hs ⟨by decide, by decide⟩ fun x hx a3 b3 hp3 => ?_
    replace good := (good.new (xs := [.int 0, .int 1, .int 2, .int 5, .int 9, .int 16]) hs).turn hp3
    generalize (ν.upd s [.int 0, .int 1, .int 2, .int 5, .int 9, .int 16]).upd c [.int a3, .int b3] = ν at good ⊢
    obtain ⟨h, rfl, h0, h1⟩ : ∃ m : Int, x = .int m ∧ 0 ≤ m ∧ m ≤ 60 := by
      have hx : x ∈ ([0, 1, 2, 5, 9, 16] : List Int).map D.int := hx
      obtain ⟨m, hm, rfl⟩ := List.mem_map.mp hx
      have : ∀ m ∈ ([0, 1, 2, 5, 9, 16] : List Int), 0 ≤ m ∧ m ≤ 60 := by decide
      exact ⟨m, rfl, this m hm⟩
    walk_at "ev"
    refine hU.go ?_
    clear hU hs hx
    have hl := hv.len
    refine sq fun U hU => ?_
    -- the rest, at any house
    have rest : ∀ {h : Int} {ν : Mu}, 0 ≤ h → h ≤ 60 → Good μ c ν → U [some (.cell c), some (enc r), some (.tup (vs.map D.int)), some (.int h), none, none, none, none, none, none, none, none, none] ν := by
      clear h0 h1 good h ν
      intro h ν h0 h1 good
      refine hU.go ?_
      clear hU
      refine sq fun U hU => ?_
      walk_at "ev"
      intro k1 hk1
      refine ask_repr (RpOk.lst Mu.upd_same (.cons (rp_enc g) (.cons (rp_votes hv) .nil))) rfl (by decide) (by decide) ?_
      refine ask_law_row g hv h0 (by omega) fun J e d hd => ?_
      walk_at "ev"
      have dc : d ≠ c := by
        obtain ⟨_, _, e, _⟩ := (good.new (xs := [enc r, .tup (vs.map D.int)]) hk1).pot
        exact (Mu.ne_of e hd).symm
      have du : (((ν.upd k1 [enc r, .tup (vs.map D.int)]).upd d (rowS r vs J))) d = some (rowS r vs J) := Mu.upd_same
      replace good := (good.new (xs := [enc r, .tup (vs.map D.int)]) hk1).new (xs := rowS r vs J) hd
      generalize (ν.upd k1 [enc r, .tup (vs.map D.int)]).upd d (rowS r vs J) = ν at good du ⊢
      refine hU.go ?_
      clear hU hk1 hd
      have rp := fun μ => rp_row (μ := μ) g hv h0 (by omega) e
      -- told
      refine sq fun U hU => ?_
      walk_at "ev"
      refine ask_row g hv h0 (by omega) e fun t ht => ?_
      refine hU.go ?_
      clear hU
      refine sq fun U hU => ?_
      walk_at "ev"
      refine ask_row g hv h0 (by omega) e fun t2 ht2 => ?_
      walk_at "ev"
      intro k1 hk1
      refine ask_repr (RpOk.lst Mu.upd_same (.cons (RpOk.lst (Mu.keep (Mu.keep Mu.upd_same ht2) hk1) (rp _)) (.cons (RpOk.lst (Mu.keep Mu.upd_same hk1) (rp _)) .nil))) rfl (by decide) (by decide) ?_
      intro k2 hk2
      have hdk := Mu.keep (xs := [D.cell d, .cell d]) (Mu.keep (xs := [D.cell t, .cell t2]) (Mu.keep (xs := rowS r vs J) (Mu.keep (xs := rowS r vs J) du ht) ht2) hk1) hk2
      refine ask_repr (RpOk.lst Mu.upd_same (.cons (RpOk.lst hdk (rp _)) (.cons (RpOk.lst hdk (rp _)) .nil))) rfl (by decide) (by decide) ?_
      walk_at "ev"
      refine hU.fgt ((Mu.sub_upd ht2).trans ((Mu.sub_upd hk1).trans (Mu.sub_upd hk2))) ?_
      clear hU hdk hk2 k2 hk1 k1 ht2 t2
      -- told.append(None)
      refine sq fun U hU => ?_
      walk_at "ev"
      have jl := e.le g hv h0 (by omega)
      refine ⟨_, rfl, sz_lt (by rw [rowS_len]; omega), ?_⟩
      refine hU.fgt (Mu.sub_upd ht) ?_
      clear hU ht
      -- the prices
      refine sq fun U hU => ?_
      simp -dsimp only [dFor, diR1]
      walk_at "ev"
      refine ⟨⟨by decide, by decide⟩, ?_⟩
      refine ⟨fun i ρ' μ' => ∃ w7 w8 w9 w10, ρ' = [some (.cell c), some (enc r), some (.tup (vs.map D.int)), some (.int h), some (.str (PyData.list [pyR r, pyV vs]).shown), some (.cell d), some (.cell t), w7, w8, w9, w10, none, none] ∧ Good μ c μ' ∧ μ' d = some (rowS r vs J),
        ⟨none, none, none, none, rfl, good, du⟩, fun i x ρ' μ' hi w => ⟨held_nil, ?_⟩, fun ρ' μ' w => ⟨held_nil, ?_⟩⟩
      · obtain ⟨w7, w8, w9, w10, rfl, gd, du⟩ := w
        clear hi good
        walk_at "ev"
        refine sq fun V hV => ?_
        walk_at "ev"
        rw [List.length_map]
        refine ask_draw gd.pot (by omega) (by omega) fun at_ at0 at1 a4 b4 hp4 => ?_
        replace gd := gd.turn hp4
        replace du := (Mu.upd_ne (xs := [.int a4, .int b4]) dc).trans du
        generalize μ'.upd c [.int a4, .int b4] = μ1 at gd du ⊢
        walk_at "ev"
        intro s hs
        refine ask_pick gd.pot hs ⟨by decide, by decide⟩ fun x hx a5 b5 hp5 => ?_
        replace du := (Mu.upd_ne (xs := [.int a5, .int b5]) dc).trans (Mu.keep (xs := [.int 1, .int 2, .int 3, .int 7, .int 100, .int 200]) du hs)
        replace gd := (gd.new (xs := [.int 1, .int 2, .int 3, .int 7, .int 100, .int 200]) hs).turn hp5
        generalize (μ1.upd s [.int 1, .int 2, .int 3, .int 7, .int 100, .int 200]).upd c [.int a5, .int b5] = μ1 at gd du ⊢
        obtain ⟨m, rfl, m0, m1⟩ : ∃ m : Int, x = .int m ∧ 1 ≤ m ∧ m ≤ 200 := by
          have hx : x ∈ ([1, 2, 3, 7, 100, 200] : List Int).map D.int := hx
          obtain ⟨m, hm, rfl⟩ := List.mem_map.mp hx
          have : ∀ m ∈ ([1, 2, 3, 7, 100, 200] : List Int), 1 ≤ m ∧ m ≤ 200 := by decide
          exact ⟨m, rfl, this m hm⟩
        walk_at "ev"
        refine hV.go ?_
        clear hV
        refine sq fun V hV => ?_
        walk_at "ev"
        rw [vote_at at0 at1]
        have va := hv.at at_.toNat
        refine ⟨r, _, m, rfl, ⟨g, va, m0, m1⟩, ?_⟩
        refine hV.go ?_
        clear hV
        walk_at "ev"
        refine ⟨r, vs, at_, m, rfl, ⟨g, hv, ⟨at0, at1⟩, m0, m1⟩, ?_⟩
        refine ⟨r, vs, at_, m, rfl, ⟨g, hv, ⟨at0, at1⟩, m0, m1⟩, ?_⟩
        walk_at "ev"
        intro k1 hk1
        refine ask_repr (RpOk.lst Mu.upd_same (.cons (rp_cost g va m0 m1) (.cons (rp_cost g va m0 m1) .nil))) rfl (by decide) (by decide) ?_
        intro k2 hk2
        refine ask_repr (RpOk.lst Mu.upd_same (.cons (rp_cost g va m0 m1) (.cons (rp_cost g va m0 m1) .nil))) rfl (by decide) (by decide) ?_
        walk_at "ev"
        exact ⟨_, _, _, _, rfl, (gd.new hk1).new hk2, Mu.keep (Mu.keep du hk1) hk2⟩
      · obtain ⟨w7, w8, w9, w10, rfl, gd, du⟩ := w
        clear good
        refine hU.go ?_
        clear hU
        have v0 : atI (vs.map D.int) 0 = some (.int (vt vs 0)) := vote_at (n := 0) (Int.le_refl _) (by omega)
        have va := hv.at 0
        refine sq fun U hU => ?_
        walk_at "ev"
        refine ⟨⟨by decide, by decide, by decide⟩, ?_⟩
        rw [v0]
        walk_at "ev"
        have z9 : (10 : Int) ^ Int.toNat 9 = 1000000000 := by decide
        rw [z9]
        obtain ⟨al, eal, l0, l1⟩ : ∃ al : Int, min 1000000000 (vt vs 0 + 1) = al ∧ 0 < al ∧ al ≤ 10 ^ 9 := ⟨_, rfl, by omega, by omega⟩
        rw [eal]
        refine hU.go ?_
        clear hU eal z9
        refine sq fun U hU => ?_
        walk_at "ev"
        simp -dsimp only [dLc, diR2]
        walk_at "ev"
        refine ⟨⟨⟨by decide, by decide⟩, by decide, by decide⟩, ?_⟩
        rw [range_il]
        refine lc_tm (lateD r al) held_nil (by rw [il_len]; decide) (fun m hm μ'' Qy sb qy => ?_) ?_
        · have hm := mem_il.mp hm
          simp -dsimp only [wipeD]
          walk_at "ev"
          exact ⟨r, al, m, rfl, ⟨g, by omega, by omega, by omega⟩, qy⟩
        intro lt_ hlt
        have gl := gd.new (xs := (il 1 201).map (lateD r al)) hlt
        have ld : (μ'.upd lt_ ((il 1 201).map (lateD r al))) lt_ = some ((il 1 201).map (lateD r al)) := Mu.upd_same
        have dl := Mu.keep (xs := (il 1 201).map (lateD r al)) du hlt
        generalize μ'.upd lt_ ((il 1 201).map (lateD r al)) = μ1 at gl ld dl ⊢
        clear hlt
        refine hU.go ?_
        clear hU
        refine sq fun U hU => ?_
        walk_at "ev"
        refine ⟨r, [0, al, 0], 200, rfl, ⟨g, vok_alone (by omega) l1, by decide, by decide⟩, fun J2 e2 k hk => ?_⟩
        have j2 := al_ends l0 (by decide) e2
        rw [al_row l0, j2]
        show deepEq true (.cell k) (.cell lt_) _ _
        refine ask_same (a := 3) (.lst Mu.upd_same (.map fun m _ => eq_late r al m)) (.lst (Mu.keep ld hk) (.map fun m _ => eq_late r al m)) (by decide) ?_
        walk_at "ev"
        refine hU.fgt (Mu.sub_upd hk) ?_
        clear hU hk
        walk_at "ev"
        refine ask_row g hv h0 (by omega) e fun t3 ht3 => ?_
        refine ask_repr (RpOk.lst Mu.upd_same (rp _)) rfl (by decide) (by decide) ?_
        refine ask_repr (RpOk.lst (Mu.keep dl ht3) (rp _)) rfl (by decide) (by decide) ?_
        walk_at "ev"
        intro k1 hk1
        refine ask_repr (RpOk.lst Mu.upd_same (.cons (rp_enc g) (.cons (rp_votes hv) .nil))) rfl (by decide) (by decide) ?_
        walk_at "ev"
        obtain ⟨a, b, pb, sb⟩ := (gl.new (xs := rowS r vs J) ht3).new (xs := [enc r, .tup (vs.map D.int)]) hk1
        exact ⟨_, sb, q a b pb⟩
    walk_at "ev"
    rw [List.length_map]
    by_cases l3 : (vs.length : Int) < 3
    · rw [if_pos l3]
      refine ask_draw good.pot (by decide) (by decide) fun way w0 w1 a4 b4 hp4 => ?_
      replace good := good.turn hp4
      generalize ν.upd c [.int a4, .int b4] = ν at good ⊢
      walk_at "ev"
      by_cases e : way = 0
      · rw [if_pos e]
        intro s hs
        refine ask_pick good.pot hs ⟨by decide, by decide⟩ fun x hx a5 b5 hp5 => ?_
        obtain ⟨m, rfl, m0, m1⟩ : ∃ m : Int, x = .int m ∧ 0 ≤ m ∧ m ≤ 60 := by
          have hx : x ∈ ([40, 60] : List Int).map D.int := hx
          obtain ⟨m, hm, rfl⟩ := List.mem_map.mp hx
          have : ∀ m ∈ ([40, 60] : List Int), 0 ≤ m ∧ m ≤ 60 := by decide
          exact ⟨m, rfl, this m hm⟩
        walk_at "ev"
        exact rest m0 m1 ((good.new hs).turn hp5)
      · rw [if_neg e]
        exact rest h0 h1 good
    · rw [if_neg l3]
      exact rest h0 h1 good
  · exact q.elim
end K12
namespace K12
open PySem PySem.Spec PyProof.Rows L2 Dl
local macro_rules | `(tactic| walk_at "ev") => `(tactic| try simp -dsimp only [↓dSeq_at, dRet, dRetN, dNext, dIfS, dAsg, dDrop, dPar, dNever, dVar, dC, dOp, dUn, dTest, dChain, dAnd, dOr, dNot, dIf, dtAnd, dtOr, dtNot, dTup, daNil, daCons, dCall, dFn, dFnK, dNew, dLst, dOf,
  gdName, gdTup, gdCons, gdNil, gdSub, rdI, rdI0, oPlus, oSub, oTimes, oDiv, oMod, oPow, oLt, oLe, oGt, oGe, oIx, oEq, oNe, uNeg, oIsN, oNotN, D.isNon, cAbs, cMax, cMin, cInt, cDivmod, cLen, cIsi, tyD, items, litems, retD, sTup, mApp, dYes,
  atI_0, atI_1, atI_2, atI_3, atI_4, ixN_20, ixN_21, kit_ii, kit_ib, kit_is, kit_it, kit_il, kit_bi, kit_bb, kit_bs, kit_bt, kit_bl, kit_si, kit_sb, kit_ss, kit_st, kit_sl, kit_ti, kit_tb, kit_ts, kit_tt, kit_tl, kit_li, kit_lb, kit_ls, kit_lt, kit_ll,
  List.getElem?_cons_zero, List.getElem?_cons_succ, List.set_cons_zero, List.set_cons_succ, List.length_cons, List.length_nil, Mu.upd_same, Mu.upd_upd, Nat.zero_add, Nat.reduceAdd, Nat.reduceLeDiff, natlit, Int.reduceEq, Int.reduceLT, Int.reduceLE, Int.reduceAdd, Int.reduceSub, Int.reduceMul, Int.reducePow, Int.reduceNeg, permG2_10, permG3_210, zl_0, zl_1, zl_2, zl_3, zl_4, zl_5, zl_6, zl_7, zl_8, zl_9, zl_10, zl_11, zl_12, zl_13, zl_14, zl_15, zl_16, zl_17, zl_18, zl_19, zl_20, true_and, and_true, eq_self, not_true_eq_false, not_false_eq_true, decide_true, decide_false, if_true, Bool.false_eq_true, if_false, Bool.not_true, Bool.not_false, decide_eq_true_eq, Bool.not_eq_true', decide_eq_false_iff_not, Option.isSome, Option.map])
def sp_law : DSp := fun ds μ Q => ∃ ns : List Int, ds = [.frz (ns.map D.int)] ∧ ns.length ≤ 63 ∧ Q (.bl true) μ
theorem len_law : ∀ ds μ Q, sp_law ds μ Q → ds.length = (["script"] : List Str).length := by
  rintro ds μ Q ⟨ns, rfl, _⟩
  rfl
def db_law : DTS := (dRet (dOf sAll (dLc (diR1 (daCons (dCall cMax (daCons (dC (.int 1)) (daCons (dCall cMin (daCons (dC (.int 2)) (daCons (dCall cLen (daCons (dVar 0) daNil)) daNil))) daNil))) daNil)) (gdName 1) dYes (dFn sp_law_right (daCons (dFn sp_law_pot (daCons (dVar 0) (daCons (dVar 1) daNil))) daNil)) [1])))
theorem pf_law : ∀ ds μ Q, sp_law ds μ Q → db_law (retD Q) (startD ["script", "k"] ds) μ := by
  rintro ds μ Q ⟨ns, rfl, hn, h⟩
  show db_law (retD Q) [some (.frz (ns.map D.int)), none] μ
  unfold db_law
  walk_at "ev"
  simp -dsimp only [dLc, diR1]
  walk_at "ev"
  rw [List.length_map]
  refine ⟨⟨by omega, by omega⟩, ?_⟩
  refine lc_grow (fun _ => .bl true) held_nil (by show (rangeD _ _).length ≤ _; rw [rangeD_len]; omega) (fun x hx μ' Qy hd q => ?_) ?_
  · obtain ⟨i, hi, rfl⟩ := List.mem_map.mp hx
    have hi := List.mem_range.mp hi
    simp -dsimp only [wipeD]
    walk_at "ev"
    refine ⟨ns, _, rfl, ⟨by omega, by omega⟩, fun c hc => ?_⟩
    intro a b hp
    refine ⟨⟨a, b, Mu.upd_same, hp⟩, ?_⟩
    intro a b hp
    refine q _ ?_
    rw [Mu.upd_upd]
    exact Mu.sub_upd hc
  · refine sAll_map (b := fun _ => true) ?_
    rw [show ∀ l : List D, l.all (fun _ => true) = true from fun l => by induction l with | nil => rfl | cons a l ih => exact ih]
    exact ⟨_, Mu.Sub.refl _, h⟩
end K12
namespace K12
open PySem PySem.Spec PyProof.Rows L2 Dl
def topS (i : Nat) : Stmt := PySem.Challenge.pw_seatworks_k12_whole_prices_and_rows_of_s.main.body.getD i (.Pass ⟨0, 0, 0, 0⟩)
structure Bt (mg : Str → Option Value) : Prop where
  z_abs : mg "abs" = none
  z_all : mg "all" = none
  z_bool : mg "bool" = none
  z_divmod : mg "divmod" = none
  z_enumerate : mg "enumerate" = none
  z_int : mg "int" = none
  z_isinstance : mg "isinstance" = none
  z_len : mg "len" = none
  z_list : mg "list" = none
  z_max : mg "max" = none
  z_min : mg "min" = none
  z_range : mg "range" = none
  z_repr : mg "repr" = none
  z_str : mg "str" = none
  z_sum : mg "sum" = none
  z_tuple : mg "tuple" = none
  z_zip : mg "zip" = none
structure Ct (K : PySem.W.Frag) (mg : Str → Option Value) : Prop where
  c_MOST_BOTTOM : Gc K mg "MOST_BOTTOM" (.int 999)
  c_MOST_FIRSTS : Gc K mg "MOST_FIRSTS" (.int 4)
  c_MOST_HOUSE : Gc K mg "MOST_HOUSE" (.int 200)
  c_MOST_LISTS : Gc K mg "MOST_LISTS" (.int 12)
  c_MOST_VOTES : Gc K mg "MOST_VOTES" (.int 1000000000)
  c_RULE : Gc K mg "RULE" (.str "rule")
section
variable {P : Program} {w : World} {K : PySem.W.Frag} {mg : Str → Option Value} {base : Heap}
abbrev S_is_integer : Stmt := topS 1
theorem sc_is_integer : FnScope ["value"] ["value"] (defScope S_is_integer) := ⟨rfl, rfl, rfl, by decide +kernel, rfl, by decide +kernel, by decide +kernel⟩
theorem has_is_integer (B : Bt mg)  (T : Txt K mg "is_integer" S_is_integer) : Has P w K mg base 1 "is_integer" S_is_integer ["value"] sp_is_integer :=
  T.has sc_is_integer len_is_integer fun f cdv A outer s H hr hgd => ⟨db_is_integer,
    (dss_one (ds_ret (de_and (de_callB c_isi B.z_isinstance bt_isinstance (da_cons (de_var 0) (da_cons (de_ty B.z_int bt_int) da_nil))) (de_one (de_not (de_callB c_isi B.z_isinstance bt_isinstance (da_cons (de_var 0) (da_cons (de_ty B.z_bool bt_bool) da_nil)))))))),
    pf_is_integer⟩
abbrev S_is_tuple : Stmt := topS 3
theorem sc_is_tuple : FnScope ["value", "many"] ["value", "many"] (defScope S_is_tuple) := ⟨rfl, rfl, rfl, by decide +kernel, rfl, by decide +kernel, by decide +kernel⟩
theorem has_is_tuple (B : Bt mg)  (T : Txt K mg "is_tuple" S_is_tuple) : Has P w K mg base 1 "is_tuple" S_is_tuple ["value", "many"] sp_is_tuple :=
  T.has sc_is_tuple len_is_tuple fun f cdv A outer s H hr hgd => ⟨db_is_tuple,
    (dss_one (ds_ret (de_and (de_callB c_isi B.z_isinstance bt_isinstance (da_cons (de_var 0) (da_cons (de_ty B.z_tuple bt_tuple) da_nil))) (de_one (de_cmp (o_eq hr.units) (de_callB c_len B.z_len bt_len (da_cons (de_var 0) da_nil)) (de_var 1)))))),
    pf_is_tuple⟩
abbrev S_common : Stmt := topS 12
theorem sc_common : FnScope ["near", "far"] ["near", "far"] (defScope S_common) := ⟨rfl, rfl, rfl, by decide +kernel, rfl, by decide +kernel, by decide +kernel⟩
theorem has_common (B : Bt mg)  (T : Txt K mg "common" S_common) : Has P w K mg base 1 "common" S_common ["near", "far"] sp_common :=
  T.has sc_common len_common fun f cdv A outer s H hr hgd => ⟨db_common,
    (dss_cons (ds_while (dt_cmp o_gt (de_var 1) de_int) (dss_one (ds_par 0 1 sc_common.nd (da_cons (de_var 1) (da_cons (de_op o_mod (de_callTy c_int B.z_int bt_int (da_cons (de_var 0) da_nil)) (de_var 1)) da_nil))))) (dss_one (ds_ret (de_callB (c_max rfl) B.z_max bt_max (da_cons de_int (da_cons (de_var 0) da_nil)))))),
    pf_common⟩
abbrev S_is_less : Stmt := topS 15
theorem sc_is_less : FnScope ["near", "far"] ["near", "far"] (defScope S_is_less) := ⟨rfl, rfl, rfl, by decide +kernel, rfl, by decide +kernel, by decide +kernel⟩
theorem has_is_less  (T : Txt K mg "is_less" S_is_less) : Has P w K mg base 1 "is_less" S_is_less ["near", "far"] sp_is_less :=
  T.has sc_is_less len_is_less fun f cdv A outer s H hr hgd => ⟨db_is_less,
    (dss_one (ds_ret (de_cmp o_lt (de_op o_times (de_ix (de_var 0) de_int) (de_ix (de_var 1) de_int)) (de_op o_times (de_ix (de_var 1) de_int) (de_ix (de_var 0) de_int))))),
    pf_is_less⟩
abbrev S_is_at_most : Stmt := topS 16
theorem sc_is_at_most : FnScope ["near", "far"] ["near", "far"] (defScope S_is_at_most) := ⟨rfl, rfl, rfl, by decide +kernel, rfl, by decide +kernel, by decide +kernel⟩
theorem has_is_at_most  (T : Txt K mg "is_at_most" S_is_at_most) : Has P w K mg base 1 "is_at_most" S_is_at_most ["near", "far"] sp_is_at_most :=
  T.has sc_is_at_most len_is_at_most fun f cdv A outer s H hr hgd => ⟨db_is_at_most,
    (dss_one (ds_ret (de_cmp o_le (de_op o_times (de_ix (de_var 0) de_int) (de_ix (de_var 1) de_int)) (de_op o_times (de_ix (de_var 1) de_int) (de_ix (de_var 0) de_int))))),
    pf_is_at_most⟩
abbrev S_law_pot : Stmt := topS 42
theorem sc_law_pot : FnScope ["script", "k", "cell"] ["script", "k"] (defScope S_law_pot) := ⟨rfl, rfl, rfl, by decide +kernel, rfl, by decide +kernel, by decide +kernel⟩
theorem has_law_pot (B : Bt mg)  (T : Txt K mg "_law_pot" S_law_pot) : Has P w K mg base 1 "_law_pot" S_law_pot ["script", "k"] sp_law_pot :=
  T.has sc_law_pot len_law_pot fun f cdv A outer s H hr hgd => ⟨db_law_pot,
    (dss_cons (ds_asg (de_if (dt_cmp o_lt (de_var 1) (de_callB c_len B.z_len bt_len (da_cons (de_var 0) da_nil))) (de_callB c_abs B.z_abs bt_abs (da_cons (de_ix (de_var 0) (de_var 1)) da_nil)) (de_op o_plus (de_op o_times de_int (de_var 1)) de_int)) (dg_name 2 sc_law_pot.nd)) (dss_one (ds_ret (de_new (dl_lst (da_cons (de_callB (c_max rfl) B.z_max bt_max (da_cons de_int (da_cons (de_op o_sub (de_var 2) (de_op o_pow de_int de_int)) da_nil))) (da_cons (de_op o_plus (de_op o_mod (de_callTy c_int B.z_int bt_int (da_cons (de_op o_plus (de_op o_plus (de_op o_times (de_op o_mod (de_callTy c_int B.z_int bt_int (da_cons (de_var 2) da_nil)) de_int) de_int) (de_op o_times de_int (de_var 1))) de_int) da_nil)) de_int) de_int) da_nil))))))),
    pf_law_pot⟩
abbrev S_law_draw : Stmt := topS 43
theorem sc_law_draw : FnScope ["pot", "many", "digit"] ["pot", "many"] (defScope S_law_draw) := ⟨rfl, rfl, rfl, by decide +kernel, rfl, by decide +kernel, by decide +kernel⟩
theorem has_law_draw (B : Bt mg)  (T : Txt K mg "_law_draw" S_law_draw) : Has P w K mg base 1 "_law_draw" S_law_draw ["pot", "many"] sp_law_draw :=
  T.has sc_law_draw len_law_draw fun f cdv A outer s H hr hgd => ⟨db_law_draw,
    (dss_cons (ds_if (dt_cmp o_gt (de_ix (de_var 0) de_int) de_int) (dss_cons (ds_asg (de_callB c_divmod B.z_divmod bt_divmod (da_cons (de_ix (de_var 0) de_int) (da_cons (de_var 1) da_nil))) (dg_tup (dgs_cons (dg_sub (de_var 0) de_int) (dgs_cons (dg_name 2 sc_law_draw.nd) dgs_nil)))) (dss_one (ds_ret (de_var 2)))) dss_nil) (dss_cons (ds_asg (de_op o_mod (de_callTy c_int B.z_int bt_int (da_cons (de_op o_plus (de_op o_times (de_ix (de_var 0) de_int) de_int) de_int) da_nil)) de_int) (dg_sub (de_var 0) de_int)) (dss_one (ds_ret (de_op o_mod (de_callTy c_int B.z_int bt_int (da_cons (de_op o_div (de_op o_mod (de_callTy c_int B.z_int bt_int (da_cons (de_op o_times (de_ix (de_var 0) de_int) (de_ix (de_var 0) de_int)) da_nil)) de_int) de_int) da_nil)) (de_var 1)))))),
    pf_law_draw⟩
abbrev S_law_divisor : Stmt := topS 45
theorem sc_law_divisor : FnScope ["near", "far"] ["near", "far"] (defScope S_law_divisor) := ⟨rfl, rfl, rfl, by decide +kernel, rfl, by decide +kernel, by decide +kernel⟩
theorem has_law_divisor (B : Bt mg)  (T : Txt K mg "_law_divisor" S_law_divisor) : Has P w K mg base 1 "_law_divisor" S_law_divisor ["near", "far"] sp_law_divisor :=
  T.has sc_law_divisor len_law_divisor fun f cdv A outer s H hr hgd => ⟨db_law_divisor,
    (dss_cons (ds_while (dt_cmp o_gt (de_var 1) de_int) (dss_one (ds_par 0 1 sc_law_divisor.nd (da_cons (de_var 1) (da_cons (de_callTy c_int B.z_int bt_int (da_cons (de_op o_mod (de_var 0) (de_var 1)) da_nil)) da_nil))))) (dss_one (ds_ret (de_callB (c_max rfl) B.z_max bt_max (da_cons de_int (da_cons (de_var 0) da_nil)))))),
    pf_law_divisor⟩
abbrev S_law_below : Stmt := topS 51
theorem sc_law_below : FnScope ["near", "far"] ["near", "far"] (defScope S_law_below) := ⟨rfl, rfl, rfl, by decide +kernel, rfl, by decide +kernel, by decide +kernel⟩
theorem has_law_below  (T : Txt K mg "_law_below" S_law_below) : Has P w K mg base 1 "_law_below" S_law_below ["near", "far"] sp_law_below :=
  T.has sc_law_below len_law_below fun f cdv A outer s H hr hgd => ⟨db_law_below,
    (dss_one (ds_ret (de_cmp o_lt (de_op o_times (de_ix (de_var 0) de_int) (de_ix (de_var 1) de_int)) (de_op o_times (de_ix (de_var 1) de_int) (de_ix (de_var 0) de_int))))),
    pf_law_below⟩
abbrev S_is_within : Stmt := topS 2
theorem sc_is_within : FnScope ["value", "least", "most"] ["value", "least", "most"] (defScope S_is_within) := ⟨rfl, rfl, rfl, by decide +kernel, rfl, by decide +kernel, by decide +kernel⟩
theorem has_is_within (h_is_integer : Has P w K mg base 1 "is_integer" S_is_integer ["value"] sp_is_integer) (T : Txt K mg "is_within" S_is_within) : Has P w K mg base 2 "is_within" S_is_within ["value", "least", "most"] sp_is_within :=
  T.has sc_is_within len_is_within fun f cdv A outer s H hr hgd => ⟨db_is_within,
    (dss_one (ds_ret (de_and (de_fn h_is_integer (hr.mono (by decide)) hgd (da_cons (de_var 0) da_nil) (fun _ _ _ _ _ _ us ws h1 h2 => match us, ws, h1, h2 with | [_], [], _, _ => ⟨rfl, rfl⟩)) (de_one (de_chain o_le o_le (de_var 1) (de_var 0) (de_var 2)))))),
    pf_is_within⟩
abbrev S_lowest : Stmt := topS 13
theorem sc_lowest : FnScope ["top", "bottom", "many"] ["top", "bottom"] (defScope S_lowest) := ⟨rfl, rfl, rfl, by decide +kernel, rfl, by decide +kernel, by decide +kernel⟩
theorem has_lowest (B : Bt mg) (h_common : Has P w K mg base 1 "common" S_common ["near", "far"] sp_common) (T : Txt K mg "lowest" S_lowest) : Has P w K mg base 2 "lowest" S_lowest ["top", "bottom"] sp_lowest :=
  T.has sc_lowest len_lowest fun f cdv A outer s H hr hgd => ⟨db_lowest,
    (dss_cons (ds_asg (de_fn h_common (hr.mono (by decide)) hgd (da_cons (de_callB c_abs B.z_abs bt_abs (da_cons (de_var 0) da_nil)) (da_cons (de_var 1) da_nil)) (fun _ _ _ _ _ _ us ws h1 h2 => match us, ws, h1, h2 with | [_, _], [], _, _ => ⟨rfl, rfl⟩)) (dg_name 2 sc_lowest.nd)) (dss_one (ds_ret (de_tup (da_cons (de_op o_div (de_var 0) (de_var 2)) (da_cons (de_op o_div (de_var 1) (de_var 2)) da_nil)))))),
    pf_lowest⟩
abbrev S_is_fraction_any : Stmt := topS 14
theorem sc_is_fraction_any : FnScope ["value", "one"] ["value"] (defScope S_is_fraction_any) := ⟨rfl, rfl, rfl, by decide +kernel, rfl, by decide +kernel, by decide +kernel⟩
theorem has_is_fraction_any (B : Bt mg) (h_is_tuple : Has P w K mg base 1 "is_tuple" S_is_tuple ["value", "many"] sp_is_tuple) (h_is_integer : Has P w K mg base 1 "is_integer" S_is_integer ["value"] sp_is_integer) (h_common : Has P w K mg base 1 "common" S_common ["near", "far"] sp_common) (T : Txt K mg "is_fraction_any" S_is_fraction_any) : Has P w K mg base 2 "is_fraction_any" S_is_fraction_any ["value"] sp_is_fraction_any :=
  T.has sc_is_fraction_any len_is_fraction_any fun f cdv A outer s H hr hgd => ⟨db_is_fraction_any,
    (dss_cons (ds_if (PWD.pt (dw_or (dt_not (dt_val (de_fn h_is_tuple (hr.mono (by decide)) hgd (da_cons (de_var 0) (da_cons de_int da_nil)) (fun _ _ _ _ _ _ us ws h1 h2 => match us, ws, h1, h2 with | [_, _], [], _, _ => ⟨rfl, rfl⟩)))) (dw_or (dt_not (dt_val (de_ofB (s_all rfl) B.z_all bt_all (dl_lc [("one", 1)] sc_is_fraction_any.nd (di_seq (de_var 0)) (own_name 1 fun _ _ _ _ _ => pg_name sc_is_fraction_any.nd rfl (Or.inl rfl)) (fun _ _ _ _ _ => dts_nil) (fun _ _ _ _ _ => (de_fn h_is_integer (hr.mono (by decide)) hgd (da_cons (de_var 1) da_nil) (fun _ _ _ _ _ _ us ws h1 h2 => match us, ws, h1, h2 with | [_], [], _, _ => ⟨rfl, rfl⟩))))))) (dw_or1 (dt_cmp o_lt (de_ix (de_var 0) de_int) de_int))))) (dss_one (ds_ret de_bl)) dss_nil) (dss_one (ds_ret (de_cmp (o_eq hr.units) (de_fn h_common (hr.mono (by decide)) hgd (da_cons (de_callB c_abs B.z_abs bt_abs (da_cons (de_ix (de_var 0) de_int) da_nil)) (da_cons (de_ix (de_var 0) de_int) da_nil)) (fun _ _ _ _ _ _ us ws h1 h2 => match us, ws, h1, h2 with | [_, _], [], _, _ => ⟨rfl, rfl⟩)) de_int)))),
    pf_is_fraction_any⟩
abbrev S_most_of : Stmt := topS 17
theorem sc_most_of : FnScope ["some", "found", "one"] ["some"] (defScope S_most_of) := ⟨rfl, rfl, rfl, by decide +kernel, rfl, by decide +kernel, by decide +kernel⟩
theorem has_most_of (h_is_less : Has P w K mg base 1 "is_less" S_is_less ["near", "far"] sp_is_less) (T : Txt K mg "most_of" S_most_of) : Has P w K mg base 2 "most_of" S_most_of ["some"] sp_most_of :=
  T.has sc_most_of len_most_of fun f cdv A outer s H hr hgd => ⟨db_most_of,
    (dss_cons (ds_asg de_non (dg_name 1 sc_most_of.nd)) (dss_cons (ds_for (di_seq (de_var 0)) (dg_name 2 sc_most_of.nd) (dss_one (ds_if (PWD.pt (dw_or (dt_cmp o_isN (de_var 1) de_non) (dw_or1 (dt_val (de_fn h_is_less (hr.mono (by decide)) hgd (da_cons (de_var 1) (da_cons (de_var 2) da_nil)) (fun _ _ _ _ _ _ us ws h1 h2 => match us, ws, h1, h2 with | [_, _], [], _, _ => ⟨rfl, rfl⟩)))))) (dss_one (ds_asg (de_var 2) (dg_name 1 sc_most_of.nd))) dss_nil))) (dss_one (ds_ret (de_var 1))))),
    pf_most_of⟩
abbrev S_law_pick : Stmt := topS 44
theorem sc_law_pick : FnScope ["pot", "some"] ["pot", "some"] (defScope S_law_pick) := ⟨rfl, rfl, rfl, by decide +kernel, rfl, by decide +kernel, by decide +kernel⟩
theorem has_law_pick (B : Bt mg) (h_law_draw : Has P w K mg base 1 "_law_draw" S_law_draw ["pot", "many"] sp_law_draw) (T : Txt K mg "_law_pick" S_law_pick) : Has P w K mg base 2 "_law_pick" S_law_pick ["pot", "some"] sp_law_pick :=
  T.has sc_law_pick len_law_pick fun f cdv A outer s H hr hgd => ⟨db_law_pick,
    (dss_one (ds_ret (de_ix (de_var 1) (de_fn h_law_draw (hr.mono (by decide)) hgd (da_cons (de_var 0) (da_cons (de_callB c_len B.z_len bt_len (da_cons (de_var 1) da_nil)) da_nil)) (fun _ _ _ _ _ _ us ws h1 h2 => match us, ws, h1, h2 with | [_, _], [], _, _ => ⟨rfl, rfl⟩))))),
    pf_law_pick⟩
abbrev S_law_lowest : Stmt := topS 46
theorem sc_law_lowest : FnScope ["top", "bottom", "many"] ["top", "bottom"] (defScope S_law_lowest) := ⟨rfl, rfl, rfl, by decide +kernel, rfl, by decide +kernel, by decide +kernel⟩
theorem has_law_lowest (h_law_divisor : Has P w K mg base 1 "_law_divisor" S_law_divisor ["near", "far"] sp_law_divisor) (T : Txt K mg "_law_lowest" S_law_lowest) : Has P w K mg base 2 "_law_lowest" S_law_lowest ["top", "bottom"] sp_law_lowest :=
  T.has sc_law_lowest len_law_lowest fun f cdv A outer s H hr hgd => ⟨db_law_lowest,
    (dss_cons (ds_asg (de_fn h_law_divisor (hr.mono (by decide)) hgd (da_cons (de_var 0) (da_cons (de_var 1) da_nil)) (fun _ _ _ _ _ _ us ws h1 h2 => match us, ws, h1, h2 with | [_, _], [], _, _ => ⟨rfl, rfl⟩)) (dg_name 2 sc_law_lowest.nd)) (dss_one (ds_ret (de_tup (da_cons (de_op o_div (de_var 0) (de_var 2)) (da_cons (de_op o_div (de_var 1) (de_var 2)) da_nil)))))),
    pf_law_lowest⟩
abbrev S_is_small : Stmt := topS 22
theorem sc_is_small : FnScope ["value"] ["value"] (defScope S_is_small) := ⟨rfl, rfl, rfl, by decide +kernel, rfl, by decide +kernel, by decide +kernel⟩
theorem has_is_small (C : Ct K mg) (h_is_fraction_any : Has P w K mg base 2 "is_fraction_any" S_is_fraction_any ["value"] sp_is_fraction_any) (T : Txt K mg "is_small" S_is_small) : Has P w K mg base 3 "is_small" S_is_small ["value"] sp_is_small :=
  T.has sc_is_small len_is_small fun f cdv A outer s H hr hgd => ⟨db_is_small,
    (dss_one (ds_ret (de_and (de_fn h_is_fraction_any (hr.mono (by decide)) hgd (da_cons (de_var 0) da_nil) (fun _ _ _ _ _ _ us ws h1 h2 => match us, ws, h1, h2 with | [_], [], _, _ => ⟨rfl, rfl⟩)) (de_one (de_cmp o_le (de_ix (de_var 0) de_int) (de_glob C.c_MOST_BOTTOM)))))),
    pf_is_small⟩
abbrev S_signpost : Stmt := topS 25
theorem sc_signpost : FnScope ["rule", "many", "word", "firsts", "top", "bottom"] ["rule", "many"] (defScope S_signpost) := ⟨rfl, rfl, rfl, by decide +kernel, rfl, by decide +kernel, by decide +kernel⟩
theorem has_signpost (B : Bt mg) (h_lowest : Has P w K mg base 2 "lowest" S_lowest ["top", "bottom"] sp_lowest) (T : Txt K mg "signpost" S_signpost) : Has P w K mg base 3 "signpost" S_signpost ["rule", "many"] sp_signpost :=
  T.has sc_signpost len_signpost fun f cdv A outer s H hr hgd => ⟨db_signpost,
    (dss_cons (ds_asg (de_var 0) (dg_tup (dgs_cons (dg_name 2 sc_signpost.nd) (dgs_cons (dg_name 3 sc_signpost.nd) (dgs_cons (dg_name 4 sc_signpost.nd) (dgs_cons (dg_name 5 sc_signpost.nd) dgs_nil)))))) (dss_cons (ds_if (dt_cmp (o_eq hr.units) (de_var 1) de_int) (dss_one (ds_ret (de_tup (da_cons de_int (da_cons de_int da_nil))))) dss_nil) (dss_one (ds_ret (de_if (dt_cmp o_le (de_var 1) (de_callB c_len B.z_len bt_len (da_cons (de_var 3) da_nil))) (de_ix (de_var 3) (de_op o_sub (de_var 1) de_int)) (de_fn h_lowest (hr.mono (by decide)) hgd (da_cons (de_op o_plus (de_op o_times (de_op o_sub (de_var 1) de_int) (de_var 5)) (de_var 4)) (da_cons (de_var 5) da_nil)) (fun _ _ _ _ _ _ us ws h1 h2 => match us, ws, h1, h2 with | [_, _], [], _, _ => ⟨rfl, rfl⟩))))))),
    pf_signpost⟩
abbrev S_is_row_of_votes : Stmt := topS 30
theorem sc_is_row_of_votes : FnScope ["value", "one"] ["value"] (defScope S_is_row_of_votes) := ⟨rfl, rfl, rfl, by decide +kernel, rfl, by decide +kernel, by decide +kernel⟩
theorem has_is_row_of_votes (B : Bt mg) (C : Ct K mg) (h_is_within : Has P w K mg base 2 "is_within" S_is_within ["value", "least", "most"] sp_is_within) (T : Txt K mg "is_row_of_votes" S_is_row_of_votes) : Has P w K mg base 3 "is_row_of_votes" S_is_row_of_votes ["value"] sp_is_row_of_votes :=
  T.has sc_is_row_of_votes len_is_row_of_votes fun f cdv A outer s H hr hgd => ⟨db_is_row_of_votes,
    (dss_cons (ds_if (PWD.pt (dw_or (dt_not (dt_val (de_callB c_isi B.z_isinstance bt_isinstance (da_cons (de_var 0) (da_cons (de_ty B.z_tuple bt_tuple) da_nil))))) (dw_or1 (dt_not (dt_chain o_le o_le de_int (de_callB c_len B.z_len bt_len (da_cons (de_var 0) da_nil)) (de_glob C.c_MOST_LISTS)))))) (dss_one (ds_ret de_bl)) dss_nil) (dss_one (ds_ret (de_ofB (s_all rfl) B.z_all bt_all (dl_lc [("one", 1)] sc_is_row_of_votes.nd (di_seq (de_var 0)) (own_name 1 fun _ _ _ _ _ => pg_name sc_is_row_of_votes.nd rfl (Or.inl rfl)) (fun _ _ _ _ _ => dts_nil) (fun _ _ _ _ _ => (de_fn h_is_within (hr.mono (by decide)) hgd (da_cons (de_var 1) (da_cons de_int (da_cons (de_glob C.c_MOST_VOTES) da_nil))) (fun _ _ _ _ _ _ us ws h1 h2 => match us, ws, h1, h2 with | [_, _, _], [], _, _ => ⟨rfl, rfl⟩)))))))),
    pf_is_row_of_votes⟩
abbrev S_want_seats : Stmt := topS 34
theorem sc_want_seats : FnScope ["many", "least"] ["many", "least"] (defScope S_want_seats) := ⟨rfl, rfl, rfl, by decide +kernel, rfl, by decide +kernel, by decide +kernel⟩
theorem has_want_seats (C : Ct K mg) (h_is_within : Has P w K mg base 2 "is_within" S_is_within ["value", "least", "most"] sp_is_within) (T : Txt K mg "want_seats" S_want_seats) : Has P w K mg base 3 "want_seats" S_want_seats ["many", "least"] sp_want_seats :=
  T.has sc_want_seats len_want_seats fun f cdv A outer s H hr hgd => ⟨db_want_seats,
    (dss_one (ds_if (dt_not (dt_val (de_fn h_is_within (hr.mono (by decide)) hgd (da_cons (de_var 0) (da_cons (de_var 1) (da_cons (de_glob C.c_MOST_HOUSE) da_nil))) (fun _ _ _ _ _ _ us ws h1 h2 => match us, ws, h1, h2 with | [_, _, _], [], _, _ => ⟨rfl, rfl⟩)))) (dss_one ds_never) dss_nil)),
    pf_want_seats⟩
abbrev S_want_house : Stmt := topS 35
theorem sc_want_house : FnScope ["house"] ["house"] (defScope S_want_house) := ⟨rfl, rfl, rfl, by decide +kernel, rfl, by decide +kernel, by decide +kernel⟩
theorem has_want_house (C : Ct K mg) (h_is_within : Has P w K mg base 2 "is_within" S_is_within ["value", "least", "most"] sp_is_within) (T : Txt K mg "want_house" S_want_house) : Has P w K mg base 3 "want_house" S_want_house ["house"] sp_want_house :=
  T.has sc_want_house len_want_house fun f cdv A outer s H hr hgd => ⟨db_want_house,
    (dss_one (ds_if (dt_not (dt_val (de_fn h_is_within (hr.mono (by decide)) hgd (da_cons (de_var 0) (da_cons de_int (da_cons (de_glob C.c_MOST_HOUSE) da_nil))) (fun _ _ _ _ _ _ us ws h1 h2 => match us, ws, h1, h2 with | [_, _, _], [], _, _ => ⟨rfl, rfl⟩)))) (dss_one ds_never) dss_nil)),
    pf_want_house⟩
abbrev S_want_number : Stmt := topS 36
theorem sc_want_number : FnScope ["votes", "number"] ["votes", "number"] (defScope S_want_number) := ⟨rfl, rfl, rfl, by decide +kernel, rfl, by decide +kernel, by decide +kernel⟩
theorem has_want_number (B : Bt mg) (h_is_within : Has P w K mg base 2 "is_within" S_is_within ["value", "least", "most"] sp_is_within) (T : Txt K mg "want_number" S_want_number) : Has P w K mg base 3 "want_number" S_want_number ["votes", "number"] sp_want_number :=
  T.has sc_want_number len_want_number fun f cdv A outer s H hr hgd => ⟨db_want_number,
    (dss_one (ds_if (dt_not (dt_val (de_fn h_is_within (hr.mono (by decide)) hgd (da_cons (de_var 1) (da_cons de_int (da_cons (de_op o_sub (de_callB c_len B.z_len bt_len (da_cons (de_var 0) da_nil)) de_int) da_nil))) (fun _ _ _ _ _ _ us ws h1 h2 => match us, ws, h1, h2 with | [_, _, _], [], _, _ => ⟨rfl, rfl⟩)))) (dss_one ds_never) dss_nil)),
    pf_want_number⟩
abbrev S_law_rule : Stmt := topS 47
theorem sc_law_rule : FnScope ["pot", "some", "firsts", "top", "bottom"] ["pot"] (defScope S_law_rule) := ⟨rfl, rfl, rfl, by decide +kernel, rfl, by decide +kernel, by decide +kernel⟩
theorem has_law_rule (h_law_draw : Has P w K mg base 1 "_law_draw" S_law_draw ["pot", "many"] sp_law_draw) (h_law_pick : Has P w K mg base 2 "_law_pick" S_law_pick ["pot", "some"] sp_law_pick) (h_law_lowest : Has P w K mg base 2 "_law_lowest" S_law_lowest ["top", "bottom"] sp_law_lowest) (T : Txt K mg "_law_rule" S_law_rule) : Has P w K mg base 3 "_law_rule" S_law_rule ["pot"] sp_law_rule :=
  T.has sc_law_rule len_law_rule fun f cdv A outer s H hr hgd => ⟨db_law_rule,
    (dss_cons (ds_asg (de_new (dl_lst (da_cons (de_tup (da_cons (de_tup da_nil) (da_cons de_int (da_cons de_int da_nil)))) (da_cons (de_tup (da_cons (de_tup da_nil) (da_cons de_int (da_cons de_int da_nil)))) (da_cons (de_tup (da_cons (de_tup da_nil) (da_cons de_int (da_cons de_int da_nil)))) (da_cons (de_tup (da_cons (de_tup (da_cons (de_tup (da_cons de_int (da_cons de_int da_nil))) da_nil)) (da_cons de_int (da_cons de_int da_nil)))) (da_cons (de_tup (da_cons (de_tup (da_cons (de_tup (da_cons de_int (da_cons de_int da_nil))) (da_cons (de_tup (da_cons de_int (da_cons de_int da_nil))) da_nil))) (da_cons de_int (da_cons de_int da_nil)))) (da_cons (de_tup (da_cons (de_tup (da_cons (de_tup (da_cons de_int (da_cons de_int da_nil))) da_nil)) (da_cons de_int (da_cons de_int da_nil)))) (da_cons (de_tup (da_cons (de_tup (da_cons (de_tup (da_cons de_int (da_cons de_int da_nil))) (da_cons (de_tup (da_cons de_int (da_cons de_int da_nil))) (da_cons (de_tup (da_cons de_int (da_cons de_int da_nil))) da_nil)))) (da_cons de_int (da_cons de_int da_nil)))) da_nil))))))))) (dg_name 1 sc_law_rule.nd)) (dss_cons (ds_if (dt_cmp o_gt (de_fn h_law_draw (hr.mono (by decide)) hgd (da_cons (de_var 0) (da_cons de_int da_nil)) (fun _ _ _ _ _ _ us ws h1 h2 => match us, ws, h1, h2 with | [_, _], [], _, _ => ⟨rfl, rfl⟩)) de_int) (dss_one (ds_asg (de_fn h_law_pick (hr.mono (by decide)) hgd (da_cons (de_var 0) (da_cons (de_var 1) da_nil)) (fun _ _ _ _ _ _ us ws h1 h2 => match us, ws, h1, h2 with | [_, _], [], _, _ => ⟨rfl, rfl⟩)) (dg_tup (dgs_cons (dg_name 2 sc_law_rule.nd) (dgs_cons (dg_name 3 sc_law_rule.nd) (dgs_cons (dg_name 4 sc_law_rule.nd) dgs_nil)))))) (dss_cons (ds_asg (de_op o_plus de_int (de_fn h_law_draw (hr.mono (by decide)) hgd (da_cons (de_var 0) (da_cons de_int da_nil)) (fun _ _ _ _ _ _ us ws h1 h2 => match us, ws, h1, h2 with | [_, _], [], _, _ => ⟨rfl, rfl⟩))) (dg_name 4 sc_law_rule.nd)) (dss_one (ds_par 3 2 sc_law_rule.nd (da_cons (de_op o_plus de_int (de_fn h_law_draw (hr.mono (by decide)) hgd (da_cons (de_var 0) (da_cons (de_var 4) da_nil)) (fun _ _ _ _ _ _ us ws h1 h2 => match us, ws, h1, h2 with | [_, _], [], _, _ => ⟨rfl, rfl⟩))) (da_cons (de_tup da_nil) da_nil)))))) (dss_one (ds_ret (de_op o_plus (de_tup (da_cons de_str (da_cons (de_var 2) da_nil))) (de_fn h_law_lowest (hr.mono (by decide)) hgd (da_cons (de_var 3) (da_cons (de_var 4) da_nil)) (fun _ _ _ _ _ _ us ws h1 h2 => match us, ws, h1, h2 with | [_, _], [], _, _ => ⟨rfl, rfl⟩))))))),
    pf_law_rule⟩
abbrev S_law_post : Stmt := topS 48
theorem sc_law_post : FnScope ["rule", "many"] ["rule", "many"] (defScope S_law_post) := ⟨rfl, rfl, rfl, by decide +kernel, rfl, by decide +kernel, by decide +kernel⟩
theorem has_law_post (B : Bt mg) (h_law_lowest : Has P w K mg base 2 "_law_lowest" S_law_lowest ["top", "bottom"] sp_law_lowest) (T : Txt K mg "_law_post" S_law_post) : Has P w K mg base 3 "_law_post" S_law_post ["rule", "many"] sp_law_post :=
  T.has sc_law_post len_law_post fun f cdv A outer s H hr hgd => ⟨db_law_post,
    (dss_cons (ds_if (dt_cmp (o_eq hr.units) (de_var 1) de_int) (dss_one (ds_ret (de_tup (da_cons de_int (da_cons de_int da_nil))))) dss_nil) (dss_cons (ds_if (dt_cmp o_le (de_var 1) (de_callB c_len B.z_len bt_len (da_cons (de_ix (de_var 0) de_int) da_nil))) (dss_one (ds_ret (de_ix (de_ix (de_var 0) de_int) (de_op o_sub (de_var 1) de_int)))) dss_nil) (dss_one (ds_ret (de_fn h_law_lowest (hr.mono (by decide)) hgd (da_cons (de_op o_plus (de_op o_times (de_op o_sub (de_var 1) de_int) (de_ix (de_var 0) de_int)) (de_ix (de_var 0) de_int)) (da_cons (de_ix (de_var 0) de_int) da_nil)) (fun _ _ _ _ _ _ us ws h1 h2 => match us, ws, h1, h2 with | [_, _], [], _, _ => ⟨rfl, rfl⟩)))))),
    pf_law_post⟩
abbrev S_law_votes : Stmt := topS 49
theorem sc_law_votes : FnScope ["pot", "lists", "great", "one"] ["pot", "lists", "great"] (defScope S_law_votes) := ⟨rfl, rfl, rfl, by decide +kernel, rfl, by decide +kernel, by decide +kernel⟩
theorem has_law_votes (B : Bt mg) (h_law_draw : Has P w K mg base 1 "_law_draw" S_law_draw ["pot", "many"] sp_law_draw) (h_law_pick : Has P w K mg base 2 "_law_pick" S_law_pick ["pot", "some"] sp_law_pick) (T : Txt K mg "_law_votes" S_law_votes) : Has P w K mg base 3 "_law_votes" S_law_votes ["pot", "lists", "great"] sp_law_votes :=
  T.has sc_law_votes len_law_votes fun f cdv A outer s H hr hgd => ⟨db_law_votes,
    (dss_cons (ds_if (PWD.pt (dw_and (dt_val (de_var 2)) (dw_and1 (dt_cmp (o_eq hr.units) (de_fn h_law_draw (hr.mono (by decide)) hgd (da_cons (de_var 0) (da_cons de_int da_nil)) (fun _ _ _ _ _ _ us ws h1 h2 => match us, ws, h1, h2 with | [_, _], [], _, _ => ⟨rfl, rfl⟩)) de_int)))) (dss_one (ds_ret (de_ofTy s_tup B.z_tuple bt_tuple (dl_lc [("one", 3)] sc_law_votes.nd (di_r1 B.z_range (da_cons (de_var 1) da_nil)) (own_name 3 fun _ _ _ _ _ => pg_name sc_law_votes.nd rfl (Or.inl rfl)) (fun _ _ _ _ _ => dts_nil) (fun _ _ _ _ _ => (de_fn h_law_pick (hr.mono (by decide)) hgd (da_cons (de_var 0) (da_cons (de_new (dl_lst (da_cons de_int (da_cons de_int (da_cons (de_op o_pow de_int de_int) (da_cons de_int (da_cons (de_op o_times de_int (de_op o_pow de_int de_int)) (da_cons de_int da_nil)))))))) da_nil)) (fun _ _ _ _ _ _ us ws h1 h2 => match us, ws, h1, h2 with | [_, _], [], _, _ => ⟨rfl, rfl⟩))))))) dss_nil) (dss_one (ds_ret (de_ofTy s_tup B.z_tuple bt_tuple (dl_lc [("one", 3)] sc_law_votes.nd (di_r1 B.z_range (da_cons (de_var 1) da_nil)) (own_name 3 fun _ _ _ _ _ => pg_name sc_law_votes.nd rfl (Or.inl rfl)) (fun _ _ _ _ _ => dts_nil) (fun _ _ _ _ _ => (de_fn h_law_draw (hr.mono (by decide)) hgd (da_cons (de_var 0) (da_cons de_int da_nil)) (fun _ _ _ _ _ _ us ws h1 h2 => match us, ws, h1, h2 with | [_, _], [], _, _ => ⟨rfl, rfl⟩)))))))),
    pf_law_votes⟩
abbrev S_is_rule_any : Stmt := topS 23
theorem sc_is_rule_any : FnScope ["value", "word", "firsts", "top", "bottom", "one", "posts", "many", "near", "far", "post"] ["value"] (defScope S_is_rule_any) := ⟨rfl, rfl, rfl, by decide +kernel, rfl, by decide +kernel, by decide +kernel⟩
theorem has_is_rule_any (B : Bt mg) (C : Ct K mg) (h_is_tuple : Has P w K mg base 1 "is_tuple" S_is_tuple ["value", "many"] sp_is_tuple) (h_is_small : Has P w K mg base 3 "is_small" S_is_small ["value"] sp_is_small) (h_is_within : Has P w K mg base 2 "is_within" S_is_within ["value", "least", "most"] sp_is_within) (h_common : Has P w K mg base 1 "common" S_common ["near", "far"] sp_common) (h_signpost : Has P w K mg base 3 "signpost" S_signpost ["rule", "many"] sp_signpost) (h_is_less : Has P w K mg base 1 "is_less" S_is_less ["near", "far"] sp_is_less) (h_is_at_most : Has P w K mg base 1 "is_at_most" S_is_at_most ["near", "far"] sp_is_at_most) (T : Txt K mg "is_rule_any" S_is_rule_any) : Has P w K mg base 4 "is_rule_any" S_is_rule_any ["value"] sp_is_rule_any :=
  T.has sc_is_rule_any len_is_rule_any fun f cdv A outer s H hr hgd => ⟨db_is_rule_any,
    (dss_cons (ds_if (PWD.pt (dw_or (dt_not (dt_val (de_fn h_is_tuple (hr.mono (by decide)) hgd (da_cons (de_var 0) (da_cons de_int da_nil)) (fun _ _ _ _ _ _ us ws h1 h2 => match us, ws, h1, h2 with | [_, _], [], _, _ => ⟨rfl, rfl⟩)))) (dw_or (dt_not (dt_val (de_callB c_isi B.z_isinstance bt_isinstance (da_cons (de_ix (de_var 0) de_int) (da_cons (de_ty B.z_str bt_str) da_nil))))) (dw_or1 (dt_cmp (o_ne hr.units) (de_ix (de_var 0) de_int) (de_glob C.c_RULE)))))) (dss_one (ds_ret de_bl)) dss_nil) (dss_cons (ds_asg (de_var 0) (dg_tup (dgs_cons (dg_name 1 sc_is_rule_any.nd) (dgs_cons (dg_name 2 sc_is_rule_any.nd) (dgs_cons (dg_name 3 sc_is_rule_any.nd) (dgs_cons (dg_name 4 sc_is_rule_any.nd) dgs_nil)))))) (dss_cons (ds_if (PWD.pt (dw_or (dt_not (dt_val (de_callB c_isi B.z_isinstance bt_isinstance (da_cons (de_var 2) (da_cons (de_ty B.z_tuple bt_tuple) da_nil))))) (dw_or (dt_cmp o_gt (de_callB c_len B.z_len bt_len (da_cons (de_var 2) da_nil)) (de_glob C.c_MOST_FIRSTS)) (dw_or1 (dt_not (dt_val (de_ofB (s_all rfl) B.z_all bt_all (dl_lc [("one", 5)] sc_is_rule_any.nd (di_seq (de_var 2)) (own_name 5 fun _ _ _ _ _ => pg_name sc_is_rule_any.nd rfl (Or.inl rfl)) (fun _ _ _ _ _ => dts_nil) (fun _ _ _ _ _ => (de_fn h_is_small (hr.mono (by decide)) hgd (da_cons (de_var 5) da_nil) (fun _ _ _ _ _ _ us ws h1 h2 => match us, ws, h1, h2 with | [_], [], _, _ => ⟨rfl, rfl⟩))))))))))) (dss_one (ds_ret de_bl)) dss_nil) (dss_cons (ds_if (PWD.pt (dw_or (dt_not (dt_val (de_fn h_is_within (hr.mono (by decide)) hgd (da_cons (de_var 4) (da_cons de_int (da_cons (de_glob C.c_MOST_BOTTOM) da_nil))) (fun _ _ _ _ _ _ us ws h1 h2 => match us, ws, h1, h2 with | [_, _, _], [], _, _ => ⟨rfl, rfl⟩)))) (dw_or (dt_not (dt_val (de_fn h_is_within (hr.mono (by decide)) hgd (da_cons (de_var 3) (da_cons de_int (da_cons (de_var 4) da_nil))) (fun _ _ _ _ _ _ us ws h1 h2 => match us, ws, h1, h2 with | [_, _, _], [], _, _ => ⟨rfl, rfl⟩)))) (dw_or1 (dt_cmp (o_ne hr.units) (de_fn h_common (hr.mono (by decide)) hgd (da_cons (de_var 3) (da_cons (de_var 4) da_nil)) (fun _ _ _ _ _ _ us ws h1 h2 => match us, ws, h1, h2 with | [_, _], [], _, _ => ⟨rfl, rfl⟩)) de_int))))) (dss_one (ds_ret de_bl)) dss_nil) (dss_cons (ds_setLc 6 [("many", 7)] sc_is_rule_any.nd (di_r1 B.z_range (da_cons (de_op o_plus (de_callB c_len B.z_len bt_len (da_cons (de_var 2) da_nil)) de_int) da_nil)) (own_name 7 fun _ _ _ _ _ => pg_name sc_is_rule_any.nd rfl (Or.inl rfl)) (fun _ _ _ _ _ => dts_nil) (fun _ _ _ _ _ => (de_fn h_signpost (hr.mono (by decide)) hgd (da_cons (de_var 0) (da_cons (de_var 7) da_nil)) (fun _ _ _ _ _ _ us ws h1 h2 => match us, ws, h1, h2 with | [_, _], [], _, _ => ⟨rfl, rfl⟩)))) (dss_cons (ds_if (dt_not (dt_val (de_ofB (s_all rfl) B.z_all bt_all (dl_lc [("near", 8), ("far", 9)] sc_is_rule_any.nd (di_zip B.z_zip (de_var 6) (de_slice (de_var 6) (do_some de_int) do_none)) (own_pair 8 9 fun _ _ _ _ _ => pg_tup rfl (pgs_cons (pg_name (i := 8) sc_is_rule_any.nd rfl (Or.inl rfl)) (pgs_cons (pg_name (i := 9) sc_is_rule_any.nd rfl (Or.inl rfl)) pgs_nil))) (fun _ _ _ _ _ => dts_nil) (fun _ _ _ _ _ => (de_fn h_is_less (hr.mono (by decide)) hgd (da_cons (de_var 8) (da_cons (de_var 9) da_nil)) (fun _ _ _ _ _ _ us ws h1 h2 => match us, ws, h1, h2 with | [_, _], [], _, _ => ⟨rfl, rfl⟩))))))) (dss_one (ds_ret de_bl)) dss_nil) (dss_one (ds_ret (de_ofB (s_all rfl) B.z_all bt_all (dl_lc [("many", 7), ("post", 10)] sc_is_rule_any.nd (di_enum2 B.z_enumerate (de_slice (de_var 6) (do_some de_int) do_none)) (own_pair 7 10 fun _ _ _ _ _ => pg_tup rfl (pgs_cons (pg_name (i := 7) sc_is_rule_any.nd rfl (Or.inl rfl)) (pgs_cons (pg_name (i := 10) sc_is_rule_any.nd rfl (Or.inl rfl)) pgs_nil))) (fun _ _ _ _ _ => dts_nil) (fun _ _ _ _ _ => (de_and (de_fn h_is_at_most (hr.mono (by decide)) hgd (da_cons (de_tup (da_cons (de_var 7) (da_cons de_int da_nil))) (da_cons (de_var 10) da_nil)) (fun _ _ _ _ _ _ us ws h1 h2 => match us, ws, h1, h2 with | [_, _], [], _, _ => ⟨rfl, rfl⟩)) (de_one (de_fn h_is_at_most (hr.mono (by decide)) hgd (da_cons (de_var 10) (da_cons (de_tup (da_cons (de_op o_plus (de_var 7) de_int) (da_cons de_int da_nil))) da_nil)) (fun _ _ _ _ _ _ us ws h1 h2 => match us, ws, h1, h2 with | [_, _], [], _, _ => ⟨rfl, rfl⟩))))))))))))))),
    pf_is_rule_any⟩
abbrev S_want_votes : Stmt := topS 31
theorem sc_want_votes : FnScope ["votes"] ["votes"] (defScope S_want_votes) := ⟨rfl, rfl, rfl, by decide +kernel, rfl, by decide +kernel, by decide +kernel⟩
theorem has_want_votes (h_is_row_of_votes : Has P w K mg base 3 "is_row_of_votes" S_is_row_of_votes ["value"] sp_is_row_of_votes) (T : Txt K mg "want_votes" S_want_votes) : Has P w K mg base 4 "want_votes" S_want_votes ["votes"] sp_want_votes :=
  T.has sc_want_votes len_want_votes fun f cdv A outer s H hr hgd => ⟨db_want_votes,
    (dss_one (ds_if (dt_not (dt_val (de_fn h_is_row_of_votes (hr.mono (by decide)) hgd (da_cons (de_var 0) da_nil) (fun _ _ _ _ _ _ us ws h1 h2 => match us, ws, h1, h2 with | [_], [], _, _ => ⟨rfl, rfl⟩)))) (dss_one ds_never) dss_nil)),
    pf_want_votes⟩
abbrev S_price_at : Stmt := topS 32
theorem sc_price_at : FnScope ["rule", "votes", "many", "post"] ["rule", "votes", "many"] (defScope S_price_at) := ⟨rfl, rfl, rfl, by decide +kernel, rfl, by decide +kernel, by decide +kernel⟩
theorem has_price_at (h_signpost : Has P w K mg base 3 "signpost" S_signpost ["rule", "many"] sp_signpost) (h_lowest : Has P w K mg base 2 "lowest" S_lowest ["top", "bottom"] sp_lowest) (T : Txt K mg "price_at" S_price_at) : Has P w K mg base 4 "price_at" S_price_at ["rule", "votes", "many"] sp_price_at :=
  T.has sc_price_at len_price_at fun f cdv A outer s H hr hgd => ⟨db_price_at,
    (dss_cons (ds_asg (de_fn h_signpost (hr.mono (by decide)) hgd (da_cons (de_var 0) (da_cons (de_var 2) da_nil)) (fun _ _ _ _ _ _ us ws h1 h2 => match us, ws, h1, h2 with | [_, _], [], _, _ => ⟨rfl, rfl⟩)) (dg_name 3 sc_price_at.nd)) (dss_one (ds_ret (de_fn h_lowest (hr.mono (by decide)) hgd (da_cons (de_op o_times (de_var 1) (de_ix (de_var 3) de_int)) (da_cons (de_ix (de_var 3) de_int) da_nil)) (fun _ _ _ _ _ _ us ws h1 h2 => match us, ws, h1, h2 with | [_, _], [], _, _ => ⟨rfl, rfl⟩))))),
    pf_price_at⟩
abbrev S_law_price : Stmt := topS 50
theorem sc_law_price : FnScope ["rule", "votes", "many", "post"] ["rule", "votes", "many"] (defScope S_law_price) := ⟨rfl, rfl, rfl, by decide +kernel, rfl, by decide +kernel, by decide +kernel⟩
theorem has_law_price (h_law_post : Has P w K mg base 3 "_law_post" S_law_post ["rule", "many"] sp_law_post) (h_law_lowest : Has P w K mg base 2 "_law_lowest" S_law_lowest ["top", "bottom"] sp_law_lowest) (T : Txt K mg "_law_price" S_law_price) : Has P w K mg base 4 "_law_price" S_law_price ["rule", "votes", "many"] sp_law_price :=
  T.has sc_law_price len_law_price fun f cdv A outer s H hr hgd => ⟨db_law_price,
    (dss_cons (ds_asg (de_fn h_law_post (hr.mono (by decide)) hgd (da_cons (de_var 0) (da_cons (de_var 2) da_nil)) (fun _ _ _ _ _ _ us ws h1 h2 => match us, ws, h1, h2 with | [_, _], [], _, _ => ⟨rfl, rfl⟩)) (dg_name 3 sc_law_price.nd)) (dss_one (ds_ret (de_fn h_law_lowest (hr.mono (by decide)) hgd (da_cons (de_op o_times (de_var 1) (de_ix (de_var 3) de_int)) (da_cons (de_ix (de_var 3) de_int) da_nil)) (fun _ _ _ _ _ _ us ws h1 h2 => match us, ws, h1, h2 with | [_, _], [], _, _ => ⟨rfl, rfl⟩))))),
    pf_law_price⟩
abbrev S_law_drawn : Stmt := topS 53
theorem sc_law_drawn : FnScope ["pot", "votes", "by", "one"] ["pot"] (defScope S_law_drawn) := ⟨rfl, rfl, rfl, by decide +kernel, rfl, by decide +kernel, by decide +kernel⟩
theorem has_law_drawn (B : Bt mg) (h_law_pick : Has P w K mg base 2 "_law_pick" S_law_pick ["pot", "some"] sp_law_pick) (h_law_draw : Has P w K mg base 1 "_law_draw" S_law_draw ["pot", "many"] sp_law_draw) (h_law_votes : Has P w K mg base 3 "_law_votes" S_law_votes ["pot", "lists", "great"] sp_law_votes) (T : Txt K mg "_law_drawn" S_law_drawn) : Has P w K mg base 4 "_law_drawn" S_law_drawn ["pot"] sp_law_drawn :=
  T.has sc_law_drawn len_law_drawn fun f cdv A outer s H hr hgd => ⟨db_law_drawn,
    (dss_cons (ds_asg (de_fn h_law_votes (hr.mono (by decide)) hgd (da_cons (de_var 0) (da_cons (de_op o_plus de_int (de_fn h_law_draw (hr.mono (by decide)) hgd (da_cons (de_var 0) (da_cons (de_fn h_law_pick (hr.mono (by decide)) hgd (da_cons (de_var 0) (da_cons (de_new (dl_lst (da_cons de_int (da_cons de_int (da_cons de_int da_nil))))) da_nil)) (fun _ _ _ _ _ _ us ws h1 h2 => match us, ws, h1, h2 with | [_, _], [], _, _ => ⟨rfl, rfl⟩)) da_nil)) (fun _ _ _ _ _ _ us ws h1 h2 => match us, ws, h1, h2 with | [_, _], [], _, _ => ⟨rfl, rfl⟩))) (da_cons de_bl da_nil))) (fun _ _ _ _ _ _ us ws h1 h2 => match us, ws, h1, h2 with | [_, _, _], [], _, _ => ⟨rfl, rfl⟩)) (dg_name 1 sc_law_drawn.nd)) (dss_cons (ds_if (dt_cmp (o_eq hr.units) (de_fn h_law_draw (hr.mono (by decide)) hgd (da_cons (de_var 0) (da_cons de_int da_nil)) (fun _ _ _ _ _ _ us ws h1 h2 => match us, ws, h1, h2 with | [_, _], [], _, _ => ⟨rfl, rfl⟩)) de_int) (dss_cons (ds_asg (de_op o_plus de_int (de_fn h_law_draw (hr.mono (by decide)) hgd (da_cons (de_var 0) (da_cons de_int da_nil)) (fun _ _ _ _ _ _ us ws h1 h2 => match us, ws, h1, h2 with | [_, _], [], _, _ => ⟨rfl, rfl⟩))) (dg_name 2 sc_law_drawn.nd)) (dss_one (ds_asg (de_ofTy s_tup B.z_tuple bt_tuple (dl_lc [("one", 3)] sc_law_drawn.nd (di_seq (de_var 1)) (own_name 3 fun _ _ _ _ _ => pg_name sc_law_drawn.nd rfl (Or.inl rfl)) (fun _ _ _ _ _ => dts_nil) (fun _ _ _ _ _ => (de_fn h_law_pick (hr.mono (by decide)) hgd (da_cons (de_var 0) (da_cons (de_new (dl_lst (da_cons (de_var 2) (da_cons (de_op o_times de_int (de_var 2)) (da_cons (de_op o_times de_int (de_var 2)) (da_cons de_int (da_cons de_int da_nil))))))) da_nil)) (fun _ _ _ _ _ _ us ws h1 h2 => match us, ws, h1, h2 with | [_, _], [], _, _ => ⟨rfl, rfl⟩))))) (dg_name 1 sc_law_drawn.nd)))) dss_nil) (dss_one (ds_ret (de_var 1))))),
    pf_law_drawn⟩
abbrev S_want_rule : Stmt := topS 24
theorem sc_want_rule : FnScope ["rule"] ["rule"] (defScope S_want_rule) := ⟨rfl, rfl, rfl, by decide +kernel, rfl, by decide +kernel, by decide +kernel⟩
theorem has_want_rule (h_is_rule_any : Has P w K mg base 4 "is_rule_any" S_is_rule_any ["value"] sp_is_rule_any) (T : Txt K mg "want_rule" S_want_rule) : Has P w K mg base 5 "want_rule" S_want_rule ["rule"] sp_want_rule :=
  T.has sc_want_rule len_want_rule fun f cdv A outer s H hr hgd => ⟨db_want_rule,
    (dss_one (ds_if (dt_not (dt_val (de_fn h_is_rule_any (hr.mono (by decide)) hgd (da_cons (de_var 0) da_nil) (fun _ _ _ _ _ _ us ws h1 h2 => match us, ws, h1, h2 with | [_], [], _, _ => ⟨rfl, rfl⟩)))) (dss_one ds_never) dss_nil)),
    pf_want_rule⟩
abbrev S_next_step : Stmt := topS 37
theorem sc_next_step : FnScope ["rule", "votes", "seats", "some", "at", "one", "best", "worth"] ["rule", "votes", "seats"] (defScope S_next_step) := ⟨rfl, rfl, rfl, by decide +kernel, rfl, by decide +kernel, by decide +kernel⟩
theorem has_next_step (B : Bt mg) (h_price_at : Has P w K mg base 4 "price_at" S_price_at ["rule", "votes", "many"] sp_price_at) (h_most_of : Has P w K mg base 2 "most_of" S_most_of ["some"] sp_most_of) (T : Txt K mg "next_step" S_next_step) : Has P w K mg base 5 "next_step" S_next_step ["rule", "votes", "seats"] sp_next_step :=
  T.has sc_next_step len_next_step fun f cdv A outer s H hr hgd => ⟨db_next_step,
    (dss_cons (ds_setLc 3 [("at", 4), ("one", 5)] sc_next_step.nd (di_enum2 B.z_enumerate (de_var 1)) (own_pair 4 5 fun _ _ _ _ _ => pg_tup rfl (pgs_cons (pg_name (i := 4) sc_next_step.nd rfl (Or.inl rfl)) (pgs_cons (pg_name (i := 5) sc_next_step.nd rfl (Or.inl rfl)) pgs_nil))) (fun _ _ _ _ _ => (dts_one (dt_cmp o_gt (de_var 5) de_int))) (fun _ _ _ _ _ => (de_tup (da_cons (de_var 4) (da_cons (de_fn h_price_at (hr.mono (by decide)) hgd (da_cons (de_var 0) (da_cons (de_var 5) (da_cons (de_op o_plus (de_ix (de_var 2) (de_var 4)) de_int) da_nil))) (fun _ _ _ _ _ _ us ws h1 h2 => match us, ws, h1, h2 with | [_, _, _], [], _, _ => ⟨rfl, rfl⟩)) da_nil))))) (dss_cons (ds_asg (de_fn h_most_of (hr.mono (by decide)) hgd (da_cons (de_new (dl_lc [("at", 4), ("worth", 7)] sc_next_step.nd (di_seq (de_var 3)) (own_pair 4 7 fun _ _ _ _ _ => pg_tup rfl (pgs_cons (pg_name (i := 4) sc_next_step.nd rfl (Or.inl rfl)) (pgs_cons (pg_name (i := 7) sc_next_step.nd rfl (Or.inl rfl)) pgs_nil))) (fun _ _ _ _ _ => dts_nil) (fun _ _ _ _ _ => (de_var 7)))) da_nil) (fun _ _ _ _ _ _ us ws h1 h2 => match us, ws, h1, h2 with | [_], [], _, _ => ⟨rfl, rfl⟩)) (dg_name 6 sc_next_step.nd)) (dss_one (ds_ret (de_if (dt_cmp o_isN (de_var 6) de_non) de_non (de_tup (da_cons (de_var 6) (da_cons (de_ofTy s_tup B.z_tuple bt_tuple (dl_lc [("at", 4), ("worth", 7)] sc_next_step.nd (di_seq (de_var 3)) (own_pair 4 7 fun _ _ _ _ _ => pg_tup rfl (pgs_cons (pg_name (i := 4) sc_next_step.nd rfl (Or.inl rfl)) (pgs_cons (pg_name (i := 7) sc_next_step.nd rfl (Or.inl rfl)) pgs_nil))) (fun _ _ _ _ _ => (dts_one (dt_cmp (o_eq hr.units) (de_var 7) (de_var 6)))) (fun _ _ _ _ _ => (de_var 4)))) da_nil)))))))),
    pf_next_step⟩
abbrev S_law_row : Stmt := topS 52
theorem sc_law_row : FnScope ["rule", "votes", "house", "rows", "at", "one", "many", "found", "seats", "best", "worth", "lot", "row"] ["rule", "votes", "house"] (defScope S_law_row) := ⟨rfl, rfl, rfl, by decide +kernel, rfl, by decide +kernel, by decide +kernel⟩
theorem has_law_row (B : Bt mg) (h_law_price : Has P w K mg base 4 "_law_price" S_law_price ["rule", "votes", "many"] sp_law_price) (h_law_below : Has P w K mg base 1 "_law_below" S_law_below ["near", "far"] sp_law_below) (T : Txt K mg "_law_row" S_law_row) : Has P w K mg base 5 "_law_row" S_law_row ["rule", "votes", "house"] sp_law_row :=
  T.has sc_law_row len_law_row fun f cdv A outer s H hr hgd => ⟨db_law_row,
    (dss_cons (ds_asg (de_new (dl_lst da_nil)) (dg_name 3 sc_law_row.nd)) (dss_cons (ds_for (di_enum2 B.z_enumerate (de_var 1)) (dg_tup (dgs_cons (dg_name 4 sc_law_row.nd) (dgs_cons (dg_name 5 sc_law_row.nd) dgs_nil))) (dss_one (ds_expr (de_extendL (de_var 3) (dl_if (dt_cmp o_gt (de_var 5) de_int) (dl_lc [("many", 6)] sc_law_row.nd (di_r2 B.z_range (da_cons de_int (da_cons (de_op o_plus (de_var 2) de_int) da_nil))) (own_name 6 fun _ _ _ _ _ => pg_name sc_law_row.nd rfl (Or.inl rfl)) (fun _ _ _ _ _ => dts_nil) (fun _ _ _ _ _ => (de_tup (da_cons (de_var 4) (da_cons (de_fn h_law_price (hr.mono (by decide)) hgd (da_cons (de_var 0) (da_cons (de_var 5) (da_cons (de_var 6) da_nil))) (fun _ _ _ _ _ _ us ws h1 h2 => match us, ws, h1, h2 with | [_, _, _], [], _, _ => ⟨rfl, rfl⟩)) da_nil))))) (dl_lst da_nil)))))) (dss_cons (ds_par 7 8 sc_law_row.nd (da_cons (de_new (dl_lst da_nil)) (da_cons de_int da_nil))) (dss_cons (ds_while (PWD.pt (dw_and (dt_cmp (o_ne hr.units) (de_var 3) (de_new (dl_lst da_nil))) (dw_and1 (dt_cmp o_lt (de_var 8) (de_var 2))))) (dss_cons (ds_asg (de_ix (de_ix (de_var 3) de_int) de_int) (dg_name 9 sc_law_row.nd)) (dss_cons (ds_for (di_seq (de_var 3)) (dg_tup (dgs_cons (dg_name 4 sc_law_row.nd) (dgs_cons (dg_name 10 sc_law_row.nd) dgs_nil))) (dss_one (ds_asg (de_if (dt_val (de_fn h_law_below (hr.mono (by decide)) hgd (da_cons (de_var 9) (da_cons (de_var 10) da_nil)) (fun _ _ _ _ _ _ us ws h1 h2 => match us, ws, h1, h2 with | [_, _], [], _, _ => ⟨rfl, rfl⟩))) (de_var 10) (de_var 9)) (dg_name 9 sc_law_row.nd)))) (dss_cons (ds_asg (de_ofTy s_tup B.z_tuple bt_tuple (dl_lc [("at", 4), ("worth", 10)] sc_law_row.nd (di_seq (de_var 3)) (own_pair 4 10 fun _ _ _ _ _ => pg_tup rfl (pgs_cons (pg_name (i := 4) sc_law_row.nd rfl (Or.inl rfl)) (pgs_cons (pg_name (i := 10) sc_law_row.nd rfl (Or.inl rfl)) pgs_nil))) (fun _ _ _ _ _ => (dts_one (dt_cmp (o_eq hr.units) (de_var 10) (de_var 9)))) (fun _ _ _ _ _ => (de_var 4)))) (dg_name 11 sc_law_row.nd)) (dss_cons (ds_expr (de_append (de_var 7) (de_tup (da_cons (de_var 9) (da_cons (de_var 11) da_nil))))) (dss_one (ds_par 3 8 sc_law_row.nd (da_cons (de_new (dl_lc [("row", 12)] sc_law_row.nd (di_seq (de_var 3)) (own_name 12 fun _ _ _ _ _ => pg_name sc_law_row.nd rfl (Or.inl rfl)) (fun _ _ _ _ _ => (dts_one (dt_cmp (o_ne hr.units) (de_ix (de_var 12) de_int) (de_var 9)))) (fun _ _ _ _ _ => (de_var 12)))) (da_cons (de_op o_plus (de_var 8) (de_callB c_len B.z_len bt_len (da_cons (de_var 11) da_nil))) da_nil))))))))) (dss_one (ds_ret (de_var 7))))))),
    pf_law_row⟩
abbrev S_steps_to : Stmt := topS 38
theorem sc_steps_to : FnScope ["rule", "votes", "house", "found", "seats", "ahead", "step", "at"] ["rule", "votes", "house"] (defScope S_steps_to) := ⟨rfl, rfl, rfl, by decide +kernel, rfl, by decide +kernel, by decide +kernel⟩
theorem has_steps_to (B : Bt mg) (h_next_step : Has P w K mg base 5 "next_step" S_next_step ["rule", "votes", "seats"] sp_next_step) (T : Txt K mg "steps_to" S_steps_to) : Has P w K mg base 6 "steps_to" S_steps_to ["rule", "votes", "house"] sp_steps_to :=
  T.has sc_steps_to len_steps_to fun f cdv A outer s H hr hgd => ⟨db_steps_to,
    (dss_cons (ds_par3 3 4 5 sc_steps_to.nd (da_cons (de_new (dl_lst da_nil)) (da_cons (de_op o_times (de_new (dl_lst (da_cons de_int da_nil))) (de_callB c_len B.z_len bt_len (da_cons (de_var 1) da_nil))) (da_cons (de_op o_times (de_new (dl_lst (da_cons de_int da_nil))) (de_callB c_len B.z_len bt_len (da_cons (de_var 1) da_nil))) da_nil)))) (dss_cons (ds_while (dt_cmp o_lt (de_callB (s_sum rfl).call B.z_sum bt_sum (da_cons (de_var 4) da_nil)) (de_var 2)) (dss_cons (ds_asg (de_fn h_next_step (hr.mono (by decide)) hgd (da_cons (de_var 0) (da_cons (de_var 1) (da_cons (de_var 4) da_nil))) (fun _ _ _ _ _ _ us ws h1 h2 => match us, ws, h1, h2 with | [_, _, _], [], _, _ => ⟨rfl, rfl⟩)) (dg_name 6 sc_steps_to.nd)) (dss_cons (ds_if (dt_cmp o_isN (de_var 6) de_non) (dss_one ds_break) dss_nil) (dss_cons (ds_asg (de_new (dl_callTy s_lst.call B.z_list bt_list (da_cons (de_var 4) da_nil))) (dg_name 5 sc_steps_to.nd)) (dss_cons (ds_for (di_seq (de_ix (de_var 6) de_int)) (dg_name 7 sc_steps_to.nd) (dss_one (ds_asg (de_op o_plus (de_ix (de_var 4) (de_var 7)) de_int) (dg_sub (de_var 4) (de_var 7))))) (dss_one (ds_expr (de_append (de_var 3) (de_var 6))))))))) (dss_one (ds_ret (de_tup (da_cons (de_var 3) (da_cons (de_var 5) da_nil))))))),
    pf_steps_to⟩
abbrev S_price : Stmt := topS 39
theorem sc_price : FnScope ["rule", "votes", "number", "many"] ["rule", "votes", "number", "many"] (defScope S_price) := ⟨rfl, rfl, rfl, by decide +kernel, rfl, by decide +kernel, by decide +kernel⟩
theorem has_price (h_want_rule : Has P w K mg base 5 "want_rule" S_want_rule ["rule"] sp_want_rule) (h_want_votes : Has P w K mg base 4 "want_votes" S_want_votes ["votes"] sp_want_votes) (h_want_number : Has P w K mg base 3 "want_number" S_want_number ["votes", "number"] sp_want_number) (h_want_seats : Has P w K mg base 3 "want_seats" S_want_seats ["many", "least"] sp_want_seats) (h_price_at : Has P w K mg base 4 "price_at" S_price_at ["rule", "votes", "many"] sp_price_at) (T : Txt K mg "price" S_price) : Has P w K mg base 6 "price" S_price ["rule", "votes", "number", "many"] sp_price :=
  T.has sc_price len_price fun f cdv A outer s H hr hgd => ⟨db_price,
    (dss_cons (ds_expr (de_fn h_want_rule (hr.mono (by decide)) hgd (da_cons (de_var 0) da_nil) (fun _ _ _ _ _ _ us ws h1 h2 => match us, ws, h1, h2 with | [_], [], _, _ => ⟨rfl, rfl⟩))) (dss_cons (ds_expr (de_fn h_want_votes (hr.mono (by decide)) hgd (da_cons (de_var 1) da_nil) (fun _ _ _ _ _ _ us ws h1 h2 => match us, ws, h1, h2 with | [_], [], _, _ => ⟨rfl, rfl⟩))) (dss_cons (ds_expr (de_fn h_want_number (hr.mono (by decide)) hgd (da_cons (de_var 1) (da_cons (de_var 2) da_nil)) (fun _ _ _ _ _ _ us ws h1 h2 => match us, ws, h1, h2 with | [_, _], [], _, _ => ⟨rfl, rfl⟩))) (dss_cons (ds_expr (de_fn h_want_seats (hr.mono (by decide)) hgd (da_cons (de_var 3) (da_cons de_int da_nil)) (fun _ _ _ _ _ _ us ws h1 h2 => match us, ws, h1, h2 with | [_, _], [], _, _ => ⟨rfl, rfl⟩))) (dss_one (ds_ret (de_fn h_price_at (hr.mono (by decide)) hgd (da_cons (de_var 0) (da_cons (de_ix (de_var 1) (de_var 2)) (da_cons (de_var 3) da_nil))) (fun _ _ _ _ _ _ us ws h1 h2 => match us, ws, h1, h2 with | [_, _, _], [], _, _ => ⟨rfl, rfl⟩)))))))),
    pf_price⟩
abbrev S_row_of_seats : Stmt := topS 40
theorem sc_row_of_seats : FnScope ["rule", "votes", "house"] ["rule", "votes", "house"] (defScope S_row_of_seats) := ⟨rfl, rfl, rfl, by decide +kernel, rfl, by decide +kernel, by decide +kernel⟩
theorem has_row_of_seats (h_want_rule : Has P w K mg base 5 "want_rule" S_want_rule ["rule"] sp_want_rule) (h_want_votes : Has P w K mg base 4 "want_votes" S_want_votes ["votes"] sp_want_votes) (h_want_house : Has P w K mg base 3 "want_house" S_want_house ["house"] sp_want_house) (h_steps_to : Has P w K mg base 6 "steps_to" S_steps_to ["rule", "votes", "house"] sp_steps_to) (T : Txt K mg "row_of_seats" S_row_of_seats) : Has P w K mg base 7 "row_of_seats" S_row_of_seats ["rule", "votes", "house"] sp_row_of_seats :=
  T.has sc_row_of_seats len_row_of_seats fun f cdv A outer s H hr hgd => ⟨db_row_of_seats,
    (dss_cons (ds_expr (de_fn h_want_rule (hr.mono (by decide)) hgd (da_cons (de_var 0) da_nil) (fun _ _ _ _ _ _ us ws h1 h2 => match us, ws, h1, h2 with | [_], [], _, _ => ⟨rfl, rfl⟩))) (dss_cons (ds_expr (de_fn h_want_votes (hr.mono (by decide)) hgd (da_cons (de_var 1) da_nil) (fun _ _ _ _ _ _ us ws h1 h2 => match us, ws, h1, h2 with | [_], [], _, _ => ⟨rfl, rfl⟩))) (dss_cons (ds_expr (de_fn h_want_house (hr.mono (by decide)) hgd (da_cons (de_var 2) da_nil) (fun _ _ _ _ _ _ us ws h1 h2 => match us, ws, h1, h2 with | [_], [], _, _ => ⟨rfl, rfl⟩))) (dss_one (ds_ret (de_ix (de_fn h_steps_to (hr.mono (by decide)) hgd (da_cons (de_var 0) (da_cons (de_var 1) (da_cons (de_var 2) da_nil))) (fun _ _ _ _ _ _ us ws h1 h2 => match us, ws, h1, h2 with | [_, _, _], [], _, _ => ⟨rfl, rfl⟩)) de_int)))))),
    pf_row_of_seats⟩
abbrev S_law_right : Stmt := topS 54
theorem sc_law_right : FnScope ["pot", "rule", "votes", "house", "shown", "due", "told", "step", "at", "many", "worth", "alone", "late"] ["pot"] (defScope S_law_right) := ⟨rfl, rfl, rfl, by decide +kernel, rfl, by decide +kernel, by decide +kernel⟩
theorem has_law_right (B : Bt mg) (h_law_pick : Has P w K mg base 2 "_law_pick" S_law_pick ["pot", "some"] sp_law_pick) (h_law_drawn : Has P w K mg base 4 "_law_drawn" S_law_drawn ["pot"] sp_law_drawn) (h_law_rule : Has P w K mg base 3 "_law_rule" S_law_rule ["pot"] sp_law_rule) (h_law_draw : Has P w K mg base 1 "_law_draw" S_law_draw ["pot", "many"] sp_law_draw) (h_law_row : Has P w K mg base 5 "_law_row" S_law_row ["rule", "votes", "house"] sp_law_row) (h_row_of_seats : Has P w K mg base 7 "row_of_seats" S_row_of_seats ["rule", "votes", "house"] sp_row_of_seats) (h_law_price : Has P w K mg base 4 "_law_price" S_law_price ["rule", "votes", "many"] sp_law_price) (h_price : Has P w K mg base 6 "price" S_price ["rule", "votes", "number", "many"] sp_price) (T : Txt K mg "_law_right" S_law_right) : Has P w K mg base 8 "_law_right" S_law_right ["pot"] sp_law_right :=
  T.has sc_law_right len_law_right fun f cdv A outer s H hr hgd => ⟨db_law_right,
    (dss_cons (ds_asg (de_tup (da_cons (de_fn h_law_rule (hr.mono (by decide)) hgd (da_cons (de_var 0) da_nil) (fun _ _ _ _ _ _ us ws h1 h2 => match us, ws, h1, h2 with | [_], [], _, _ => ⟨rfl, rfl⟩)) (da_cons (de_fn h_law_drawn (hr.mono (by decide)) hgd (da_cons (de_var 0) da_nil) (fun _ _ _ _ _ _ us ws h1 h2 => match us, ws, h1, h2 with | [_], [], _, _ => ⟨rfl, rfl⟩)) (da_cons (de_fn h_law_pick (hr.mono (by decide)) hgd (da_cons (de_var 0) (da_cons (de_new (dl_lst (da_cons de_int (da_cons de_int (da_cons de_int (da_cons de_int (da_cons de_int (da_cons de_int da_nil)))))))) da_nil)) (fun _ _ _ _ _ _ us ws h1 h2 => match us, ws, h1, h2 with | [_, _], [], _, _ => ⟨rfl, rfl⟩)) da_nil)))) (dg_tup (dgs_cons (dg_name 1 sc_law_right.nd) (dgs_cons (dg_name 2 sc_law_right.nd) (dgs_cons (dg_name 3 sc_law_right.nd) dgs_nil))))) (dss_cons (ds_if (PWD.pt (dw_and (dt_cmp o_lt (de_callB c_len B.z_len bt_len (da_cons (de_var 2) da_nil)) de_int) (dw_and1 (dt_cmp (o_eq hr.units) (de_fn h_law_draw (hr.mono (by decide)) hgd (da_cons (de_var 0) (da_cons de_int da_nil)) (fun _ _ _ _ _ _ us ws h1 h2 => match us, ws, h1, h2 with | [_, _], [], _, _ => ⟨rfl, rfl⟩)) de_int)))) (dss_one (ds_asg (de_fn h_law_pick (hr.mono (by decide)) hgd (da_cons (de_var 0) (da_cons (de_new (dl_lst (da_cons de_int (da_cons de_int da_nil)))) da_nil)) (fun _ _ _ _ _ _ us ws h1 h2 => match us, ws, h1, h2 with | [_, _], [], _, _ => ⟨rfl, rfl⟩)) (dg_name 3 sc_law_right.nd))) dss_nil) (dss_cons (ds_par 4 5 sc_law_right.nd (da_cons (de_callB (c_repr hgd hr.units) B.z_repr bt_repr (da_cons (de_new (dl_lst (da_cons (de_var 1) (da_cons (de_var 2) da_nil)))) da_nil)) (da_cons (de_fn h_law_row (hr.mono (by decide)) hgd (da_cons (de_var 1) (da_cons (de_var 2) (da_cons (de_var 3) da_nil))) (fun _ _ _ _ _ _ us ws h1 h2 => match us, ws, h1, h2 with | [_, _, _], [], _, _ => ⟨rfl, rfl⟩)) da_nil))) (dss_cons (ds_asg (de_fn h_row_of_seats (hr.mono (by decide)) hgd (da_cons (de_var 1) (da_cons (de_var 2) (da_cons (de_var 3) da_nil))) (fun _ _ _ _ _ _ us ws h1 h2 => match us, ws, h1, h2 with | [_, _, _], [], _, _ => ⟨rfl, rfl⟩)) (dg_name 6 sc_law_right.nd)) (dss_cons (ds_if (dt_cmp (o_ne hr.units) (de_callB (c_repr hgd hr.units) B.z_repr bt_repr (da_cons (de_new (dl_lst (da_cons (de_var 6) (da_cons (de_fnK (ks := ["house", "votes", "rule"]) [2, 1, 0] h_row_of_seats (hr.mono (by decide)) hgd (dk_cons (de_var 3) (dk_cons (de_var 2) (dk_cons (de_var 1) dk_nil))) (fun _ _ _ _ _ _ us ws h1 h2 => match us, ws, h1, h2 with | [], [_, _, _], _, _ => ⟨rfl, rfl⟩)) da_nil)))) da_nil)) (de_callB (c_repr hgd hr.units) B.z_repr bt_repr (da_cons (de_new (dl_lst (da_cons (de_var 5) (da_cons (de_var 5) da_nil)))) da_nil))) (dss_one (ds_ret de_bl)) dss_nil) (dss_cons (ds_expr (de_append (de_var 6) de_non)) (dss_cons (ds_for (di_r1 B.z_range (da_cons de_int da_nil)) (dg_name 7 sc_law_right.nd) (dss_cons (ds_par 8 9 sc_law_right.nd (da_cons (de_fn h_law_draw (hr.mono (by decide)) hgd (da_cons (de_var 0) (da_cons (de_callB c_len B.z_len bt_len (da_cons (de_var 2) da_nil)) da_nil)) (fun _ _ _ _ _ _ us ws h1 h2 => match us, ws, h1, h2 with | [_, _], [], _, _ => ⟨rfl, rfl⟩)) (da_cons (de_fn h_law_pick (hr.mono (by decide)) hgd (da_cons (de_var 0) (da_cons (de_new (dl_lst (da_cons de_int (da_cons de_int (da_cons de_int (da_cons de_int (da_cons de_int (da_cons de_int da_nil)))))))) da_nil)) (fun _ _ _ _ _ _ us ws h1 h2 => match us, ws, h1, h2 with | [_, _], [], _, _ => ⟨rfl, rfl⟩)) da_nil))) (dss_cons (ds_asg (de_fn h_law_price (hr.mono (by decide)) hgd (da_cons (de_var 1) (da_cons (de_ix (de_var 2) (de_var 8)) (da_cons (de_var 9) da_nil))) (fun _ _ _ _ _ _ us ws h1 h2 => match us, ws, h1, h2 with | [_, _, _], [], _, _ => ⟨rfl, rfl⟩)) (dg_name 10 sc_law_right.nd)) (dss_one (ds_if (dt_cmp (o_ne hr.units) (de_callB (c_repr hgd hr.units) B.z_repr bt_repr (da_cons (de_new (dl_lst (da_cons (de_fn h_price (hr.mono (by decide)) hgd (da_cons (de_var 1) (da_cons (de_var 2) (da_cons (de_var 8) (da_cons (de_var 9) da_nil)))) (fun _ _ _ _ _ _ us ws h1 h2 => match us, ws, h1, h2 with | [_, _, _, _], [], _, _ => ⟨rfl, rfl⟩)) (da_cons (de_fnK (ks := ["many", "number", "votes", "rule"]) [3, 2, 1, 0] h_price (hr.mono (by decide)) hgd (dk_cons (de_var 9) (dk_cons (de_var 8) (dk_cons (de_var 2) (dk_cons (de_var 1) dk_nil)))) (fun _ _ _ _ _ _ us ws h1 h2 => match us, ws, h1, h2 with | [], [_, _, _, _], _, _ => ⟨rfl, rfl⟩)) da_nil)))) da_nil)) (de_callB (c_repr hgd hr.units) B.z_repr bt_repr (da_cons (de_new (dl_lst (da_cons (de_var 10) (da_cons (de_var 10) da_nil)))) da_nil))) (dss_one (ds_ret de_bl)) dss_nil))))) (dss_cons (ds_asg (de_callB (c_min rfl) B.z_min bt_min (da_cons (de_op o_pow de_int de_int) (da_cons (de_op o_plus (de_ix (de_var 2) de_int) de_int) da_nil))) (dg_name 11 sc_law_right.nd)) (dss_cons (ds_setLc 12 [("many", 9)] sc_law_right.nd (di_r2 B.z_range (da_cons de_int (da_cons de_int da_nil))) (own_name 9 fun _ _ _ _ _ => pg_name sc_law_right.nd rfl (Or.inl rfl)) (fun _ _ _ _ _ => dts_nil) (fun _ _ _ _ _ => (de_tup (da_cons (de_fn h_law_price (hr.mono (by decide)) hgd (da_cons (de_var 1) (da_cons (de_var 11) (da_cons (de_var 9) da_nil))) (fun _ _ _ _ _ _ us ws h1 h2 => match us, ws, h1, h2 with | [_, _, _], [], _, _ => ⟨rfl, rfl⟩)) (da_cons (de_tup (da_cons de_int da_nil)) da_nil))))) (dss_cons (ds_if (dt_cmp (o_ne hr.units) (de_fn h_row_of_seats (hr.mono (by decide)) hgd (da_cons (de_var 1) (da_cons (de_tup (da_cons de_int (da_cons (de_var 11) (da_cons de_int da_nil)))) (da_cons de_int da_nil))) (fun _ _ _ _ _ _ us ws h1 h2 => match us, ws, h1, h2 with | [_, _, _], [], _, _ => ⟨rfl, rfl⟩)) (de_var 12)) (dss_one (ds_ret de_bl)) dss_nil) (dss_one (ds_ret (de_and (de_cmp (o_eq hr.units) (de_callB (c_repr hgd hr.units) B.z_repr bt_repr (da_cons (de_fn h_row_of_seats (hr.mono (by decide)) hgd (da_cons (de_var 1) (da_cons (de_var 2) (da_cons (de_var 3) da_nil))) (fun _ _ _ _ _ _ us ws h1 h2 => match us, ws, h1, h2 with | [_, _, _], [], _, _ => ⟨rfl, rfl⟩)) da_nil)) (de_callB (c_repr hgd hr.units) B.z_repr bt_repr (da_cons (de_var 5) da_nil))) (de_one (de_cmp (o_eq hr.units) (de_callB (c_repr hgd hr.units) B.z_repr bt_repr (da_cons (de_new (dl_lst (da_cons (de_var 1) (da_cons (de_var 2) da_nil)))) da_nil)) (de_var 4)))))))))))))))),
    pf_law_right⟩
abbrev S_law : Stmt := topS 55
theorem sc_law : FnScope ["script", "k"] ["script"] (defScope S_law) := ⟨rfl, rfl, rfl, by decide +kernel, rfl, by decide +kernel, by decide +kernel⟩
theorem has_law (B : Bt mg) (h_law_pot : Has P w K mg base 1 "_law_pot" S_law_pot ["script", "k"] sp_law_pot) (h_law_right : Has P w K mg base 8 "_law_right" S_law_right ["pot"] sp_law_right) (T : Txt K mg "law" S_law) : Has P w K mg base 9 "law" S_law ["script"] sp_law :=
  T.has sc_law len_law fun f cdv A outer s H hr hgd => ⟨db_law,
    (dss_one (ds_ret (de_ofB (s_all rfl) B.z_all bt_all (dl_lc [("k", 1)] sc_law.nd (di_r1 B.z_range (da_cons (de_callB (c_max rfl) B.z_max bt_max (da_cons de_int (da_cons (de_callB (c_min rfl) B.z_min bt_min (da_cons de_int (da_cons (de_callB c_len B.z_len bt_len (da_cons (de_var 0) da_nil)) da_nil))) da_nil))) da_nil)) (own_name 1 fun _ _ _ _ _ => pg_name sc_law.nd rfl (Or.inl rfl)) (fun _ _ _ _ _ => dts_nil) (fun _ _ _ _ _ => (de_fn h_law_right (hr.mono (by decide)) hgd (da_cons (de_fn h_law_pot (hr.mono (by decide)) hgd (da_cons (de_var 0) (da_cons (de_var 1) da_nil)) (fun _ _ _ _ _ _ us ws h1 h2 => match us, ws, h1, h2 with | [_, _], [], _, _ => ⟨rfl, rfl⟩)) da_nil) (fun _ _ _ _ _ _ us ws h1 h2 => match us, ws, h1, h2 with | [_], [], _, _ => ⟨rfl, rfl⟩))))))),
    pf_law⟩
end
def defsL0 : List (Str × Stmt) := [("is_integer", S_is_integer), ("is_tuple", S_is_tuple), ("common", S_common), ("is_less", S_is_less), ("is_at_most", S_is_at_most), ("_law_pot", S_law_pot), ("_law_draw", S_law_draw), ("_law_divisor", S_law_divisor), ("_law_below", S_law_below), ("is_within", S_is_within), ("lowest", S_lowest), ("is_fraction_any", S_is_fraction_any), ("most_of", S_most_of), ("_law_pick", S_law_pick), ("_law_lowest", S_law_lowest), ("is_small", S_is_small), ("signpost", S_signpost), ("is_row_of_votes", S_is_row_of_votes), ("want_seats", S_want_seats), ("want_house", S_want_house), ("want_number", S_want_number), ("_law_rule", S_law_rule), ("_law_post", S_law_post), ("_law_votes", S_law_votes), ("is_rule_any", S_is_rule_any), ("want_votes", S_want_votes), ("price_at", S_price_at), ("_law_price", S_law_price), ("_law_drawn", S_law_drawn), ("want_rule", S_want_rule)]
def defsL1 : List (Str × Stmt) := [("next_step", S_next_step), ("_law_row", S_law_row), ("steps_to", S_steps_to), ("price", S_price), ("row_of_seats", S_row_of_seats), ("_law_right", S_law_right), ("law", S_law)]
def defsL : List (Str × Stmt) := defsL0 ++ defsL1
def fa0 : List He.Fa := [.glo "is_integer", .glo "is_tuple", .glo "common", .glo "is_less", .glo "is_at_most", .glo "_law_pot", .glo "_law_draw", .glo "_law_divisor", .glo "_law_below", .glo "is_within", .glo "lowest", .glo "is_fraction_any", .glo "most_of", .glo "_law_pick", .glo "_law_lowest", .glo "is_small", .glo "signpost", .glo "is_row_of_votes", .glo "want_seats", .glo "want_house", .glo "want_number", .glo "_law_rule", .glo "_law_post", .glo "_law_votes", .glo "is_rule_any", .glo "want_votes", .glo "price_at", .glo "_law_price", .glo "_law_drawn", .glo "want_rule"]
def fa1 : List He.Fa := [.glo "next_step", .glo "_law_row", .glo "steps_to", .glo "price", .glo "row_of_seats", .glo "_law_right", .glo "law", .free "abs", .free "all", .free "bool", .free "divmod", .free "enumerate", .free "int", .free "isinstance", .free "len", .free "list", .free "max", .free "min", .free "range", .free "repr", .free "str", .free "sum", .free "tuple", .free "zip", .int "MOST_BOTTOM" 999, .int "MOST_FIRSTS" 4, .int "MOST_HOUSE" 200, .int "MOST_LISTS" 12, .int "MOST_VOTES" 1000000000, .str "RULE" "rule"]
def fa : List He.Fa := fa0 ++ fa1
def names0 : List PySem.Str := ["is_integer", "is_within", "is_tuple", "WorkError", "InvalidMany", "InvalidHouse", "InvalidNumber", "InvalidRule", "InvalidVotes", "common", "lowest", "is_fraction_any", "is_less", "is_at_most", "most_of", "RULE", "MOST_FIRSTS", "MOST_BOTTOM", "is_small", "is_rule_any", "want_rule", "signpost", "MOST_LISTS", "MOST_VOTES", "MOST_HOUSE", "is_row_of_votes", "want_votes", "price_at", "want_seats", "want_house"]
def names1 : List PySem.Str := ["want_number", "next_step", "steps_to", "price", "row_of_seats", "_law_pot", "_law_draw", "_law_pick", "_law_divisor", "_law_lowest", "_law_rule", "_law_post", "_law_votes", "_law_price", "_law_below", "_law_row", "_law_drawn", "_law_right"]
def names : List PySem.Str := names0 ++ names1
def fn : List He.DefD := defsL.map mkD
abbrev topR : PySem.W.OpenRow := PySem.W.OpenLaw.row PySem.Challenge.rw_seatworks_k12_whole_prices_and_rows_of_s
abbrev topK : PySem.W.Hook := He.hookD 4 fa fn
def topB (s : PySem.W.SharedT) : He.AlD := He.obsDG 4 fa fn (HandSHeadRun.getT s)
theorem topB_eq (s : PySem.W.SharedT) : topB s = topK.obs s.abs := He.obsDG_eq (HandSHeadRun.getT_eq s)
theorem topRun (w : World) : HandSHeadRun.RunEq topR (PySem.W.view topR.prog [55]) topK topB 6000 names w := by
  intro os
  kernel_rfl
theorem law_has {P : Program} {w : World} {K : PySem.W.Frag} {h : Heap} {mg : Str → Option Value} (X : K.In h) (G : h.Ns mainGlobals mg) (c : He.SaysD fa fn K) (base : Heap) : Has P w K mg base 9 "law" S_law ["script"] sp_law := by
  have B : Bt mg := ⟨He.free_ok X G (c.fact 37 (f := .free "abs") rfl), He.free_ok X G (c.fact 38 (f := .free "all") rfl), He.free_ok X G (c.fact 39 (f := .free "bool") rfl), He.free_ok X G (c.fact 40 (f := .free "divmod") rfl), He.free_ok X G (c.fact 41 (f := .free "enumerate") rfl), He.free_ok X G (c.fact 42 (f := .free "int") rfl), He.free_ok X G (c.fact 43 (f := .free "isinstance") rfl), He.free_ok X G (c.fact 44 (f := .free "len") rfl), He.free_ok X G (c.fact 45 (f := .free "list") rfl), He.free_ok X G (c.fact 46 (f := .free "max") rfl), He.free_ok X G (c.fact 47 (f := .free "min") rfl), He.free_ok X G (c.fact 48 (f := .free "range") rfl), He.free_ok X G (c.fact 49 (f := .free "repr") rfl), He.free_ok X G (c.fact 50 (f := .free "str") rfl), He.free_ok X G (c.fact 51 (f := .free "sum") rfl), He.free_ok X G (c.fact 52 (f := .free "tuple") rfl), He.free_ok X G (c.fact 53 (f := .free "zip") rfl)⟩
  have C : Ct K mg := ⟨gc_int X G c 54 rfl, gc_int X G c 55 rfl, gc_int X G c 56 rfl, gc_int X G c 57 rfl, gc_int X G c 58 rfl, gc_str X G c 59 rfl⟩
  have h_is_integer := has_is_integer (P := P) (w := w) (K := K) (mg := mg) (base := base) B (txt_of X G c 0 0 rfl rfl)
  have h_is_tuple := has_is_tuple (P := P) (w := w) (K := K) (mg := mg) (base := base) B (txt_of X G c 1 1 rfl rfl)
  have h_common := has_common (P := P) (w := w) (K := K) (mg := mg) (base := base) B (txt_of X G c 2 2 rfl rfl)
  have h_is_less := has_is_less (P := P) (w := w) (K := K) (mg := mg) (base := base) (txt_of X G c 3 3 rfl rfl)
  have h_is_at_most := has_is_at_most (P := P) (w := w) (K := K) (mg := mg) (base := base) (txt_of X G c 4 4 rfl rfl)
  have h_law_pot := has_law_pot (P := P) (w := w) (K := K) (mg := mg) (base := base) B (txt_of X G c 5 5 rfl rfl)
  have h_law_draw := has_law_draw (P := P) (w := w) (K := K) (mg := mg) (base := base) B (txt_of X G c 6 6 rfl rfl)
  have h_law_divisor := has_law_divisor (P := P) (w := w) (K := K) (mg := mg) (base := base) B (txt_of X G c 7 7 rfl rfl)
  have h_law_below := has_law_below (P := P) (w := w) (K := K) (mg := mg) (base := base) (txt_of X G c 8 8 rfl rfl)
  have h_is_within := has_is_within (P := P) (w := w) (K := K) (mg := mg) (base := base) h_is_integer (txt_of X G c 9 9 rfl rfl)
  have h_lowest := has_lowest (P := P) (w := w) (K := K) (mg := mg) (base := base) B h_common (txt_of X G c 10 10 rfl rfl)
  have h_is_fraction_any := has_is_fraction_any (P := P) (w := w) (K := K) (mg := mg) (base := base) B h_is_tuple h_is_integer h_common (txt_of X G c 11 11 rfl rfl)
  have h_most_of := has_most_of (P := P) (w := w) (K := K) (mg := mg) (base := base) h_is_less (txt_of X G c 12 12 rfl rfl)
  have h_law_pick := has_law_pick (P := P) (w := w) (K := K) (mg := mg) (base := base) B h_law_draw (txt_of X G c 13 13 rfl rfl)
  have h_law_lowest := has_law_lowest (P := P) (w := w) (K := K) (mg := mg) (base := base) h_law_divisor (txt_of X G c 14 14 rfl rfl)
  have h_is_small := has_is_small (P := P) (w := w) (K := K) (mg := mg) (base := base) C h_is_fraction_any (txt_of X G c 15 15 rfl rfl)
  have h_signpost := has_signpost (P := P) (w := w) (K := K) (mg := mg) (base := base) B h_lowest (txt_of X G c 16 16 rfl rfl)
  have h_is_row_of_votes := has_is_row_of_votes (P := P) (w := w) (K := K) (mg := mg) (base := base) B C h_is_within (txt_of X G c 17 17 rfl rfl)
  have h_want_seats := has_want_seats (P := P) (w := w) (K := K) (mg := mg) (base := base) C h_is_within (txt_of X G c 18 18 rfl rfl)
  have h_want_house := has_want_house (P := P) (w := w) (K := K) (mg := mg) (base := base) C h_is_within (txt_of X G c 19 19 rfl rfl)
  have h_want_number := has_want_number (P := P) (w := w) (K := K) (mg := mg) (base := base) B h_is_within (txt_of X G c 20 20 rfl rfl)
  have h_law_rule := has_law_rule (P := P) (w := w) (K := K) (mg := mg) (base := base) h_law_draw h_law_pick h_law_lowest (txt_of X G c 21 21 rfl rfl)
  have h_law_post := has_law_post (P := P) (w := w) (K := K) (mg := mg) (base := base) B h_law_lowest (txt_of X G c 22 22 rfl rfl)
  have h_law_votes := has_law_votes (P := P) (w := w) (K := K) (mg := mg) (base := base) B h_law_draw h_law_pick (txt_of X G c 23 23 rfl rfl)
  have h_is_rule_any := has_is_rule_any (P := P) (w := w) (K := K) (mg := mg) (base := base) B C h_is_tuple h_is_small h_is_within h_common h_signpost h_is_less h_is_at_most (txt_of X G c 24 24 rfl rfl)
  have h_want_votes := has_want_votes (P := P) (w := w) (K := K) (mg := mg) (base := base) h_is_row_of_votes (txt_of X G c 25 25 rfl rfl)
  have h_price_at := has_price_at (P := P) (w := w) (K := K) (mg := mg) (base := base) h_signpost h_lowest (txt_of X G c 26 26 rfl rfl)
  have h_law_price := has_law_price (P := P) (w := w) (K := K) (mg := mg) (base := base) h_law_post h_law_lowest (txt_of X G c 27 27 rfl rfl)
  have h_law_drawn := has_law_drawn (P := P) (w := w) (K := K) (mg := mg) (base := base) B h_law_pick h_law_draw h_law_votes (txt_of X G c 28 28 rfl rfl)
  have h_want_rule := has_want_rule (P := P) (w := w) (K := K) (mg := mg) (base := base) h_is_rule_any (txt_of X G c 29 29 rfl rfl)
  have h_next_step := has_next_step (P := P) (w := w) (K := K) (mg := mg) (base := base) B h_price_at h_most_of (txt_of X G c 30 30 rfl rfl)
  have h_law_row := has_law_row (P := P) (w := w) (K := K) (mg := mg) (base := base) B h_law_price h_law_below (txt_of X G c 31 31 rfl rfl)
  have h_steps_to := has_steps_to (P := P) (w := w) (K := K) (mg := mg) (base := base) B h_next_step (txt_of X G c 32 32 rfl rfl)
  have h_price := has_price (P := P) (w := w) (K := K) (mg := mg) (base := base) h_want_rule h_want_votes h_want_number h_want_seats h_price_at (txt_of X G c 33 33 rfl rfl)
  have h_row_of_seats := has_row_of_seats (P := P) (w := w) (K := K) (mg := mg) (base := base) h_want_rule h_want_votes h_want_house h_steps_to (txt_of X G c 34 34 rfl rfl)
  have h_law_right := has_law_right (P := P) (w := w) (K := K) (mg := mg) (base := base) B h_law_pick h_law_drawn h_law_rule h_law_draw h_law_row h_row_of_seats h_law_price h_price (txt_of X G c 35 35 rfl rfl)
  have h_law := has_law (P := P) (w := w) (K := K) (mg := mg) (base := base) B h_law_pot h_law_right (txt_of X G c 36 36 rfl rfl)
  exact h_law
end K12
open PySem PySem.W PySem.Calls PyProof.Rows
set_option maxHeartbeats 0 in
theorem PySem.Challenge.cw_seatworks_k12_whole_prices_and_rows_of_s_holds : PySem.Challenge.rw_seatworks_k12_whole_prices_and_rows_of_s.Holds := by
  w_on; o_law
  refine HandSHeadRun.head_any (r := K12.topR) (q := view K12.topR.prog [55]) (H := K12.topK) (ob := K12.topB) (M := 6000) (loose := K12.names) (d := HandSHeadRun.topDef K12.topR.prog 55) (kwd := []) K12.topB_eq
    (by kernel_rfl) (fun s => by kernel_rfl) K12.topRun (by kernel_rfl) (by kernel_rfl) (by kernel_rfl) (by rfl) (by first | assumption | decide +kernel) (by decide +kernel) ⟨rfl, rfl, rfl, rfl, rfl, by decide +kernel⟩ ?hw ?hc
  case hw => w_witness2
  case hc =>
    refine Dl.walk_ofD (l := PySem.Challenge.rw_seatworks_k12_whole_prices_and_rows_of_s) (n := 63) (k := 9) (x := "script") (st := K12.S_law) (sp := K12.sp_law) rfl (by decide) (by kernel_rfl) ⟨rfl, by decide, by decide⟩ ?F ?bd (fun ns Q hl hQ => ⟨ns, rfl, hl, hQ _⟩)
    case F =>
      intro w mg h Y G
      obtain ⟨K, X, c⟩ := Y
      exact ⟨K, X, fun base => K12.law_has X G c base⟩
    case bd =>
      intro kV doc pm an cdv ct u
      rfl
