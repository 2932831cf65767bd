import PyProof.Rows.All
import Wide.All
import OpenK.AllK
import Wide.FinOn
import KE.KStateDown
import HandS.Comp
import HandS.List
import HandS.Iter
import HandS.Conv
import HandS.Ends
import HandS.Wide
import HandS.IsInst
import HandS.TupAny
import HandS.ForMost
import KE.GoesEnum
import KE.GoesMore
import HandS.Style
import HandS.NamedTupSort
import KE.KTupSum
import HandS.Set
import HandS.Strs
import HandS.SetFor
import HandS.Zip
import PyProof.P3Eq
import PyProof.ReprBulk
import HandS.HeadEnd
import HandS.HeadHook1
import HandS.HeadHook2
import HandS.Head0
import HandS.Head1
import HandS.Head2
import PySem.Challenge.RW_seatworks_k93_whole_idle_lists_vetoes_di
set_option Elab.async false
set_option linter.all false
set_option maxRecDepth 100000
set_option maxHeartbeats 4000000
/-! Dat0: a store of plain data over the hand layer's heaps: values D, stores Mu, how both lie in a heap. -/
namespace Dl
open PySem PySem.Spec PyProof.Rows L2

/-- plain data; a list that may change is a cell of the store -/
inductive D where
  | non | bl (b : Bool) | int (i : Int) | str (x : Str) | tup (ds : List D) | frz (ds : List D) | cell (k : Nat) | ty (n : String)
abbrev Mu := Nat → Option (List D)
def Mu.upd (μ : Mu) (k : Nat) (xs : List D) : Mu := fun j => if j = k then some xs else μ j
/-- knows no more -/
def Mu.Sub (μ' μ : Mu) : Prop := ∀ k xs, μ' k = some xs → μ k = some xs
theorem Mu.Sub.refl (μ : Mu) : Mu.Sub μ μ := fun _ _ h => h
theorem Mu.Sub.trans {a b c : Mu} (h : Mu.Sub a b) (g : Mu.Sub b c) : Mu.Sub a c := fun k xs e => g k xs (h k xs e)
@[simp] theorem Mu.upd_same {μ : Mu} {k : Nat} {xs : List D} : μ.upd k xs k = some xs := if_pos rfl
theorem Mu.upd_ne {μ : Mu} {j k : Nat} {xs : List D} (h : j ≠ k) : μ.upd k xs j = μ j := if_neg h
theorem Mu.upd_upd {μ : Mu} {k : Nat} {xs ys : List D} : (μ.upd k xs).upd k ys = μ.upd k ys := by
  funext j
  unfold Mu.upd
  split <;> rfl
theorem Mu.sub_upd {μ : Mu} {k : Nat} {xs : List D} (h : μ k = none) : Mu.Sub μ (μ.upd k xs) := fun j ys e => by
  rw [Mu.upd_ne]
  · exact e
  · intro z
    rw [z, h] at e
    cases e
theorem Mu.Sub.upd {μ' μ : Mu} (s : Mu.Sub μ' μ) (k : Nat) (xs : List D) : Mu.Sub (μ'.upd k xs) (μ.upd k xs) := fun j ys e => by
  by_cases h : j = k
  · subst h
    rw [Mu.upd_same] at e ⊢
    exact e
  · rw [Mu.upd_ne h] at e ⊢
    exact s j ys e
theorem Mu.ne_of {μ : Mu} {j k : Nat} {xs : List D} (h : μ j = some xs) (g : μ k = none) : j ≠ k := fun e => by
  rw [e, g] at h
  cases h

/-! ### how heaps grow -/
structure Ext (H H' : Hp) : Prop where
  tup : ∀ a xs, H a = some (.tup xs) → H' a = some (.tup xs)
  frz : ∀ a o u, H a = some (.frz o u) → H' a = some (.frz o u)
  live : ∀ a o, H a = some o → ∃ o', H' a = some o'
theorem Ext.refl (H : Hp) : Ext H H := ⟨fun _ _ h => h, fun _ _ _ h => h, fun _ o h => ⟨o, h⟩⟩
theorem Ext.trans {H H1 H2 : Hp} (a : Ext H H1) (b : Ext H1 H2) : Ext H H2 :=
  ⟨fun c xs h => b.tup c xs (a.tup c xs h), fun c o u h => b.frz c o u (a.frz c o u h), fun c o h => by
    obtain ⟨o', h'⟩ := a.live c o h
    exact b.live c o' h'⟩
theorem Ext.new {H : Hp} {p : Addr} {o : HO} (h : H p = none) : Ext H (upd H p o) :=
  ⟨fun a xs e => by rw [L2.upd_ne (L2.ne_of_none e h)]; exact e, fun a ob u e => by rw [L2.upd_ne (L2.ne_of_none e h)]; exact e,
    fun a ob e => ⟨ob, by rw [L2.upd_ne (L2.ne_of_none e h)]; exact e⟩⟩
theorem Ext.lst {H : Hp} {p : Addr} {vs ws : List V} (h : H p = some (.lst vs)) : Ext H (upd H p (.lst ws)) :=
  ⟨fun a xs e => by rw [L2.upd_ne (L2.ne_of e h (by intro z; cases z))]; exact e, fun a ob u e => by rw [L2.upd_ne (L2.ne_of e h (by intro z; cases z))]; exact e,
    fun a ob e => by
      by_cases q : a = p
      · exact ⟨_, by rw [q, L2.upd_same]⟩
      · exact ⟨ob, by rw [L2.upd_ne q]; exact e⟩⟩

/-- a list that never changes: the script, or one of the written part -/
def FrzL (K : PySem.W.Frag) (H : Hp) (a : Addr) (xs : List V) : Prop := (∃ o, H a = some (.frz o (.lst xs))) ∨ SqL K (fun _ => none) a xs
theorem none_seq {K : PySem.W.Frag} {H : Hp} {a : Addr} {xs : List V} (h : SqL K (fun _ => none) a xs) : SqL K H a xs := by
  rcases h with h | h
  · rcases h with h | ⟨o, h⟩
    · cases h
    · cases h
  · exact .inr h
theorem FrzL.seq {K : PySem.W.Frag} {H : Hp} {a : Addr} {xs : List V} (h : FrzL K H a xs) : SqL K H a xs := by
  rcases h with ⟨o, h⟩ | h
  · exact .inl (.inr ⟨o, h⟩)
  · exact none_seq h
theorem Ext.seqT {K : PySem.W.Frag} {H H' : Hp} {a : Addr} {xs : List V} (e : Ext H H') (h : SqT K H a xs) : SqT K H' a xs := by
  rcases h with (h | ⟨o, h⟩) | h
  · exact .inl (.inl (e.tup _ _ h))
  · exact .inl (.inr ⟨o, e.frz _ _ _ h⟩)
  · exact .inr h
theorem Ext.frzL {K : PySem.W.Frag} {H H' : Hp} {a : Addr} {xs : List V} (e : Ext H H') (h : FrzL K H a xs) : FrzL K H' a xs := by
  rcases h with ⟨o, h⟩ | h
  · exact .inl ⟨o, e.frz _ _ _ h⟩
  · exact .inr h

/-- addresses of cells, and the heap, grown -/
structure Gr (α : List Addr) (H : Hp) (α' : List Addr) (H' : Hp) : Prop where
  pre : ∀ (k : Nat) a, α[k]? = some a → α'[k]? = some a
  ext : Ext H H'
theorem Gr.refl (α : List Addr) (H : Hp) : Gr α H α H := ⟨fun _ _ h => h, Ext.refl H⟩
theorem Gr.trans {α α1 α2 : List Addr} {H H1 H2 : Hp} (a : Gr α H α1 H1) (b : Gr α1 H1 α2 H2) : Gr α H α2 H2 := ⟨fun k c h => b.pre k c (a.pre k c h), a.ext.trans b.ext⟩

mutual
inductive Rl (K : PySem.W.Frag) (α : List Addr) (H : Hp) : V → D → Prop
  | non : Rl K α H .non .non
  | bl (b : Bool) : Rl K α H (.bl b) (.bl b)
  | int (i : Int) : Rl K α H (.int i) (.int i)
  | str (x : Str) : Rl K α H (.str x) (.str x)
  | ty (n : String) : Rl K α H (.ty n) (.ty n)
  | tup {a : Addr} {vs : List V} {ds : List D} : SqT K H a vs → RlAll K α H vs ds → Rl K α H (.ref a) (.tup ds)
  | frz {a : Addr} {vs : List V} {ds : List D} : FrzL K H a vs → RlAll K α H vs ds → Rl K α H (.ref a) (.frz ds)
  | cell {a : Addr} {k : Nat} : α[k]? = some a → Rl K α H (.ref a) (.cell k)
inductive RlAll (K : PySem.W.Frag) (α : List Addr) (H : Hp) : List V → List D → Prop
  | nil : RlAll K α H [] []
  | cons {v : V} {vs : List V} {d : D} {ds : List D} : Rl K α H v d → RlAll K α H vs ds → RlAll K α H (v :: vs) (d :: ds)
end

section
variable {K : PySem.W.Frag} {α α' : List Addr} {H H' : Hp}
mutual
theorem Rl.mono (g : Gr α H α' H') : ∀ {v : V} {d : D}, Rl K α H v d → Rl K α' H' v d
  | _, _, .non => .non
  | _, _, .bl b => .bl b
  | _, _, .int i => .int i
  | _, _, .str x => .str x
  | _, _, .ty n => .ty n
  | _, _, .tup s r => .tup (g.ext.seqT s) (RlAll.mono g r)
  | _, _, .frz s r => .frz (g.ext.frzL s) (RlAll.mono g r)
  | _, _, .cell h => .cell (g.pre _ _ h)
theorem RlAll.mono (g : Gr α H α' H') : ∀ {vs : List V} {ds : List D}, RlAll K α H vs ds → RlAll K α' H' vs ds
  | _, _, .nil => .nil
  | _, _, .cons a b => .cons (Rl.mono g a) (RlAll.mono g b)
end
theorem RlAll.length : ∀ {vs : List V} {ds : List D}, RlAll K α H vs ds → vs.length = ds.length
  | _, _, .nil => rfl
  | _, _, .cons _ b => by rw [List.length_cons, List.length_cons, RlAll.length b]
theorem RlAll.append : ∀ {vs ws : List V} {ds es : List D}, RlAll K α H vs ds → RlAll K α H ws es → RlAll K α H (vs ++ ws) (ds ++ es)
  | _, _, _, _, .nil, r => r
  | _, _, _, _, .cons a b, r => .cons a (RlAll.append b r)
theorem RlAll.get : ∀ {vs : List V} {ds : List D} {i : Nat} {d : D}, RlAll K α H vs ds → ds[i]? = some d → ∃ v, vs[i]? = some v ∧ Rl K α H v d
  | _, _, _, _, .nil, e => by simp at e
  | _, _, 0, _, .cons a _, e => by
    simp at e
    subst e
    exact ⟨_, rfl, a⟩
  | _, _, i + 1, d, .cons _ b, e => by
    obtain ⟨v, h1, h2⟩ := RlAll.get (i := i) (d := d) b (by simpa using e)
    exact ⟨v, by simpa using h1, h2⟩
theorem RlAll.getV : ∀ {vs : List V} {ds : List D} {i : Nat} {v : V}, RlAll K α H vs ds → vs[i]? = some v → ∃ d, ds[i]? = some d ∧ Rl K α H v d
  | _, _, _, _, .nil, e => by simp at e
  | _, _, 0, _, .cons a _, e => by
    simp at e
    subst e
    exact ⟨_, rfl, a⟩
  | _, _, i + 1, v, .cons _ b, e => by
    obtain ⟨d, h1, h2⟩ := RlAll.getV (i := i) (v := v) b (by simpa using e)
    exact ⟨d, by simpa using h1, h2⟩
theorem RlAll.set {v : V} {d : D} (r : Rl K α H v d) : ∀ {vs : List V} {ds : List D} (i : Nat), RlAll K α H vs ds → RlAll K α H (vs.set i v) (ds.set i d)
  | _, _, _, .nil => .nil
  | _, _, 0, .cons _ b => .cons r b
  | _, _, i + 1, .cons a b => .cons a (RlAll.set r i b)
theorem RlAll.take : ∀ {vs : List V} {ds : List D} (n : Nat), RlAll K α H vs ds → RlAll K α H (vs.take n) (ds.take n)
  | _, _, 0, _ => .nil
  | _, _, _ + 1, .nil => .nil
  | _, _, n + 1, .cons a b => .cons a (RlAll.take n b)
theorem RlAll.drop : ∀ {vs : List V} {ds : List D} (n : Nat), RlAll K α H vs ds → RlAll K α H (vs.drop n) (ds.drop n)
  | _, _, 0, r => r
  | _, _, _ + 1, .nil => .nil
  | _, _, n + 1, .cons _ b => RlAll.drop n b
theorem RlAll.flat : ∀ (n : Nat) {vs : List V} {ds : List D}, RlAll K α H vs ds → RlAll K α H (List.replicate n vs).flatten (List.replicate n ds).flatten
  | 0, _, _, _ => .nil
  | n + 1, _, _, r => by
    rw [List.replicate_succ, List.replicate_succ, List.flatten_cons, List.flatten_cons]
    exact r.append (RlAll.flat n r)
theorem RlAll.nilV {ds : List D} (r : RlAll K α H [] ds) : ds = [] := by cases r; rfl
theorem RlAll.rev : ∀ {vs : List V} {ds : List D}, RlAll K α H vs ds → RlAll K α H vs.reverse ds.reverse
  | _, _, .nil => .nil
  | _, _, .cons a b => by
    rw [List.reverse_cons, List.reverse_cons]
    exact (RlAll.rev b).append (.cons a .nil)
theorem rlInts : ∀ (ns : List Int), RlAll K α H (ns.map V.int) (ns.map D.int)
  | [] => .nil
  | n :: ns => .cons (.int n) (rlInts ns)
theorem RlAll.ints : ∀ {vs : List V} {ns : List Int}, RlAll K α H vs (ns.map D.int) → vs = ns.map V.int
  | _, [], r => by cases r; rfl
  | _, n :: ns, r => by
    cases r with
    | cons a b =>
      cases a
      rw [RlAll.ints b]
      rfl
theorem RlAll.bls : ∀ {vs : List V} {ns : List Bool}, RlAll K α H vs (ns.map D.bl) → vs = ns.map V.bl
  | _, [], r => by cases r; rfl
  | _, n :: ns, r => by
    cases r with
    | cons a b =>
      cases a
      rw [RlAll.bls b]
      rfl

/-- the store lies in the heap -/
structure Sat (K : PySem.W.Frag) (α : List Addr) (H : Hp) (μ : Mu) : Prop where
  cell : ∀ k xs, μ k = some xs → ∃ a vs, α[k]? = some a ∧ H a = some (.lst vs) ∧ RlAll K α H vs xs
  inj : ∀ (j k : Nat) a, α[j]? = some a → α[k]? = some a → j = k
  live : ∀ (k : Nat) a, α[k]? = some a → ∃ o, H a = some o
theorem Sat.sub {μ μ' : Mu} (s : Sat K α H μ) (h : Mu.Sub μ' μ) : Sat K α H μ' := ⟨fun k xs e => s.cell k xs (h k xs e), s.inj, s.live⟩
theorem Sat.fresh {μ : Mu} (s : Sat K α H μ) : μ α.length = none := by
  cases e : μ α.length with
  | none => rfl
  | some xs =>
    obtain ⟨a, vs, h, _⟩ := s.cell _ _ e
    rw [List.getElem?_eq_none (Nat.le_refl _)] at h
    cases h
theorem gr_push {a : Addr} (e : Ext H H') : Gr α H (α ++ [a]) H' := ⟨fun k c h => by
  have hk := (List.getElem?_eq_some_iff.mp h).1
  rw [List.getElem?_append_left hk]
  exact h, e⟩
theorem at_push {a : Addr} : (α ++ [a])[α.length]? = some a := by
  rw [List.getElem?_append_right (Nat.le_refl _), Nat.sub_self]
  rfl
theorem push_cases {a b : Addr} {k : Nat} (h : (α ++ [a])[k]? = some b) : α[k]? = some b ∨ (k = α.length ∧ b = a) := by
  by_cases hk : k < α.length
  · rw [List.getElem?_append_left hk] at h
    exact .inl h
  · rw [List.getElem?_append_right (by omega)] at h
    have hk2 : k - α.length = 0 := by
      have := (List.getElem?_eq_some_iff.mp h).1
      simp at this
      omega
    rw [hk2] at h
    exact .inr ⟨by omega, (Option.some.inj h).symm⟩
/-- a thing is tracked that is no cell -/
theorem Sat.new {μ : Mu} {p : Addr} {o : HO} (s : Sat K α H μ) (h : H p = none) : Sat K α (upd H p o) μ := by
  refine ⟨fun k xs e => ?_, s.inj, fun k a e => ?_⟩
  · obtain ⟨a, vs, h1, h2, h3⟩ := s.cell k xs e
    exact ⟨a, vs, h1, by rw [L2.upd_ne (L2.ne_of_none h2 h)]; exact h2, h3.mono ⟨fun _ _ z => z, Ext.new h⟩⟩
  · obtain ⟨o', h'⟩ := s.live k a e
    exact ⟨o', by rw [L2.upd_ne (L2.ne_of_none h' h)]; exact h'⟩
/-- a new cell -/
theorem Sat.alloc {μ : Mu} {p : Addr} {vs : List V} {xs : List D} (s : Sat K α H μ) (h : H p = none) (r : RlAll K α H vs xs) :
    Sat K (α ++ [p]) (upd H p (.lst vs)) (μ.upd α.length xs) := by
  have g : Gr α H (α ++ [p]) (upd H p (.lst vs)) := gr_push (Ext.new h)
  refine ⟨fun k ys e => ?_, fun j k a hj hk => ?_, fun k a e => ?_⟩
  · by_cases hk : k = α.length
    · subst hk
      rw [Mu.upd_same] at e
      cases e
      exact ⟨p, vs, at_push, L2.upd_same, r.mono g⟩
    · rw [Mu.upd_ne hk] at e
      obtain ⟨a, ws, h1, h2, h3⟩ := s.cell k ys e
      exact ⟨a, ws, g.pre _ _ h1, by rw [L2.upd_ne (L2.ne_of_none h2 h)]; exact h2, h3.mono g⟩
  · rcases push_cases hj with hj | ⟨ej, aj⟩ <;> rcases push_cases hk with hk | ⟨ek, ak⟩
    · exact s.inj _ _ _ hj hk
    · obtain ⟨o, z⟩ := s.live _ _ hj
      rw [ak, h] at z
      cases z
    · obtain ⟨o, z⟩ := s.live _ _ hk
      rw [aj, h] at z
      cases z
    · omega
  · rcases push_cases e with e | ⟨_, rfl⟩
    · obtain ⟨o', h'⟩ := s.live k a e
      exact ⟨o', by rw [L2.upd_ne (L2.ne_of_none h' h)]; exact h'⟩
    · exact ⟨_, L2.upd_same⟩
/-- a cell is changed -/
theorem Sat.set {μ : Mu} {a : Addr} {k : Nat} {ws vs : List V} {xs : List D} (s : Sat K α H μ) (ha : α[k]? = some a) (h : H a = some (.lst ws)) (r : RlAll K α H vs xs) :
    Sat K α (upd H a (.lst vs)) (μ.upd k xs) := by
  have g : Gr α H α (upd H a (.lst vs)) := ⟨fun _ _ z => z, Ext.lst h⟩
  refine ⟨fun j ys e => ?_, s.inj, fun j b e => ?_⟩
  · by_cases hj : j = k
    · subst hj
      rw [Mu.upd_same] at e
      cases e
      exact ⟨a, vs, ha, L2.upd_same, r.mono g⟩
    · rw [Mu.upd_ne hj] at e
      obtain ⟨b, us, h1, h2, h3⟩ := s.cell j ys e
      have hb : b ≠ a := fun z => hj (s.inj _ _ _ h1 (by rw [z]; exact ha))
      exact ⟨b, us, h1, by rw [L2.upd_ne hb]; exact h2, h3.mono g⟩
  · obtain ⟨o', h'⟩ := s.live j b e
    by_cases hb : b = a
    · exact ⟨_, by rw [hb, L2.upd_same]⟩
    · exact ⟨o', by rw [L2.upd_ne hb]; exact h'⟩
theorem gr_set {a : Addr} {ws vs : List V} (h : H a = some (.lst ws)) : Gr α H α (upd H a (.lst vs)) := ⟨fun _ _ z => z, Ext.lst h⟩
theorem gr_new {a : Addr} {o : HO} (h : H a = none) : Gr α H α (upd H a o) := ⟨fun _ _ z => z, Ext.new h⟩

/-! ### what is read as a sequence -/
def items (μ : Mu) : D → Option (List D)
  | .tup ds => some ds
  | .frz ds => some ds
  | .cell k => μ k
  | _ => none
def litems (μ : Mu) : D → Option (List D)
  | .frz ds => some ds
  | .cell k => μ k
  | _ => none
theorem Sat.list {μ : Mu} {v : V} {d : D} {xs : List D} (s : Sat K α H μ) (r : Rl K α H v d) (h : litems μ d = some xs) : ∃ a vs, v = .ref a ∧ SqL K H a vs ∧ RlAll K α H vs xs := by
  cases r with
  | frz q r =>
    cases h
    exact ⟨_, _, rfl, q.seq, r⟩
  | cell q =>
    obtain ⟨a, vs, h1, h2, h3⟩ := s.cell _ _ h
    rw [q] at h1
    cases h1
    exact ⟨_, _, rfl, .inl (.inl h2), h3⟩
  | _ => cases h
theorem Sat.seq {μ : Mu} {v : V} {d : D} {xs : List D} (s : Sat K α H μ) (r : Rl K α H v d) (h : items μ d = some xs) : ∃ a vs, v = .ref a ∧ (SqL K H a vs ∨ SqT K H a vs) ∧ RlAll K α H vs xs := by
  cases r with
  | tup q r =>
    cases h
    exact ⟨_, _, rfl, .inr q, r⟩
  | frz q r =>
    cases h
    exact ⟨_, _, rfl, .inl q.seq, r⟩
  | cell q =>
    obtain ⟨a, vs, h1, h2, h3⟩ := s.cell _ _ h
    rw [q] at h1
    cases h1
    exact ⟨_, _, rfl, .inl (.inl (.inl h2)), h3⟩
  | _ => cases h
end

/-! ### slots -/
abbrev Rho := List (Option D)
def EnvOk (K : PySem.W.Frag) (α : List Addr) (H : Hp) (σ : L2.St) (ρ : Rho) : Prop :=
  ρ.length = σ.length ∧ ∀ (i : Nat) d, ρ[i]? = some (some d) → ∃ v, σ[i]? = some (some v) ∧ Rl K α H v d
section
variable {K : PySem.W.Frag} {α α' : List Addr} {H H' : Hp} {σ : L2.St} {ρ : Rho}
theorem EnvOk.mono (g : Gr α H α' H') (e : EnvOk K α H σ ρ) : EnvOk K α' H' σ ρ := ⟨e.1, fun i d h => by
  obtain ⟨v, h1, h2⟩ := e.2 i d h
  exact ⟨v, h1, h2.mono g⟩⟩
theorem EnvOk.set {i : Nat} {v : V} {d : D} (e : EnvOk K α H σ ρ) (r : Rl K α H v d) : EnvOk K α H (σ.set i (some v)) (ρ.set i (some d)) := by
  refine ⟨by rw [List.length_set, List.length_set]; exact e.1, fun j c h => ?_⟩
  by_cases hj : i = j
  · subst hj
    have hl : i < ρ.length := by
      have := (List.getElem?_eq_some_iff.mp h).1
      rw [List.length_set] at this
      exact this
    rw [List.getElem?_set_self hl] at h
    cases h
    exact ⟨v, List.getElem?_set_self (by rw [← e.1]; exact hl), r⟩
  · rw [List.getElem?_set_ne hj] at h ⊢
    exact e.2 j c h
theorem EnvOk.clear {i : Nat} (e : EnvOk K α H σ ρ) : EnvOk K α H (σ.set i none) (ρ.set i none) := by
  refine ⟨by rw [List.length_set, List.length_set]; exact e.1, fun j c h => ?_⟩
  by_cases hj : i = j
  · subst hj
    have hl : i < ρ.length := by
      have := (List.getElem?_eq_some_iff.mp h).1
      rw [List.length_set] at this
      exact this
    rw [List.getElem?_set_self hl] at h
    cases h
  · rw [List.getElem?_set_ne hj] at h ⊢
    exact e.2 j c h
def wipeD (ρ : Rho) : List Nat → Rho
  | [] => ρ
  | v :: vs => (wipeD ρ vs).set v none
theorem EnvOk.wipe (e : EnvOk K α H σ ρ) : ∀ (vs : List Nat), EnvOk K α H (L2.wipe σ vs) (wipeD ρ vs)
  | [] => e
  | v :: vs => (EnvOk.wipe e vs).clear
end
end Dl
/-! Dat1: readings over plain data: expressions. -/
namespace Dl
open PySem PySem.Spec PyProof.Rows L2

abbrev DK := D → Mu → Prop
abbrev DTE := Rho → Mu → DK → Prop
abbrev DTT := Rho → Mu → (Bool → Mu → Prop) → Prop
abbrev DTA := Rho → Mu → (List D → Mu → Prop) → Prop
/-- a fresh list, by what it holds -/
abbrev DTL := Rho → Mu → (List D → Mu → Prop) → Prop

def PostE (K : PySem.W.Frag) (α : List Addr) (H : Hp) (Qd : DK) (Q : VK) : Prop := ∀ v H' α' μ' d, Gr α H α' H' → Sat K α' H' μ' → Rl K α' H' v d → Qd d μ' → Q v H'
def PostT (K : PySem.W.Frag) (α : List Addr) (H : Hp) (Qd : Bool → Mu → Prop) (Q : Bool → Hp → Prop) : Prop := ∀ b H' α' μ', Gr α H α' H' → Sat K α' H' μ' → Qd b μ' → Q b H'
def PostA (K : PySem.W.Frag) (α : List Addr) (H : Hp) (Qd : List D → Mu → Prop) (Q : List V → Hp → Prop) : Prop := ∀ vs H' α' μ' ds, Gr α H α' H' → Sat K α' H' μ' → RlAll K α' H' vs ds → Qd ds μ' → Q vs H'
/-- the list's cell k lies in the store apart -/
def PostL (K : PySem.W.Frag) (α : List Addr) (H : Hp) (Qd : List D → Mu → Prop) (Q : VK) : Prop := ∀ p k H' α' μ' xs, Gr α H α' H' → μ' k = none → α'[k]? = some p → Sat K α' H' (μ'.upd k xs) → Qd xs μ' → Q (.ref p) H'
def SndE (K : PySem.W.Frag) (te : TE) (de : DTE) : Prop := ∀ α σ H ρ μ Qd (Q : VK), Sat K α H μ → EnvOk K α H σ ρ → de ρ μ Qd → PostE K α H Qd Q → te σ H Q
def SndL (K : PySem.W.Frag) (te : TE) (de : DTL) : Prop := ∀ α σ H ρ μ Qd (Q : VK), Sat K α H μ → EnvOk K α H σ ρ → de ρ μ Qd → PostL K α H Qd Q → te σ H Q
def SndT (K : PySem.W.Frag) (tt : TT) (dt : DTT) : Prop := ∀ α σ H ρ μ Qd (Q : Bool → Hp → Prop), Sat K α H μ → EnvOk K α H σ ρ → dt ρ μ Qd → PostT K α H Qd Q → tt σ H Q
def SndA (K : PySem.W.Frag) (ta : TA) (da : DTA) : Prop := ∀ α σ H ρ μ Qd (Q : List V → Hp → Prop), Sat K α H μ → EnvOk K α H σ ρ → da ρ μ Qd → PostA K α H Qd Q → ta σ H Q
/-- operations by values -/
def SndR (K : PySem.W.Frag) (r : R2) (rd : D → D → Mu → DK → Prop) : Prop := ∀ α H μ x y dx dy Qd (Q : VK), Sat K α H μ → Rl K α H x dx → Rl K α H y dy → rd dx dy μ Qd → PostE K α H Qd Q → r x y H Q
def SndRL (K : PySem.W.Frag) (r : R2) (rd : D → D → Mu → (List D → Mu → Prop) → Prop) : Prop := ∀ α H μ x y dx dy Qd (Q : VK), Sat K α H μ → Rl K α H x dx → Rl K α H y dy → rd dx dy μ Qd → PostL K α H Qd Q → r x y H Q
def SndU (K : PySem.W.Frag) (r : V → Hp → VK → Prop) (rd : D → Mu → DK → Prop) : Prop := ∀ α H μ x dx Qd (Q : VK), Sat K α H μ → Rl K α H x dx → rd dx μ Qd → PostE K α H Qd Q → r x H Q
def SndC (K : PySem.W.Frag) (r : List V → Hp → VK → Prop) (rd : List D → Mu → DK → Prop) : Prop := ∀ α H μ xs dxs Qd (Q : VK), Sat K α H μ → RlAll K α H xs dxs → rd dxs μ Qd → PostE K α H Qd Q → r xs H Q
def SndCL (K : PySem.W.Frag) (r : List V → Hp → VK → Prop) (rd : List D → Mu → (List D → Mu → Prop) → Prop) : Prop := ∀ α H μ xs dxs Qd (Q : VK), Sat K α H μ → RlAll K α H xs dxs → rd dxs μ Qd → PostL K α H Qd Q → r xs H Q

section
variable {K : PySem.W.Frag} {α α1 : List Addr} {H H1 : Hp}
theorem PostE.mono {Qd : DK} {Q : VK} (g : Gr α H α1 H1) (p : PostE K α H Qd Q) : PostE K α1 H1 Qd Q := fun v H' α' μ' d g' => p v H' α' μ' d (g.trans g')
theorem PostT.mono {Qd : Bool → Mu → Prop} {Q : Bool → Hp → Prop} (g : Gr α H α1 H1) (p : PostT K α H Qd Q) : PostT K α1 H1 Qd Q := fun v H' α' μ' g' => p v H' α' μ' (g.trans g')
theorem PostA.mono {Qd : List D → Mu → Prop} {Q : List V → Hp → Prop} (g : Gr α H α1 H1) (p : PostA K α H Qd Q) : PostA K α1 H1 Qd Q := fun v H' α' μ' d g' => p v H' α' μ' d (g.trans g')
theorem PostL.mono {Qd : List D → Mu → Prop} {Q : VK} (g : Gr α H α1 H1) (p : PostL K α H Qd Q) : PostL K α1 H1 Qd Q := fun v k H' α' μ' d g' => p v k H' α' μ' d (g.trans g')
theorem PostE.here {μ : Mu} {v : V} {d : D} {Qd : DK} {Q : VK} (p : PostE K α H Qd Q) (s : Sat K α H μ) (r : Rl K α H v d) (q : Qd d μ) : Q v H := p v H α μ d (Gr.refl α H) s r q
theorem PostE.tup {μ : Mu} {vs : List V} {ds : List D} {Qd : DK} {Q : VK} (p : PostE K α H Qd Q) (s : Sat K α H μ) (r : RlAll K α H vs ds) (q : Qd (.tup ds) μ) {a : Addr} (h : H a = none) : Q (.ref a) (upd H a (.tup vs)) :=
  p _ _ α μ (.tup ds) (gr_new h) (s.new h) (.tup (.inl (.inl L2.upd_same)) (r.mono (gr_new h))) q
theorem PostL.here {μ : Mu} {vs : List V} {ds : List D} {Qd : List D → Mu → Prop} {Q : VK} (p : PostL K α H Qd Q) (s : Sat K α H μ) (r : RlAll K α H vs ds) (q : Qd ds μ) {a : Addr} (h : H a = none) : Q (.ref a) (upd H a (.lst vs)) :=
  p a α.length _ (α ++ [a]) μ ds (gr_push (Ext.new h)) s.fresh at_push (s.alloc h r) q

/-! ### combined judgements -/
variable {X : Cx}
structure PED (X : Cx) (e : Expr) (de : DTE) : Prop where
  ex : ∃ te, PE X e te ∧ SndE X.K te de
structure PLD (X : Cx) (e : Expr) (de : DTL) : Prop where
  ex : ∃ te, PE X e te ∧ SndL X.K te de
structure PTD (X : Cx) (e : Expr) (dt : DTT) : Prop where
  ex : ∃ tt, PT X e tt ∧ SndT X.K tt dt
structure PWD (X : Cx) (e : Expr) (dt : DTT) : Prop where
  ex : ∃ tt, PW X e tt ∧ SndT X.K tt dt
structure PAD (X : Cx) (es : List Expr) (da : DTA) : Prop where
  ex : ∃ ta, PA X es ta ∧ SndA X.K ta da

/-- a fresh list comes to stand in the store -/
def dNew (dl : DTL) : DTE := fun ρ μ Q => dl ρ μ fun xs μ' => ∀ k, μ' k = none → Q (.cell k) (μ'.upd k xs)
theorem de_new {e : Expr} {dl : DTL} (h : PLD X e dl) : PED X e (dNew dl) := by
  obtain ⟨te, pe, s⟩ := h.ex
  refine ⟨te, pe, fun α σ H ρ μ Qd Q S E q post => s α σ H ρ μ _ Q S E q fun p k H' α' μ' xs g n a S' q' => ?_⟩
  exact post _ _ _ _ (.cell k) g S' (.cell a) (q' k n)

/-! ### leaves -/
def dVar (i : Nat) : DTE := fun ρ μ Q => match ρ[i]? with | some (some d) => Q d μ | _ => False
def dC (d : D) : DTE := fun _ μ Q => Q d μ
theorem snd_var {i : Nat} : SndE K (tVar i) (dVar i) := fun α σ H ρ μ Qd Q S E h post => by
  unfold dVar at h
  split at h
  · rename_i d e
    obtain ⟨v, h1, h2⟩ := E.2 i d e
    exact ⟨v, h1, post.here S h2 h⟩
  · exact h.elim
theorem de_var (i : Nat) {x : Str} {pos : Pos} (hN : X.N[i]? = some x := by rfl) (hv : Vis X.env.scope x := by first | exact Or.inl rfl | exact Or.inr (Or.inl rfl) | exact Or.inr (Or.inr rfl)) (hd : (x == ("__debug__" : Str)) = false := by decide)
    (hcd : (x == ("__classdict__" : Str)) = false := by decide) : PED X (.Name x pos) (dVar i) := ⟨_, pe_var hN hv hd hcd, snd_var⟩
theorem snd_c {v : V} {d : D} (r : ∀ α H, Rl K α H v d) : SndE K (tC v) (dC d) := fun α σ H ρ μ Qd Q S E h post => post.here S (r α H) h
theorem de_int {i j pos} : PED X (.Constant (.int i) j pos) (dC (.int i)) := ⟨_, pe_int, snd_c fun _ _ => .int i⟩
theorem de_bl {b j pos} : PED X (.Constant (.bool b) j pos) (dC (.bl b)) := ⟨_, pe_bl, snd_c fun _ _ => .bl b⟩
theorem de_non {j pos} : PED X (.Constant .none j pos) (dC .non) := ⟨_, pe_non, snd_c fun _ _ => .non⟩
theorem de_str {x j pos} : PED X (.Constant (.str x) j pos) (dC (.str x)) := ⟨_, pe_str, snd_c fun _ _ => .str x⟩
/-- a constant of the module -/
structure Gc (K : PySem.W.Frag) (mg : Str → Option Value) (x : Str) (d : D) : Prop where
  ex : ∃ v u, mg x = some u ∧ RelV v u ∧ ∀ α H, Rl K α H v d
theorem de_glob {x : Str} {pos : Pos} {d : D} (g : Gc X.K X.mg x d) (hg : Gl X x := by rfl) (hd : (x == ("__debug__" : Str)) = false := by decide) : PED X (.Name x pos) (dC d) := by
  obtain ⟨v, u, h1, h2, h3⟩ := g.ex
  exact ⟨_, pe_glob hg h1 h2 hd, snd_c h3⟩
theorem de_ty {x : Str} {n : String} {pos : Pos} (hm : X.mg x = none) (hv : bootBuiltins x = some (.type n) := by decide +kernel) (hg : Gl X x := by rfl) (hn : x ≠ "__name__" := by decide) (hd : (x == ("__debug__" : Str)) = false := by decide) : PED X (.Name x pos) (dC (.ty n)) :=
  ⟨_, pe_bltn hg hm hv (show RelV (.ty n) _ from rfl) hn hd, snd_c fun _ _ => .ty n⟩

/-! ### operators -/
def dOp (rd : D → D → Mu → DK → Prop) (da db : DTE) : DTE := fun ρ μ Q => da ρ μ fun x μ1 => db ρ μ1 fun y μ2 => rd x y μ2 Q
def dOpL (rd : D → D → Mu → (List D → Mu → Prop) → Prop) (da db : DTE) : DTL := fun ρ μ Q => da ρ μ fun x μ1 => db ρ μ1 fun y μ2 => rd x y μ2 Q
def dUn (rd : D → Mu → DK → Prop) (da : DTE) : DTE := fun ρ μ Q => da ρ μ fun x μ1 => rd x μ1 Q
theorem snd_op {r : R2} {rd : D → D → Mu → DK → Prop} {ta tb : TE} {da db : DTE} (hr : SndR K r rd) (ha : SndE K ta da) (hb : SndE K tb db) : SndE K (tOp r ta tb) (dOp rd da db) := fun α σ H ρ μ Qd Q S E h post =>
  ha α σ H ρ μ _ _ S E h fun v1 H1 α1 μ1 d1 g1 s1 r1 q1 => hb α1 σ H1 ρ μ1 _ _ s1 (E.mono g1) q1 fun v2 H2 α2 μ2 d2 g2 s2 r2 q2 =>
    hr α2 H2 μ2 v1 v2 d1 d2 Qd Q s2 (r1.mono g2) r2 q2 (post.mono (g1.trans g2))
theorem snd_opL {r : R2} {rd : D → D → Mu → (List D → Mu → Prop) → Prop} {ta tb : TE} {da db : DTE} (hr : SndRL K r rd) (ha : SndE K ta da) (hb : SndE K tb db) : SndL K (tOp r ta tb) (dOpL rd da db) := fun α σ H ρ μ Qd Q S E h post =>
  ha α σ H ρ μ _ _ S E h fun v1 H1 α1 μ1 d1 g1 s1 r1 q1 => hb α1 σ H1 ρ μ1 _ _ s1 (E.mono g1) q1 fun v2 H2 α2 μ2 d2 g2 s2 r2 q2 =>
    hr α2 H2 μ2 v1 v2 d1 d2 Qd Q s2 (r1.mono g2) r2 q2 (post.mono (g1.trans g2))
theorem snd_un {r : V → Hp → VK → Prop} {rd : D → Mu → DK → Prop} {ta : TE} {da : DTE} (hr : SndU K r rd) (ha : SndE K ta da) : SndE K (tUn r ta) (dUn rd da) := fun α σ H ρ μ Qd Q S E h post =>
  ha α σ H ρ μ _ _ S E h fun v1 H1 α1 μ1 d1 g1 s1 r1 q1 => hr α1 H1 μ1 v1 d1 Qd Q s1 r1 q1 (post.mono g1)
/-- an operator's rule over data -/
structure OpD (X : Cx) (f : Value → Value → Sem Value) (rd : D → D → Mu → DK → Prop) : Prop where
  ex : ∃ r, OpR X f r ∧ SndR X.K r rd
structure OpLD (X : Cx) (f : Value → Value → Sem Value) (rd : D → D → Mu → (List D → Mu → Prop) → Prop) : Prop where
  ex : ∃ r, OpR X f r ∧ SndRL X.K r rd
theorem de_op {op : Operator} {rd : D → D → Mu → DK → Prop} {a b : Expr} {da db : DTE} {pos : Pos} (ho : OpD X (binaryOp op) rd) (ha : PED X a da) (hb : PED X b db) : PED X (.BinOp a op b pos) (dOp rd da db) := by
  obtain ⟨r, h1, h2⟩ := ho.ex
  obtain ⟨ta, a1, a2⟩ := ha.ex
  obtain ⟨tb, b1, b2⟩ := hb.ex
  exact ⟨_, pe_op h1 a1 b1, snd_op h2 a2 b2⟩
theorem dl_op {op : Operator} {rd : D → D → Mu → (List D → Mu → Prop) → Prop} {a b : Expr} {da db : DTE} {pos : Pos} (ho : OpLD X (binaryOp op) rd) (ha : PED X a da) (hb : PED X b db) : PLD X (.BinOp a op b pos) (dOpL rd da db) := by
  obtain ⟨r, h1, h2⟩ := ho.ex
  obtain ⟨ta, a1, a2⟩ := ha.ex
  obtain ⟨tb, b1, b2⟩ := hb.ex
  exact ⟨_, pe_op h1 a1 b1, snd_opL h2 a2 b2⟩
theorem de_cmp {op : CmpOp} {rd : D → D → Mu → DK → Prop} {a b : Expr} {da db : DTE} {pos : Pos} (ho : OpD X (compareOp op) rd) (ha : PED X a da) (hb : PED X b db) (hm : behindInMarks op b = false := by first | exact nomark _ | rfl) : PED X (.Compare a [op] [b] pos) (dOp rd da db) := by
  obtain ⟨r, h1, h2⟩ := ho.ex
  obtain ⟨ta, a1, a2⟩ := ha.ex
  obtain ⟨tb, b1, b2⟩ := hb.ex
  exact ⟨_, pe_cmpR h1 a1 b1 hm, snd_op h2 a2 b2⟩
def dTest (da : DTE) : DTT := fun ρ μ Q => da ρ μ fun x μ1 => match x with | .bl b => Q b μ1 | _ => False
theorem snd_test {t : TE} {da : DTE} (ha : SndE K t da) : SndT K (tTest t) (dTest da) := fun α σ H ρ μ Qd Q S E h post =>
  ha α σ H ρ μ _ _ S E h fun v1 H1 α1 μ1 d1 g1 s1 r1 q1 => by
    cases r1 with
    | bl b => exact ⟨b, rfl, post b H1 α1 μ1 g1 s1 q1⟩
    | _ => exact False.elim q1
theorem dt_cmp {op : CmpOp} {rd : D → D → Mu → DK → Prop} {a b : Expr} {da db : DTE} {pos : Pos} (ho : OpD X (compareOp op) rd) (ha : PED X a da) (hb : PED X b db) (hm : behindInMarks op b = false := by first | exact nomark _ | rfl) : PTD X (.Compare a [op] [b] pos) (dTest (dOp rd da db)) := by
  obtain ⟨r, h1, h2⟩ := ho.ex
  obtain ⟨ta, a1, a2⟩ := ha.ex
  obtain ⟨tb, b1, b2⟩ := hb.ex
  exact ⟨_, pt_cmpR h1 a1 b1 hm, snd_test (snd_op h2 a2 b2)⟩
theorem dt_val {e : Expr} {da : DTE} (h : PED X e da) (he : ∀ whole, isTrue e X.env whole = (do let v ← whole; standAt e.pos; holding [v] (truthy v)) := by intro _; rfl) : PTD X e (dTest da) := by
  obtain ⟨te, a1, a2⟩ := h.ex
  exact ⟨_, pt_val a1 he, snd_test a2⟩
/-- a op b op' c -/
def dChain (rd rd' : D → D → Mu → DK → Prop) (da db dc : DTE) : DTE := fun ρ μ Q => da ρ μ fun x μ1 => db ρ μ1 fun y μ2 => rd x y μ2 fun z μ3 => match z with
  | .bl b => if b = true then dc ρ μ3 fun w μ4 => rd' y w μ4 Q else Q (.bl false) μ3
  | _ => False
theorem snd_chain {r r' : R2} {rd rd' : D → D → Mu → DK → Prop} {ta tb tc : TE} {da db dc : DTE} (hr : SndR K r rd) (hr' : SndR K r' rd') (ha : SndE K ta da) (hb : SndE K tb db) (hc : SndE K tc dc) :
    SndE K (tChain r r' ta tb tc) (dChain rd rd' da db dc) := fun α σ H ρ μ Qd Q S E h post =>
  ha α σ H ρ μ _ _ S E h fun v1 H1 α1 μ1 d1 g1 s1 r1 q1 => hb α1 σ H1 ρ μ1 _ _ s1 (E.mono g1) q1 fun v2 H2 α2 μ2 d2 g2 s2 r2 q2 =>
    hr α2 H2 μ2 v1 v2 d1 d2 _ _ s2 (r1.mono g2) r2 q2 fun z H3 α3 μ3 dz g3 s3 r3 q3 => by
      cases r3 with
      | bl b =>
        refine ⟨b, rfl, ?_⟩
        cases b with
        | false => exact post _ _ _ _ _ ((g1.trans g2).trans g3) s3 (.bl false) q3
        | true => exact hc α3 σ H3 ρ μ3 _ _ s3 (((E.mono g1).mono g2).mono g3) q3 fun w H4 α4 μ4 dw g4 s4 r4 q4 => hr' α4 H4 μ4 v2 w d2 dw Qd Q s4 ((r2.mono g3).mono g4) r4 q4 (post.mono (((g1.trans g2).trans g3).trans g4))
      | _ => exact False.elim q3
theorem de_chain {op op' : CmpOp} {rd rd' : D → D → Mu → DK → Prop} {a b c : Expr} {da db dc : DTE} {pos : Pos} (ho : OpD X (compareOp op) rd) (ho' : OpD X (compareOp op') rd') (ha : PED X a da) (hb : PED X b db) (hc : PED X c dc)
    (hm : lastMarks [op, op'] [b, c] = false := by with_unfolding_all rfl) : PED X (.Compare a [op, op'] [b, c] pos) (dChain rd rd' da db dc) := by
  obtain ⟨r, h1, h2⟩ := ho.ex
  obtain ⟨r', h3, h4⟩ := ho'.ex
  obtain ⟨ta, a1, a2⟩ := ha.ex
  obtain ⟨tb, b1, b2⟩ := hb.ex
  obtain ⟨tc, c1, c2⟩ := hc.ex
  exact ⟨_, pe_chain h1 h3 a1 b1 c1 hm, snd_chain h2 h4 a2 b2 c2⟩
theorem dt_chain {op op' : CmpOp} {rd rd' : D → D → Mu → DK → Prop} {a b c : Expr} {da db dc : DTE} {pos : Pos} (ho : OpD X (compareOp op) rd) (ho' : OpD X (compareOp op') rd') (ha : PED X a da) (hb : PED X b db) (hc : PED X c dc)
    (hm : lastMarks [op, op'] [b, c] = false := by with_unfolding_all rfl) : PTD X (.Compare a [op, op'] [b, c] pos) (dTest (dChain rd rd' da db dc)) := by
  obtain ⟨r, h1, h2⟩ := ho.ex
  obtain ⟨r', h3, h4⟩ := ho'.ex
  obtain ⟨ta, a1, a2⟩ := ha.ex
  obtain ⟨tb, b1, b2⟩ := hb.ex
  obtain ⟨tc, c1, c2⟩ := hc.ex
  exact ⟨_, pt_chain h1 h3 a1 b1 c1 hm, snd_test (snd_chain h2 h4 a2 b2 c2)⟩

/-! ### and, or, not, if -/
def dAnd (da db : DTE) : DTE := fun ρ μ Q => da ρ μ fun x μ1 => match x with | .bl b => (if b = true then db ρ μ1 Q else Q (.bl false) μ1) | _ => False
def dOr (da db : DTE) : DTE := fun ρ μ Q => da ρ μ fun x μ1 => match x with | .bl b => (if b = true then Q (.bl true) μ1 else db ρ μ1 Q) | _ => False
def dNot (da : DTE) : DTE := fun ρ μ Q => da ρ μ fun x μ1 => match x with | .bl b => Q (.bl (!b)) μ1 | _ => False
def dIf (dt : DTT) (da db : DTE) : DTE := fun ρ μ Q => dt ρ μ fun b μ1 => if b = true then da ρ μ1 Q else db ρ μ1 Q
def dIfL (dt : DTT) (da db : DTL) : DTL := fun ρ μ Q => dt ρ μ fun b μ1 => if b = true then da ρ μ1 Q else db ρ μ1 Q
theorem snd_and {ta tb : TE} {da db : DTE} (ha : SndE K ta da) (hb : SndE K tb db) : SndE K (tAndV ta tb) (dAnd da db) := fun α σ H ρ μ Qd Q S E h post =>
  ha α σ H ρ μ _ _ S E h fun v1 H1 α1 μ1 d1 g1 s1 r1 q1 => by
    cases r1 with
    | bl b =>
      refine ⟨b, rfl, ?_⟩
      cases b with
      | false => exact post _ _ _ _ _ g1 s1 (.bl false) q1
      | true => exact hb α1 σ H1 ρ μ1 _ _ s1 (E.mono g1) q1 (post.mono g1)
    | _ => exact False.elim q1
theorem snd_or {ta tb : TE} {da db : DTE} (ha : SndE K ta da) (hb : SndE K tb db) : SndE K (tOrV ta tb) (dOr da db) := fun α σ H ρ μ Qd Q S E h post =>
  ha α σ H ρ μ _ _ S E h fun v1 H1 α1 μ1 d1 g1 s1 r1 q1 => by
    cases r1 with
    | bl b =>
      refine ⟨b, rfl, ?_⟩
      cases b with
      | true => exact post _ _ _ _ _ g1 s1 (.bl true) q1
      | false => exact hb α1 σ H1 ρ μ1 _ _ s1 (E.mono g1) q1 (post.mono g1)
    | _ => exact False.elim q1
theorem snd_not {ta : TE} {da : DTE} (ha : SndE K ta da) : SndE K (tNotV ta) (dNot da) := fun α σ H ρ μ Qd Q S E h post =>
  ha α σ H ρ μ _ _ S E h fun v1 H1 α1 μ1 d1 g1 s1 r1 q1 => by
    cases r1 with
    | bl b => exact ⟨b, rfl, post _ _ _ _ _ g1 s1 (.bl _) q1⟩
    | _ => exact False.elim q1
theorem snd_if {tt : TT} {ta tb : TE} {dt : DTT} {da db : DTE} (ht : SndT K tt dt) (ha : SndE K ta da) (hb : SndE K tb db) : SndE K (tIf tt ta tb) (dIf dt da db) := fun α σ H ρ μ Qd Q S E h post =>
  ht α σ H ρ μ _ _ S E h fun b H1 α1 μ1 g1 s1 q1 => by
    cases b with
    | true => exact ha α1 σ H1 ρ μ1 _ _ s1 (E.mono g1) q1 (post.mono g1)
    | false => exact hb α1 σ H1 ρ μ1 _ _ s1 (E.mono g1) q1 (post.mono g1)
theorem snd_ifL {tt : TT} {ta tb : TE} {dt : DTT} {da db : DTL} (ht : SndT K tt dt) (ha : SndL K ta da) (hb : SndL K tb db) : SndL K (tIf tt ta tb) (dIfL dt da db) := fun α σ H ρ μ Qd Q S E h post =>
  ht α σ H ρ μ _ _ S E h fun b H1 α1 μ1 g1 s1 q1 => by
    cases b with
    | true => exact ha α1 σ H1 ρ μ1 _ _ s1 (E.mono g1) q1 (post.mono g1)
    | false => exact hb α1 σ H1 ρ μ1 _ _ s1 (E.mono g1) q1 (post.mono g1)
theorem de_one {op} {a : Expr} {pos : Pos} {da : DTE} (h : PED X a da) : PED X (.BoolOp op [a] pos) da := by
  obtain ⟨te, a1, a2⟩ := h.ex
  exact ⟨te, pe_one a1, a2⟩
theorem de_and {a b : Expr} {rest : List Expr} {pos : Pos} {da db : DTE} (ha : PED X a da) (hb : PED X (.BoolOp .And (b :: rest) pos) db) : PED X (.BoolOp .And (a :: b :: rest) pos) (dAnd da db) := by
  obtain ⟨ta, a1, a2⟩ := ha.ex
  obtain ⟨tb, b1, b2⟩ := hb.ex
  exact ⟨_, pe_and a1 b1, snd_and a2 b2⟩
theorem de_or {a b : Expr} {rest : List Expr} {pos : Pos} {da db : DTE} (ha : PED X a da) (hb : PED X (.BoolOp .Or (b :: rest) pos) db) : PED X (.BoolOp .Or (a :: b :: rest) pos) (dOr da db) := by
  obtain ⟨ta, a1, a2⟩ := ha.ex
  obtain ⟨tb, b1, b2⟩ := hb.ex
  exact ⟨_, pe_or a1 b1, snd_or a2 b2⟩
theorem de_not {a : Expr} {pos : Pos} {da : DTE} (ha : PED X a da) : PED X (.UnaryOp .Not a pos) (dNot da) := by
  obtain ⟨ta, a1, a2⟩ := ha.ex
  exact ⟨_, pe_not a1, snd_not a2⟩
theorem de_if {c a b : Expr} {pos : Pos} {dt : DTT} {da db : DTE} (hc : PTD X c dt) (ha : PED X a da) (hb : PED X b db) : PED X (.IfExp c a b pos) (dIf dt da db) := by
  obtain ⟨tt, c1, c2⟩ := hc.ex
  obtain ⟨ta, a1, a2⟩ := ha.ex
  obtain ⟨tb, b1, b2⟩ := hb.ex
  exact ⟨_, pe_ifExp c1 a1 b1, snd_if c2 a2 b2⟩
theorem dl_if {c a b : Expr} {pos : Pos} {dt : DTT} {da db : DTL} (hc : PTD X c dt) (ha : PLD X a da) (hb : PLD X b db) : PLD X (.IfExp c a b pos) (dIfL dt da db) := by
  obtain ⟨tt, c1, c2⟩ := hc.ex
  obtain ⟨ta, a1, a2⟩ := ha.ex
  obtain ⟨tb, b1, b2⟩ := hb.ex
  exact ⟨_, pe_ifExp c1 a1 b1, snd_ifL c2 a2 b2⟩
/-- as tests -/
def dtAnd (da db : DTT) : DTT := fun ρ μ Q => da ρ μ fun b μ1 => if b = true then db ρ μ1 Q else Q false μ1
def dtOr (da db : DTT) : DTT := fun ρ μ Q => da ρ μ fun b μ1 => if b = true then Q true μ1 else db ρ μ1 Q
def dtNot (da : DTT) : DTT := fun ρ μ Q => da ρ μ fun b μ1 => Q (!b) μ1
theorem PWD.pt {e : Expr} {dt : DTT} (h : PWD X e dt) : PTD X e dt := by
  obtain ⟨tt, c1, c2⟩ := h.ex
  exact ⟨tt, c1.pt, c2⟩
theorem dw_and1 {a : Expr} {pos : Pos} {da : DTT} (ha : PTD X a da) : PWD X (.BoolOp .And [a] pos) da := by
  obtain ⟨ta, a1, a2⟩ := ha.ex
  exact ⟨_, pw_and1 a1, a2⟩
theorem dw_or1 {a : Expr} {pos : Pos} {da : DTT} (ha : PTD X a da) : PWD X (.BoolOp .Or [a] pos) da := by
  obtain ⟨ta, a1, a2⟩ := ha.ex
  exact ⟨_, pw_or1 a1, a2⟩
theorem dw_and {a b : Expr} {rest : List Expr} {pos : Pos} {da db : DTT} (ha : PTD X a da) (hb : PWD X (.BoolOp .And (b :: rest) pos) db) : PWD X (.BoolOp .And (a :: b :: rest) pos) (dtAnd da db) := by
  obtain ⟨ta, a1, a2⟩ := ha.ex
  obtain ⟨tb, b1, b2⟩ := hb.ex
  refine ⟨_, pw_and a1 b1, fun α σ H ρ μ Qd Q S E h post => a2 α σ H ρ μ _ _ S E h fun b H1 α1 μ1 g1 s1 q1 => ?_⟩
  cases b with
  | true => exact b2 α1 σ H1 ρ μ1 _ _ s1 (E.mono g1) q1 (post.mono g1)
  | false => exact post _ _ _ _ g1 s1 q1
theorem dw_or {a b : Expr} {rest : List Expr} {pos : Pos} {da db : DTT} (ha : PTD X a da) (hb : PWD X (.BoolOp .Or (b :: rest) pos) db) : PWD X (.BoolOp .Or (a :: b :: rest) pos) (dtOr da db) := by
  obtain ⟨ta, a1, a2⟩ := ha.ex
  obtain ⟨tb, b1, b2⟩ := hb.ex
  refine ⟨_, pw_or a1 b1, fun α σ H ρ μ Qd Q S E h post => a2 α σ H ρ μ _ _ S E h fun b H1 α1 μ1 g1 s1 q1 => ?_⟩
  cases b with
  | false => exact b2 α1 σ H1 ρ μ1 _ _ s1 (E.mono g1) q1 (post.mono g1)
  | true => exact post _ _ _ _ g1 s1 q1
theorem dt_not {a : Expr} {pos : Pos} {da : DTT} (ha : PTD X a da) : PTD X (.UnaryOp .Not a pos) (dtNot da) := by
  obtain ⟨ta, a1, a2⟩ := ha.ex
  exact ⟨_, pt_not a1, fun α σ H ρ μ Qd Q S E h post => a2 α σ H ρ μ _ _ S E h fun b H1 α1 μ1 g1 s1 q1 => post _ _ _ _ g1 s1 q1⟩

/-! ### argument lists, displays -/
def daNil : DTA := fun _ μ Q => Q [] μ
def daCons (de : DTE) (dr : DTA) : DTA := fun ρ μ Q => de ρ μ fun x μ1 => dr ρ μ1 fun xs μ2 => Q (x :: xs) μ2
theorem da_nil : PAD X [] daNil := ⟨_, pa_nil, fun α σ H ρ μ Qd Q S E h post => post _ _ _ _ _ (Gr.refl α H) S .nil h⟩
theorem snd_cons {te : TE} {tr : TA} {de : DTE} {dr : DTA} (h1 : SndE K te de) (h2 : SndA K tr dr) : SndA K (tCons te tr) (daCons de dr) := fun α σ H ρ μ Qd Q S E h post =>
  h1 α σ H ρ μ _ _ S E h fun v1 H1 α1 μ1 d1 g1 s1 r1 q1 => h2 α1 σ H1 ρ μ1 _ _ s1 (E.mono g1) q1 fun vs H2 α2 μ2 ds g2 s2 r2 q2 => post _ _ _ _ _ (g1.trans g2) s2 (.cons (r1.mono g2) r2) q2
theorem da_cons {e : Expr} {es : List Expr} {de : DTE} {dr : DTA} (he : PED X e de) (hr : PAD X es dr) (hs : starEach (e :: es) X.env = (false, eval e X.env) :: starEach es X.env := by rfl) : PAD X (e :: es) (daCons de dr) := by
  obtain ⟨te, a1, a2⟩ := he.ex
  obtain ⟨tr, b1, b2⟩ := hr.ex
  exact ⟨_, pa_cons a1 b1 hs, snd_cons a2 b2⟩
def dTup (da : DTA) : DTE := fun ρ μ Q => da ρ μ fun xs μ1 => xs.length ≤ sizeLine ∧ Q (.tup xs) μ1
def dLst (da : DTA) : DTL := fun ρ μ Q => da ρ μ fun xs μ1 => xs.length ≤ sizeLine ∧ Q xs μ1
theorem de_tup {es : List Expr} {da : DTA} {x1} {pos : Pos} (h : PAD X es da) : PED X (.Tuple es x1 pos) (dTup da) := by
  obtain ⟨ta, a1, a2⟩ := h.ex
  refine ⟨_, pe_tup a1, fun α σ H ρ μ Qd Q S E h post => a2 α σ H ρ μ _ _ S E h fun vs H1 α1 μ1 ds g1 s1 r1 q1 => ⟨by rw [r1.length]; exact q1.1, fun p hp => ?_⟩⟩
  exact (post.mono g1).tup s1 r1 q1.2 hp
theorem dl_lst {es : List Expr} {da : DTA} {pos : Pos} (h : PAD X es da) : PLD X (.List es pos) (dLst da) := by
  obtain ⟨ta, a1, a2⟩ := h.ex
  refine ⟨_, pe_lst a1, fun α σ H ρ μ Qd Q S E h post => a2 α σ H ρ μ _ _ S E h fun vs H1 α1 μ1 ds g1 s1 r1 q1 => ⟨by rw [r1.length]; exact q1.1, fun p hp => ?_⟩⟩
  exact (post.mono g1).here s1 r1 q1.2 hp

/-! ### operators, case by case -/
def rdI (C : Int → Int → Prop) (g : Int → Int → D) : D → D → Mu → DK → Prop := fun x y μ Q => match x, y with | .int i, .int j => C i j ∧ Q (g i j) μ | _, _ => False
def rdI0 (g : Int → Int → D) : D → D → Mu → DK → Prop := fun x y μ Q => match x, y with | .int i, .int j => Q (g i j) μ | _, _ => False
theorem snd_I {C : Int → Int → Prop} {g : Int → Int → V} {gd : Int → Int → D} (hg : ∀ i j α H, Rl K α H (g i j) (gd i j)) : SndR K (rI C g) (rdI C gd) := fun α H μ x y dx dy Qd Q S rx ry h post => by
  cases rx with
  | int i =>
    cases ry with
    | int j => exact ⟨i, j, rfl, rfl, h.1, post.here S (hg i j α H) h.2⟩
    | _ => exact False.elim h
  | _ => exact False.elim h
theorem snd_I0 {g : Int → Int → V} {gd : Int → Int → D} (hg : ∀ i j α H, Rl K α H (g i j) (gd i j)) : SndR K (rI0 g) (rdI0 gd) := fun α H μ x y dx dy Qd Q S rx ry h post => by
  cases rx with
  | int i =>
    cases ry with
    | int j => exact ⟨i, j, rfl, rfl, post.here S (hg i j α H) h⟩
    | _ => exact False.elim h
  | _ => exact False.elim h
abbrev oAdd := rdI0 fun i j => D.int (i + j)
abbrev oSub := rdI0 fun i j => D.int (i - j)
/-- a size that no sum of ours reaches -/
def bigN : Nat := 2 ^ 4000
theorem lt_big {n : Nat} (h : n < 2 ^ 250) : n < bigN := Nat.lt_trans h (Nat.pow_lt_pow_right (by decide) (by decide))
def MulOk (i j : Int) : Prop := (-(2 ^ 64) < i ∧ i < 2 ^ 64) ∨ (-(2 ^ 64) < j ∧ j < 2 ^ 64) ∨ (i.natAbs < bigN ∧ j.natAbs < bigN)
def DivOk (_ j : Int) : Prop := 0 < j ∧ j.natAbs < bigN
abbrev oMul := rdI MulOk fun i j => D.int (i * j)
abbrev oDiv := rdI DivOk fun i j => D.int (i / j)
abbrev oMod := rdI (fun _ j => 0 < j) fun i j => D.int (i % j)
abbrev oPow := rdI CPow fun i j => D.int (i ^ j.toNat)
abbrev oLt := rdI0 fun i j => D.bl (decide (i < j))
abbrev oLe := rdI0 fun i j => D.bl (decide (i ≤ j))
abbrev oGt := rdI0 fun i j => D.bl (decide (j < i))
abbrev oGe := rdI0 fun i j => D.bl (decide (j ≤ i))
theorem o_add : OpD X (binaryOp .Add) oAdd := ⟨_, op_add, snd_I0 fun _ _ _ _ => .int _⟩
theorem o_sub : OpD X (binaryOp .Sub) oSub := ⟨_, op_sub, snd_I0 fun _ _ _ _ => .int _⟩
theorem o_mul : OpD X (binaryOp .Mult) oMul := ⟨_, OpR.or op_mul op_mulW, fun α H μ x y dx dy Qd Q S rx ry h post => by
  cases rx with
  | int i =>
    cases ry with
    | int j =>
      obtain ⟨hc, h⟩ := h
      rcases hc with hc | hc | hc
      · exact .inl ⟨i, j, rfl, rfl, .inl hc, post.here S (.int _) h⟩
      · exact .inl ⟨i, j, rfl, rfl, .inr hc, post.here S (.int _) h⟩
      · exact .inr ⟨i, j, rfl, rfl, wide_mul hc.1 hc.2 (by decide) (by decide) (by decide), post.here S (.int _) h⟩
    | _ => exact False.elim h
  | _ => exact False.elim h⟩
theorem o_div : OpD X (binaryOp .FloorDiv) oDiv := ⟨_, op_fdivW, fun α H μ x y dx dy Qd Q S rx ry h post => by
  cases rx with
  | int i =>
    cases ry with
    | int j =>
      obtain ⟨hc, h⟩ := h
      exact ⟨i, j, rfl, rfl, wide_div hc.1 hc.2 (by decide) (by decide), post.here S (.int _) h⟩
    | _ => exact False.elim h
  | _ => exact False.elim h⟩
theorem o_mod : OpD X (binaryOp .Mod) oMod := ⟨_, op_mod, snd_I fun _ _ _ _ => .int _⟩
theorem o_pow : OpD X (binaryOp .Pow) oPow := ⟨_, op_pow, snd_I fun _ _ _ _ => .int _⟩
theorem o_lt : OpD X (compareOp .Lt) oLt := ⟨_, op_lt, snd_I0 fun _ _ _ _ => .bl _⟩
theorem o_le : OpD X (compareOp .LtE) oLe := ⟨_, op_le, snd_I0 fun _ _ _ _ => .bl _⟩
theorem o_gt : OpD X (compareOp .Gt) oGt := ⟨_, op_gt, snd_I0 fun _ _ _ _ => .bl _⟩
theorem o_ge : OpD X (compareOp .GtE) oGe := ⟨_, op_ge, snd_I0 fun _ _ _ _ => .bl _⟩
/-- -a -/
def uNeg : D → Mu → DK → Prop := fun x μ Q => match x with | .int i => Q (.int (-i)) μ | _ => False
theorem de_neg {a : Expr} {pos : Pos} {da : DTE} (ha : PED X a da) : PED X (.UnaryOp .USub a pos) (dUn uNeg da) := by
  obtain ⟨ta, a1, a2⟩ := ha.ex
  refine ⟨_, pe_un un_neg a1, snd_un (fun α H μ x dx Qd Q S r h post => ?_) a2⟩
  cases r with
  | int i => exact ⟨i, rfl, post.here S (.int _) h⟩
  | _ => exact False.elim h
/-- is None, is not None -/
def D.isNon : D → Bool
  | .non => true
  | _ => false
def oIsN : D → D → Mu → DK → Prop := fun x y μ Q => match y with | .non => Q (.bl x.isNon) μ | _ => False
def oNotN : D → D → Mu → DK → Prop := fun x y μ Q => match y with | .non => Q (.bl (!x.isNon)) μ | _ => False
theorem Rl.isNon {v : V} {d : D} (r : Rl K α H v d) : decide (v = .non) = d.isNon := by
  cases r <;> first | rfl | exact decide_eq_false (fun z => nomatch z)
theorem o_isN : OpD X (compareOp .Is) oIsN := ⟨_, op_isN, fun α H μ x y dx dy Qd Q S rx ry h post => by
  cases ry with
  | non => exact ⟨rfl, by rw [rx.isNon]; exact post.here S (.bl _) h⟩
  | _ => exact False.elim h⟩
theorem o_notN : OpD X (compareOp .IsNot) oNotN := ⟨_, op_notN, fun α H μ x y dx dy Qd Q S rx ry h post => by
  cases ry with
  | non => exact ⟨rfl, by rw [rx.isNon]; exact post.here S (.bl _) h⟩
  | _ => exact False.elim h⟩
end
end Dl
/-! Dat2: readings over plain data: equality, items, calls of built-ins. -/
namespace Dl
open PySem PySem.Spec PyProof.Rows L2
variable {K : PySem.W.Frag} {α α1 : List Addr} {H H1 : Hp} {X : Cx}

/-! ### data as a tree -/
mutual
inductive Rs (μ : Mu) : D → PyData → Prop
  | non : Rs μ .non .none
  | bl (b : Bool) : Rs μ (.bl b) (.bool b)
  | int (i : Int) : Rs μ (.int i) (.int i)
  | str (x : Str) : Rs μ (.str x) (.str x)
  | tup {ds : List D} {ps : List PyData} : RsAll μ ds ps → Rs μ (.tup ds) (.tuple ps)
  | frz {ds : List D} {ps : List PyData} : RsAll μ ds ps → Rs μ (.frz ds) (.list ps)
  | cell {k : Nat} {ds : List D} {ps : List PyData} : μ k = some ds → RsAll μ ds ps → Rs μ (.cell k) (.list ps)
inductive RsAll (μ : Mu) : List D → List PyData → Prop
  | nil : RsAll μ [] []
  | cons {d : D} {ds : List D} {p : PyData} {ps : List PyData} : Rs μ d p → RsAll μ ds ps → RsAll μ (d :: ds) (p :: ps)
end
mutual
theorem Rl.dp {μ : Mu} (S : Sat K α H μ) : ∀ {d : D} {p : PyData} {v : V}, Rs μ d p → Rl K α H v d → Dp K H v p
  | _, _, _, .non, .non => .non
  | _, _, _, .bl b, .bl _ => .bl b
  | _, _, _, .int i, .int _ => .int i
  | _, _, _, .str x, .str _ => .str x
  | _, _, _, .tup r, .tup q r' => .tup q (Rl.dpAll S r r')
  | _, _, _, .frz r, .frz q r' => .lst q.seq (Rl.dpAll S r r')
  | _, _, _, .cell e r, .cell q => by
    obtain ⟨a, vs, h1, h2, h3⟩ := S.cell _ _ e
    rw [q] at h1
    cases h1
    exact .lst (.inl (.inl h2)) (Rl.dpAll S r h3)
theorem Rl.dpAll {μ : Mu} (S : Sat K α H μ) : ∀ {ds : List D} {ps : List PyData} {vs : List V}, RsAll μ ds ps → RlAll K α H vs ds → DpAll K H vs ps
  | _, _, _, .nil, .nil => .nil
  | _, _, _, .cons a b, .cons a' b' => .cons (Rl.dp S a a') (Rl.dpAll S b b')
end
/-- == of data -/
def deepEq (neg : Bool) (x y : D) (μ : Mu) (Q : DK) : Prop := ∃ p q, Rs μ x p ∧ Rs μ y q ∧ SeqAt.shaped p = true ∧ SeqAt.shaped q = true ∧ Q (.bl (if neg then !PyData.eqv p q else PyData.eqv p q)) μ
def oEq : D → D → Mu → DK → Prop := fun x y μ Q => match x, y with
  | .int i, .int j => Q (.bl (decide (i = j))) μ
  | .str i, .str j => Q (.bl (decide (i = j))) μ
  | .bl i, .bl j => Q (.bl (decide (i = j))) μ
  | x, y => deepEq false x y μ Q
def oNe : D → D → Mu → DK → Prop := fun x y μ Q => match x, y with
  | .int i, .int j => Q (.bl (!decide (i = j))) μ
  | .str i, .str j => Q (.bl (!decide (i = j))) μ
  | .bl i, .bl j => Q (.bl (!decide (i = j))) μ
  | x, y => deepEq true x y μ Q
theorem dec_inj {α β : Type} [DecidableEq α] [DecidableEq β] (f : α → β) (inj : ∀ a b, f a = f b → a = b) (a b : α) : decide (f a = f b) = decide (a = b) := by
  by_cases h : a = b
  · subst h
    simp
  · rw [decide_eq_false h, decide_eq_false fun e => h (inj _ _ e)]
theorem o_eq (hu : X.A.units + 64 < cLine) : OpD X (compareOp .Eq) oEq := by
  refine ⟨_, OpR.or op_eq (op_eqD hu), fun α H μ x y dx dy Qd Q S rx ry h post => ?_⟩
  have deep : deepEq false dx dy μ Qd → rEqD X.K x y H Q := fun ⟨p, q, h1, h2, h3, h4, h5⟩ => ⟨p, q, rx.dp S h1, ry.dp S h2, h3, h4, post.here S (.bl _) h5⟩
  unfold oEq at h
  split at h
  · cases rx; cases ry
    exact .inl ⟨rfl, by rw [dec_inj V.int (fun _ _ e => V.int.inj e)]; exact post.here S (.bl _) h⟩
  · cases rx; cases ry
    exact .inl ⟨rfl, by rw [dec_inj V.str (fun _ _ e => V.str.inj e)]; exact post.here S (.bl _) h⟩
  · cases rx; cases ry
    exact .inl ⟨rfl, by rw [dec_inj V.bl (fun _ _ e => V.bl.inj e)]; exact post.here S (.bl _) h⟩
  · exact .inr (deep h)
theorem o_ne (hu : X.A.units + 64 < cLine) : OpD X (compareOp .NotEq) oNe := by
  refine ⟨_, OpR.or op_ne (op_neD hu), fun α H μ x y dx dy Qd Q S rx ry h post => ?_⟩
  have deep : deepEq true dx dy μ Qd → rNeD X.K x y H Q := fun ⟨p, q, h1, h2, h3, h4, h5⟩ => ⟨p, q, rx.dp S h1, ry.dp S h2, h3, h4, post.here S (.bl _) h5⟩
  unfold oNe at h
  split at h
  · cases rx; cases ry
    exact .inl ⟨rfl, by rw [dec_inj V.int (fun _ _ e => V.int.inj e)]; exact post.here S (.bl _) h⟩
  · cases rx; cases ry
    exact .inl ⟨rfl, by rw [dec_inj V.str (fun _ _ e => V.str.inj e)]; exact post.here S (.bl _) h⟩
  · cases rx; cases ry
    exact .inl ⟨rfl, by rw [dec_inj V.bl (fun _ _ e => V.bl.inj e)]; exact post.here S (.bl _) h⟩
  · exact .inr (deep h)

/-! ### places -/
theorem RlAll.atI {vs : List V} {ds : List D} {i : Int} {d : D} (r : RlAll K α H vs ds) (h : atI ds i = some d) : ∃ v, atI vs i = some v ∧ Rl K α H v d := by
  unfold L2.atI at h ⊢
  rw [r.length]
  cases e : ixN ds.length i with
  | none =>
    rw [e] at h
    cases h
  | some j =>
    rw [e] at h
    exact r.get h
def oIx : D → D → Mu → DK → Prop := fun x y μ Q => match items μ x, y with
  | some ds, .int i => (match atI ds i with | some d => Q d μ | none => False)
  | _, _ => False
theorem snd_ix : SndR K (fun x y H Q => rIxL K x y H Q ∨ rIxT K x y H Q) oIx := fun α H μ x y dx dy Qd Q S rx ry h post => by
  unfold oIx at h
  split at h
  · rename_i ds i e
    split at h
    · rename_i d e2
      cases ry
      obtain ⟨a, vs, rfl, q, r⟩ := S.seq rx e
      obtain ⟨v, h1, h2⟩ := r.atI e2
      rcases q with q | q
      · exact .inl ⟨a, vs, i, v, rfl, rfl, q, h1, post.here S h2 h⟩
      · exact .inr ⟨a, vs, i, v, rfl, rfl, q, h1, post.here S h2 h⟩
    · exact h.elim
  · exact h.elim
theorem de_ix {a b : Expr} {pos : Pos} {da db : DTE} (ha : PED X a da) (hb : PED X b db) (hs : PlainIx b := by exact fun _ _ => rfl) : PED X (.Subscript a b pos) (dOp oIx da db) := by
  obtain ⟨ta, a1, a2⟩ := ha.ex
  obtain ⟨tb, b1, b2⟩ := hb.ex
  exact ⟨_, pe_ix (IxR.or ix_list ix_tup) a1 b1 hs, snd_op snd_ix a2 b2⟩

/-! ### calls of built-ins -/
structure CallD (X : Cx) (f : Value) (rd : List D → Mu → DK → Prop) : Prop where
  ex : ∃ r, CallR X f r ∧ SndC X.K r rd
structure CallLD (X : Cx) (f : Value) (rd : List D → Mu → (List D → Mu → Prop) → Prop) : Prop where
  ex : ∃ r, CallR X f r ∧ SndCL X.K r rd
def dCall (rd : List D → Mu → DK → Prop) (da : DTA) : DTE := fun ρ μ Q => da ρ μ fun ds μ1 => rd ds μ1 Q
def dCallF (rd : List D → Mu → (List D → Mu → Prop) → Prop) (da : DTA) : DTL := fun ρ μ Q => da ρ μ fun ds μ1 => rd ds μ1 Q
theorem snd_call {r : List V → Hp → VK → Prop} {rd : List D → Mu → DK → Prop} {ta : TA} {da : DTA} (hr : SndC K r rd) (ha : SndA K ta da) : SndE K (tCB r ta) (dCall rd da) := fun α σ H ρ μ Qd Q S E h post =>
  ha α σ H ρ μ _ _ S E h fun vs H1 α1 μ1 ds g1 s1 r1 q1 => hr α1 H1 μ1 vs ds Qd Q s1 r1 q1 (post.mono g1)
theorem snd_callF {r : List V → Hp → VK → Prop} {rd : List D → Mu → (List D → Mu → Prop) → Prop} {ta : TA} {da : DTA} (hr : SndCL K r rd) (ha : SndA K ta da) : SndL K (tCB r ta) (dCallF rd da) := fun α σ H ρ μ Qd Q S E h post =>
  ha α σ H ρ μ _ _ S E h fun vs H1 α1 μ1 ds g1 s1 r1 q1 => hr α1 H1 μ1 vs ds Qd Q s1 r1 q1 (post.mono g1)
section
variable {x : Str} {p pos : Pos} {e : Expr} {es : List Expr} {id T : String} {da : DTA}
theorem de_callB {rd : List D → Mu → DK → Prop} (hc : CallD X (.builtin id) rd) (hm : X.mg x = none) (hv : bootBuiltins x = some (.builtin id)) (ha : PAD X (e :: es) da) (hg : Gl X x := by rfl) (hn : x ≠ "__name__" := by decide) (hdb : (x == ("__debug__" : Str)) = false := by decide)
    (he : starEach (e :: es) X.env = (false, eval e X.env) :: starEach es X.env := by rfl) (hpl : (backTo pos (starEach es X.env)).any (·.1) = false := by rfl) : PED X (.Call (.Name x p) (e :: es) [] pos) (dCall rd da) := by
  obtain ⟨r, h1, h2⟩ := hc.ex
  obtain ⟨ta, a1, a2⟩ := ha.ex
  exact ⟨_, pe_callB h1 hg hm hv a1 hn hdb he hpl, snd_call h2 a2⟩
theorem de_callTy {rd : List D → Mu → DK → Prop} (hc : CallD X (.type T) rd) (hm : X.mg x = none) (hv : bootBuiltins x = some (.type T)) (ha : PAD X (e :: es) da) (hg : Gl X x := by rfl) (hn : x ≠ "__name__" := by decide) (hdb : (x == ("__debug__" : Str)) = false := by decide)
    (he : starEach (e :: es) X.env = (false, eval e X.env) :: starEach es X.env := by rfl) (hpl : (backTo pos (starEach es X.env)).any (·.1) = false := by rfl) : PED X (.Call (.Name x p) (e :: es) [] pos) (dCall rd da) := by
  obtain ⟨r, h1, h2⟩ := hc.ex
  obtain ⟨ta, a1, a2⟩ := ha.ex
  exact ⟨_, pe_callTy h1 hg hm hv a1 hn hdb he hpl, snd_call h2 a2⟩
theorem dl_callB {rd : List D → Mu → (List D → Mu → Prop) → Prop} (hc : CallLD X (.builtin id) rd) (hm : X.mg x = none) (hv : bootBuiltins x = some (.builtin id)) (ha : PAD X (e :: es) da) (hg : Gl X x := by rfl) (hn : x ≠ "__name__" := by decide) (hdb : (x == ("__debug__" : Str)) = false := by decide)
    (he : starEach (e :: es) X.env = (false, eval e X.env) :: starEach es X.env := by rfl) (hpl : (backTo pos (starEach es X.env)).any (·.1) = false := by rfl) : PLD X (.Call (.Name x p) (e :: es) [] pos) (dCallF rd da) := by
  obtain ⟨r, h1, h2⟩ := hc.ex
  obtain ⟨ta, a1, a2⟩ := ha.ex
  exact ⟨_, pe_callB h1 hg hm hv a1 hn hdb he hpl, snd_callF h2 a2⟩
theorem dl_callTy {rd : List D → Mu → (List D → Mu → Prop) → Prop} (hc : CallLD X (.type T) rd) (hm : X.mg x = none) (hv : bootBuiltins x = some (.type T)) (ha : PAD X (e :: es) da) (hg : Gl X x := by rfl) (hn : x ≠ "__name__" := by decide) (hdb : (x == ("__debug__" : Str)) = false := by decide)
    (he : starEach (e :: es) X.env = (false, eval e X.env) :: starEach es X.env := by rfl) (hpl : (backTo pos (starEach es X.env)).any (·.1) = false := by rfl) : PLD X (.Call (.Name x p) (e :: es) [] pos) (dCallF rd da) := by
  obtain ⟨r, h1, h2⟩ := hc.ex
  obtain ⟨ta, a1, a2⟩ := ha.ex
  exact ⟨_, pe_callTy h1 hg hm hv a1 hn hdb he hpl, snd_callF h2 a2⟩
end
/-- f(xs) that reads one list (or tuple), by what it holds; tp: tuples too -/
structure SeqD (X : Cx) (f : Value) (tp : Bool) (rs : List D → Mu → DK → Prop) : Prop where
  ex : ∃ r, CallR X f r ∧ ∀ α H μ p vs xs Qd (Q : VK), Sat X.K α H μ → (SqL X.K H p vs ∨ (tp = true ∧ SqT X.K H p vs)) → RlAll X.K α H vs xs → rs xs μ Qd → PostE X.K α H Qd Q → r [.ref p] H Q
structure SeqLD (X : Cx) (f : Value) (tp : Bool) (rs : List D → Mu → (List D → Mu → Prop) → Prop) : Prop where
  ex : ∃ r, CallR X f r ∧ ∀ α H μ p vs xs Qd (Q : VK), Sat X.K α H μ → (SqL X.K H p vs ∨ (tp = true ∧ SqT X.K H p vs)) → RlAll X.K α H vs xs → rs xs μ Qd → PostL X.K α H Qd Q → r [.ref p] H Q
def sitems (tp : Bool) (μ : Mu) (d : D) : Option (List D) := if tp then items μ d else litems μ d
theorem Sat.sitems {tp : Bool} {μ : Mu} {v : V} {d : D} {xs : List D} (S : Sat K α H μ) (r : Rl K α H v d) (h : sitems tp μ d = some xs) : ∃ a vs, v = .ref a ∧ (SqL K H a vs ∨ (tp = true ∧ SqT K H a vs)) ∧ RlAll K α H vs xs := by
  unfold Dl.sitems at h
  cases tp with
  | true =>
    obtain ⟨a, vs, e, q, r⟩ := S.seq r (by simpa using h)
    exact ⟨a, vs, e, q.imp id fun z => ⟨rfl, z⟩, r⟩
  | false =>
    obtain ⟨a, vs, e, q, r⟩ := S.list r (by simpa using h)
    exact ⟨a, vs, e, .inl q, r⟩
def dSeq1 (tp : Bool) (rs : List D → Mu → DK → Prop) : List D → Mu → DK → Prop := fun ds μ Q => match ds with | [x] => (match sitems tp μ x with | some xs => rs xs μ Q | none => False) | _ => False
def dSeqL1 (tp : Bool) (rs : List D → Mu → (List D → Mu → Prop) → Prop) : List D → Mu → (List D → Mu → Prop) → Prop := fun ds μ Q => match ds with | [x] => (match sitems tp μ x with | some xs => rs xs μ Q | none => False) | _ => False
theorem SeqD.call {f : Value} {tp : Bool} {rs : List D → Mu → DK → Prop} (h : SeqD X f tp rs) : CallD X f (dSeq1 tp rs) := by
  obtain ⟨r, h1, h2⟩ := h.ex
  refine ⟨r, h1, fun α H μ vs ds Qd Q S rr h post => ?_⟩
  cases rr with
  | nil => exact False.elim h
  | cons a b =>
    cases b with
    | cons _ _ => exact False.elim h
    | nil =>
      unfold dSeq1 at h
      dsimp only at h
      split at h
      · rename_i xs e
        obtain ⟨p, vs, rfl, q, r⟩ := S.sitems a e
        exact h2 α H μ p vs xs Qd Q S q r h post
      · exact False.elim h
theorem SeqLD.call {f : Value} {tp : Bool} {rs : List D → Mu → (List D → Mu → Prop) → Prop} (h : SeqLD X f tp rs) : CallLD X f (dSeqL1 tp rs) := by
  obtain ⟨r, h1, h2⟩ := h.ex
  refine ⟨r, h1, fun α H μ vs ds Qd Q S rr h post => ?_⟩
  cases rr with
  | nil => exact False.elim h
  | cons a b =>
    cases b with
    | cons _ _ => exact False.elim h
    | nil =>
      unfold dSeqL1 at h
      dsimp only at h
      split at h
      · rename_i xs e
        obtain ⟨p, vs, rfl, q, r⟩ := S.sitems a e
        exact h2 α H μ p vs xs Qd Q S q r h post
      · exact False.elim h
/-- f([..]): the fresh list is read and dropped -/
def dOf (rs : List D → Mu → DK → Prop) (dl : DTL) : DTE := fun ρ μ Q => dl ρ μ fun xs μ1 => rs xs μ1 Q
def dOfL (rs : List D → Mu → (List D → Mu → Prop) → Prop) (dl : DTL) : DTL := fun ρ μ Q => dl ρ μ fun xs μ1 => rs xs μ1 Q
theorem fresh_of {μ : Mu} {k : Nat} {p : Addr} {xs : List D} (n : μ k = none) (a : α[k]? = some p) (S : Sat K α H (μ.upd k xs)) : Sat K α H μ ∧ ∃ vs, H p = some (.lst vs) ∧ RlAll K α H vs xs := by
  refine ⟨S.sub (Mu.sub_upd n), ?_⟩
  obtain ⟨b, vs, h1, h2, h3⟩ := S.cell k xs Mu.upd_same
  rw [a] at h1
  cases h1
  exact ⟨vs, h2, h3⟩
section
variable {x : Str} {p pos : Pos} {e : Expr} {id T : String} {dl : DTL} {tp : Bool}
theorem de_ofB {rs : List D → Mu → DK → Prop} (hc : SeqD X (.builtin id) tp rs) (hm : X.mg x = none) (hv : bootBuiltins x = some (.builtin id)) (ha : PLD X e dl) (hg : Gl X x := by rfl) (hn : x ≠ "__name__" := by decide) (hdb : (x == ("__debug__" : Str)) = false := by decide)
    (he : starEach [e] X.env = (false, eval e X.env) :: starEach [] X.env := by rfl) (hpl : (backTo pos (starEach [] X.env)).any (·.1) = false := by rfl) : PED X (.Call (.Name x p) [e] [] pos) (dOf rs dl) := by
  obtain ⟨r, h1, h2⟩ := hc.ex
  obtain ⟨ta, a1, a2⟩ := ha.ex
  refine ⟨_, pe_callB h1 hg hm hv (pa_cons a1 pa_nil he) hn hdb he hpl, fun α σ H ρ μ Qd Q S E h post => a2 α σ H ρ μ _ _ S E h fun p k H1 α1 μ1 xs g1 n1 l1 s1 q1 => ?_⟩
  obtain ⟨s2, vs, hp, r1⟩ := fresh_of n1 l1 s1
  exact h2 α1 H1 μ1 p vs xs Qd Q s2 (.inl (.inl (.inl hp))) r1 q1 (post.mono g1)
theorem de_ofTy {rs : List D → Mu → DK → Prop} (hc : SeqD X (.type T) tp rs) (hm : X.mg x = none) (hv : bootBuiltins x = some (.type T)) (ha : PLD X e dl) (hg : Gl X x := by rfl) (hn : x ≠ "__name__" := by decide) (hdb : (x == ("__debug__" : Str)) = false := by decide)
    (he : starEach [e] X.env = (false, eval e X.env) :: starEach [] X.env := by rfl) (hpl : (backTo pos (starEach [] X.env)).any (·.1) = false := by rfl) : PED X (.Call (.Name x p) [e] [] pos) (dOf rs dl) := by
  obtain ⟨r, h1, h2⟩ := hc.ex
  obtain ⟨ta, a1, a2⟩ := ha.ex
  refine ⟨_, pe_callTy h1 hg hm hv (pa_cons a1 pa_nil he) hn hdb he hpl, fun α σ H ρ μ Qd Q S E h post => a2 α σ H ρ μ _ _ S E h fun p k H1 α1 μ1 xs g1 n1 l1 s1 q1 => ?_⟩
  obtain ⟨s2, vs, hp, r1⟩ := fresh_of n1 l1 s1
  exact h2 α1 H1 μ1 p vs xs Qd Q s2 (.inl (.inl (.inl hp))) r1 q1 (post.mono g1)
theorem dl_ofB {rs : List D → Mu → (List D → Mu → Prop) → Prop} (hc : SeqLD X (.builtin id) tp rs) (hm : X.mg x = none) (hv : bootBuiltins x = some (.builtin id)) (ha : PLD X e dl) (hg : Gl X x := by rfl) (hn : x ≠ "__name__" := by decide) (hdb : (x == ("__debug__" : Str)) = false := by decide)
    (he : starEach [e] X.env = (false, eval e X.env) :: starEach [] X.env := by rfl) (hpl : (backTo pos (starEach [] X.env)).any (·.1) = false := by rfl) : PLD X (.Call (.Name x p) [e] [] pos) (dOfL rs dl) := by
  obtain ⟨r, h1, h2⟩ := hc.ex
  obtain ⟨ta, a1, a2⟩ := ha.ex
  refine ⟨_, pe_callB h1 hg hm hv (pa_cons a1 pa_nil he) hn hdb he hpl, fun α σ H ρ μ Qd Q S E h post => a2 α σ H ρ μ _ _ S E h fun p k H1 α1 μ1 xs g1 n1 l1 s1 q1 => ?_⟩
  obtain ⟨s2, vs, hp, r1⟩ := fresh_of n1 l1 s1
  exact h2 α1 H1 μ1 p vs xs Qd Q s2 (.inl (.inl (.inl hp))) r1 q1 (post.mono g1)
end

/-! ### the built-ins -/
theorem rl1 {vs : List V} {d : D} (r : RlAll K α H vs [d]) : ∃ v, vs = [v] ∧ Rl K α H v d := by
  cases r with
  | cons a b => cases b; exact ⟨_, rfl, a⟩
theorem rl2 {vs : List V} {d e : D} (r : RlAll K α H vs [d, e]) : ∃ v w, vs = [v, w] ∧ Rl K α H v d ∧ Rl K α H w e := by
  cases r with
  | cons a b =>
    obtain ⟨w, rfl, r2⟩ := rl1 b
    exact ⟨_, w, rfl, a, r2⟩
def cAbs : List D → Mu → DK → Prop := fun ds μ Q => match ds with | [.int i] => Q (.int (i.natAbs : Int)) μ | _ => False
theorem c_abs : CallD X (.builtin "abs") cAbs := ⟨_, call_abs, fun α H μ vs ds Qd Q S r h post => by
  unfold cAbs at h
  split at h
  · rename_i i
    obtain ⟨v, rfl, r1⟩ := rl1 r
    cases r1
    refine ⟨i, rfl, ?_⟩
    rw [show (if i < 0 then -i else i) = (i.natAbs : Int) by split <;> omega]
    exact post.here S (.int _) h
  · exact h.elim⟩
def cMax : List D → Mu → DK → Prop := fun ds μ Q => match ds with | [.int i, .int j] => Q (.int (max i j)) μ | _ => False
def cMin : List D → Mu → DK → Prop := fun ds μ Q => match ds with | [.int i, .int j] => Q (.int (min i j)) μ | _ => False
theorem c_max (hc : X.calm = true) : CallD X (.builtin "max") cMax := ⟨_, call_max2 hc, fun α H μ vs ds Qd Q S r h post => by
  unfold cMax at h
  split at h
  · rename_i i j
    obtain ⟨v, w, rfl, r1, r2⟩ := rl2 r
    cases r1; cases r2
    refine ⟨i, j, rfl, ?_⟩
    rw [show (if j > i then j else i) = max i j by split <;> omega]
    exact post.here S (.int _) h
  · exact h.elim⟩
theorem c_min (hc : X.calm = true) : CallD X (.builtin "min") cMin := ⟨_, call_min2 hc, fun α H μ vs ds Qd Q S r h post => by
  unfold cMin at h
  split at h
  · rename_i i j
    obtain ⟨v, w, rfl, r1, r2⟩ := rl2 r
    cases r1; cases r2
    refine ⟨i, j, rfl, ?_⟩
    rw [show (if j < i then j else i) = min i j by split <;> omega]
    exact post.here S (.int _) h
  · exact h.elim⟩
def cInt : List D → Mu → DK → Prop := fun ds μ Q => match ds with | [.int i] => Q (.int i) μ | _ => False
theorem c_int : CallD X (.type "int") cInt := ⟨_, call_int1, fun α H μ vs ds Qd Q S r h post => by
  unfold cInt at h
  split at h
  · rename_i i
    obtain ⟨v, rfl, r1⟩ := rl1 r
    cases r1
    exact .inl ⟨i, rfl, post.here S (.int _) h⟩
  · exact h.elim⟩
def cDivmod : List D → Mu → DK → Prop := fun ds μ Q => match ds with | [.int i, .int j] => CDiv i j ∧ Q (.tup [.int (i / j), .int (i % j)]) μ | _ => False
theorem c_divmod : CallD X (.builtin "divmod") cDivmod := ⟨_, call_divmod, fun α H μ vs ds Qd Q S r h post => by
  unfold cDivmod at h
  split at h
  · rename_i i j
    obtain ⟨v, w, rfl, r1, r2⟩ := rl2 r
    cases r1; cases r2
    exact ⟨i, j, rfl, h.1, fun p hp => post.tup S (.cons (.int _) (.cons (.int _) .nil)) h.2 hp⟩
  · exact h.elim⟩
def sLen : List D → Mu → DK → Prop := fun xs μ Q => Q (.int (xs.length : Nat)) μ
theorem s_len : SeqD X (.builtin "len") true sLen := ⟨_, call_len_seq, fun α H μ p vs xs Qd Q S q r h post => ⟨p, vs, rfl, q.imp id And.right, by rw [r.length]; exact post.here S (.int _) h⟩⟩
def sTup : List D → Mu → DK → Prop := fun xs μ Q => Q (.tup xs) μ
theorem s_tup : SeqD X (.type "tuple") true sTup := ⟨_, call_tuple_of, fun α H μ p vs xs Qd Q S q r h post => ⟨p, vs, rfl, by
  rcases q with q | ⟨_, q⟩
  · exact .inl ⟨q, fun l hl => post.tup S r h hl⟩
  · exact .inr ⟨q, post.here S (.tup q r) h⟩⟩⟩
def sLst : List D → Mu → (List D → Mu → Prop) → Prop := fun xs μ Q => Q xs μ
theorem s_lst : SeqLD X (.type "list") true sLst := ⟨_, call_list_of, fun α H μ p vs xs Qd Q S q r h post => ⟨p, vs, rfl, q.imp id And.right, fun l hl => post.here S r h hl⟩⟩
def sSum : List D → Mu → DK → Prop := fun xs μ Q => ∃ ns : List Int, xs = ns.map D.int ∧ Q (.int ns.sum) μ
theorem s_sum (hc : X.calm = true) : SeqD X (.builtin "sum") false sSum := ⟨_, cr_sum hc, fun α H μ p vs xs Qd Q S q r h post => by
  obtain ⟨ns, rfl, h⟩ := h
  have e := r.ints
  subst e
  exact ⟨p, ns, rfl, q.resolve_right (fun z => nomatch z.1), post.here S (.int _) h⟩⟩
def sAll : List D → Mu → DK → Prop := fun xs μ Q => ∃ bs : List Bool, xs = bs.map D.bl ∧ Q (.bl (bs.all id)) μ
def sAny : List D → Mu → DK → Prop := fun xs μ Q => ∃ bs : List Bool, xs = bs.map D.bl ∧ Q (.bl (bs.any id)) μ
theorem s_all (hc : X.calm = true) : SeqD X (.builtin "all") false sAll := ⟨_, cr_all hc, fun α H μ p vs xs Qd Q S q r h post => by
  obtain ⟨ns, rfl, h⟩ := h
  have e := r.bls
  subst e
  exact ⟨p, ns, rfl, q.resolve_right (fun z => nomatch z.1), post.here S (.bl _) h⟩⟩
theorem s_any (hc : X.calm = true) : SeqD X (.builtin "any") false sAny := ⟨_, cr_any hc, fun α H μ p vs xs Qd Q S q r h post => by
  obtain ⟨ns, rfl, h⟩ := h
  have e := r.bls
  subst e
  exact ⟨p, ns, rfl, q.resolve_right (fun z => nomatch z.1), post.here S (.bl _) h⟩⟩
/-- len of a text too -/
def sMax : List D → Mu → DK → Prop := fun xs μ Q => ∃ ns : List Int, xs = ns.map D.int ∧ 0 < ns.length ∧ ∀ m, m ∈ ns → (∀ y, y ∈ ns → y ≤ m) → Q (.int m) μ
def sMin : List D → Mu → DK → Prop := fun xs μ Q => ∃ ns : List Int, xs = ns.map D.int ∧ 0 < ns.length ∧ ∀ m, m ∈ ns → (∀ y, y ∈ ns → m ≤ y) → Q (.int m) μ
theorem s_max (hc : X.calm = true) : SeqD X (.builtin "max") false sMax := ⟨_, cr_max hc, fun α H μ p vs xs Qd Q S q r h post => by
  obtain ⟨ns, rfl, h0, h⟩ := h
  have e := r.ints
  subst e
  exact ⟨p, ns, rfl, q.resolve_right (fun z => nomatch z.1), h0, fun m h1 h2 => post.here S (.int _) (h m h1 h2)⟩⟩
theorem s_min (hc : X.calm = true) : SeqD X (.builtin "min") false sMin := ⟨_, cr_min hc, fun α H μ p vs xs Qd Q S q r h post => by
  obtain ⟨ns, rfl, h0, h⟩ := h
  have e := r.ints
  subst e
  exact ⟨p, ns, rfl, q.resolve_right (fun z => nomatch z.1), h0, fun m h1 h2 => post.here S (.int _) (h m h1 h2)⟩⟩

/-! ### isinstance -/
def tyD (μ : Mu) : D → Option String
  | .non => some "NoneType"
  | .bl _ => some "bool"
  | .int _ => some "int"
  | .str _ => some "str"
  | .tup _ => some "tuple"
  | .frz _ => some "list"
  | .cell k => (μ k).map fun _ => "list"
  | .ty _ => none
theorem Rl.tyX {μ : Mu} {v : V} {d : D} {t : String} (S : Sat K α H μ) (r : Rl K α H v d) (h : tyD μ d = some t) : TyX K H v (.type t) := by
  cases r with
  | non => cases h; exact .base .non
  | bl b => cases h; exact .base (.bl b)
  | int i => cases h; exact .base (.int i)
  | str x => cases h; exact .base (.str x)
  | ty n => cases h
  | tup q r =>
    cases h
    rcases q with (q | ⟨o, q⟩) | ⟨o, its, n, q, hc, _⟩
    · exact .base (.tup q)
    · exact .fTuple q
    · exact .kTuple q hc
  | frz q r =>
    cases h
    rcases q with ⟨o, q⟩ | q
    · exact .base (.frz q)
    · rcases q with (q | ⟨o, q⟩) | ⟨o, its, n, q, hc, _⟩
      · cases q
      · cases q
      · exact .kList q hc
  | @cell a k q =>
    cases e : μ k with
    | none =>
      rw [tyD, e] at h
      cases h
    | some xs =>
      rw [tyD, e] at h
      cases h
      obtain ⟨b, vs, h1, h2, h3⟩ := S.cell _ _ e
      rw [q] at h1
      cases h1
      exact .base (.lst h2)
def cIsi : List D → Mu → DK → Prop := fun ds μ Q => match ds with
  | [x, .ty n] => (match tyD μ x with | some t => (match kitB t n with | some b => Q (.bl b) μ | none => False) | none => False)
  | _ => False
theorem c_isi : CallD X (.builtin "isinstance") cIsi := ⟨_, call_isi, fun α H μ vs ds Qd Q S r h post => by
  unfold cIsi at h
  split at h
  · rename_i x n
    obtain ⟨v, w, rfl, r1, r2⟩ := rl2 r
    split at h
    · rename_i t e
      split at h
      · rename_i b e2
        cases r2
        exact ⟨v, .ty n, .type t, .type n, b, rfl, .ty n, r1.tyX S e, kit_ty e2, post.here S (.bl b) h⟩
      · exact h.elim
    · exact h.elim
  · exact h.elim⟩

/-! ### in, not in: numbers -/
def oIn (neg : Bool) : D → D → Mu → DK → Prop := fun x y μ Q => match x with
  | .int i => ∃ ns : List Int, items μ y = some (ns.map D.int) ∧ Q (.bl (if neg then !decide (i ∈ ns) else decide (i ∈ ns))) μ
  | _ => False
theorem inV_ints (i : Int) (ns : List Int) : inV (.int i) (ns.map V.int) = decide (i ∈ ns) := by
  unfold inV
  induction ns with
  | nil => simp
  | cons n ns ih =>
    rw [List.map_cons, List.any_cons, ih]
    have e : eqV (.int n) (.int i) = decide (n = i) := by
      by_cases h : n = i <;> simp [eqV, h]
    rw [e]
    by_cases h : n = i
    · subst h; simp
    · have h2 : ¬ i = n := fun z => h z.symm
      simp [h, h2]
theorem flat_ints (ns : List Int) : (ns.map V.int).all flatV = true := by
  rw [List.all_map, List.all_eq_true]
  intro x _
  rfl
theorem snd_in (neg : Bool) : SndR K (rIn K neg) (oIn neg) := fun α H μ x y dx dy Qd Q S rx ry h post => by
  unfold oIn at h
  split at h
  · rename_i i
    obtain ⟨ns, e, h⟩ := h
    obtain ⟨a, vs, rfl, q, r⟩ := S.seq ry e
    have e2 := r.ints
    subst e2
    cases rx
    refine ⟨a, _, rfl, q, rfl, flat_ints ns, ?_⟩
    rw [inV_ints]
    exact post.here S (.bl _) h
  · exact h.elim
theorem o_in : OpD X (compareOp .In) (oIn false) := ⟨_, op_in_seq, snd_in false⟩
theorem o_notIn : OpD X (compareOp .NotIn) (oIn true) := ⟨_, op_notIn_seq, snd_in true⟩

/-! ### tuples and lists put together, cut -/
def oCatT : D → D → Mu → DK → Prop := fun x y μ Q => match x, y with | .tup xs, .tup ys => xs.length + ys.length ≤ sizeLine ∧ Q (.tup (xs ++ ys)) μ | _, _ => False
theorem o_catT : OpD X (binaryOp .Add) oCatT := ⟨_, op_catA, fun α H μ x y dx dy Qd Q S rx ry h post => by
  unfold oCatT at h
  split at h
  · rename_i xs ys
    cases rx with
    | tup q r =>
      cases ry with
      | tup q' r' =>
        refine ⟨_, _, _, _, rfl, rfl, q, q', by rw [r.length, r'.length]; exact h.1, fun e => ?_, fun e e' => ?_, fun e e' p hp => ?_⟩
        · subst e
          have e2 := r.nilV
          subst e2
          exact post.here S (.tup q' r') h.2
        · subst e'
          have e2 := r'.nilV
          subst e2
          rw [List.append_nil] at h
          exact post.here S (.tup q r) h.2
        · exact post.tup S (r.append r') h.2 hp
  · exact h.elim⟩
def oCatL : D → D → Mu → (List D → Mu → Prop) → Prop := fun x y μ Q => match x, y with
  | .cell j, .cell k => (match μ j, μ k with | some xs, some ys => xs.length + ys.length ≤ sizeLine ∧ Q (xs ++ ys) μ | _, _ => False)
  | _, _ => False
theorem o_catL : OpLD X (binaryOp .Add) oCatL := ⟨_, op_cat, fun α H μ x y dx dy Qd Q S rx ry h post => by
  unfold oCatL at h
  split at h
  · rename_i j k
    split at h
    · rename_i xs ys e1 e2
      cases rx with
      | cell q =>
        cases ry with
        | cell q' =>
          obtain ⟨a, vs, h1, h2, h3⟩ := S.cell _ _ e1
          obtain ⟨b, ws, k1, k2, k3⟩ := S.cell _ _ e2
          rw [q] at h1
          rw [q'] at k1
          cases h1; cases k1
          exact ⟨_, _, _, _, rfl, rfl, h2, k2, by rw [h3.length, k3.length]; exact h.1, fun p hp => post.here S (h3.append k3) h.2 hp⟩
    · exact h.elim
  · exact h.elim⟩
def oRep : D → D → Mu → (List D → Mu → Prop) → Prop := fun x y μ Q => match x, y with
  | .cell j, .int n => (match μ j with | some xs => (-(2 ^ 63) ≤ n ∧ n < 2 ^ 63 ∧ xs.length * n.toNat ≤ sizeLine) ∧ Q (List.replicate n.toNat xs).flatten μ | _ => False)
  | _, _ => False
theorem o_rep : OpLD X (binaryOp .Mult) oRep := ⟨_, op_rep, fun α H μ x y dx dy Qd Q S rx ry h post => by
  unfold oRep at h
  split at h
  · rename_i j n
    split at h
    · rename_i xs e1
      cases rx with
      | cell q =>
        cases ry with
        | int n =>
          obtain ⟨a, vs, h1, h2, h3⟩ := S.cell _ _ e1
          rw [q] at h1
          cases h1
          exact ⟨_, n, _, rfl, rfl, h2, h.1.1, h.1.2.1, by rw [h3.length]; exact h.1.2.2, fun p hp => post.here S (h3.flat _) h.2 hp⟩
    · exact h.elim
  · exact h.elim⟩
/-- parts of slices -/
abbrev DTO := Rho → Mu → (Option Int → Mu → Prop) → Prop
structure POD (X : Cx) (e : Option Expr) (d : DTO) : Prop where
  ex : ∃ t, PO X e t ∧ ∀ α σ H ρ μ Qd (Q : Option Int → Hp → Prop), Sat X.K α H μ → EnvOk X.K α H σ ρ → d ρ μ Qd → (∀ o H' α' μ', Gr α H α' H' → Sat X.K α' H' μ' → Qd o μ' → Q o H') → t σ H Q
def doNone : DTO := fun _ μ Q => Q none μ
def doSome (de : DTE) : DTO := fun ρ μ Q => de ρ μ fun x μ1 => match x with | .int i => Q (some i) μ1 | _ => False
theorem do_none : POD X none doNone := ⟨_, po_none, fun α σ H ρ μ Qd Q S E h post => post _ _ _ _ (Gr.refl α H) S h⟩
theorem do_some {e : Expr} {de : DTE} (h : PED X e de) : POD X (some e) (doSome de) := by
  obtain ⟨te, a1, a2⟩ := h.ex
  refine ⟨_, po_some a1, fun α σ H ρ μ Qd Q S E h post => a2 α σ H ρ μ _ _ S E h fun v H1 α1 μ1 d g1 s1 r1 q1 => ?_⟩
  cases r1 with
  | int i => exact ⟨i, rfl, post _ _ _ _ g1 s1 q1⟩
  | _ => exact False.elim q1
/-- xs[lo:hi] of what stands at a list -/
def cutD (xs : List D) (lo hi : Option Int) : List D := (xs.drop (HT.sIx xs.length 0 lo)).take (HT.sIx xs.length xs.length hi - HT.sIx xs.length 0 lo)
theorem RlAll.cut {vs : List V} {ds : List D} (r : RlAll K α H vs ds) (lo hi : Option Int) : RlAll K α H (cutV vs lo hi) (cutD ds lo hi) := by
  unfold cutV cutD
  rw [r.length]
  exact (r.drop _).take _
def dSlL (de : DTE) (d1 d2 : DTO) : DTL := fun ρ μ Q => de ρ μ fun x μ1 => d1 ρ μ1 fun lo μ2 => d2 ρ μ2 fun hi μ3 => match litems μ3 x with | some xs => Q (cutD xs lo hi) μ3 | none => False
theorem dl_slice {e : Expr} {lo hi : Option Expr} {p2 pos : Pos} {de : DTE} {d1 d2 : DTO} (he : PED X e de) (h1 : POD X lo d1) (h2 : POD X hi d2) : PLD X (.Subscript e (.Slice lo hi none p2) pos) (dSlL de d1 d2) := by
  obtain ⟨te, a1, a2⟩ := he.ex
  obtain ⟨t1, b1, b2⟩ := h1.ex
  obtain ⟨t2, c1, c2⟩ := h2.ex
  refine ⟨_, pe_slice sl_list a1 b1 c1, fun α σ H ρ μ Qd Q S E h post => a2 α σ H ρ μ _ _ S E h fun v H1 α1 μ1 d g1 s1 r1 q1 =>
    b2 α1 σ H1 ρ μ1 _ _ s1 (E.mono g1) q1 fun o1 H2 α2 μ2 g2 s2 q2 => c2 α2 σ H2 ρ μ2 _ _ s2 ((E.mono g1).mono g2) q2 fun o2 H3 α3 μ3 g3 s3 q3 => ?_⟩
  split at q3
  · rename_i xs ex
    obtain ⟨a, vs, rfl, q, r⟩ := s3.list ((r1.mono g2).mono g3) ex
    exact ⟨a, vs, rfl, q, fun p hp => (post.mono ((g1.trans g2).trans g3)).here s3 (r.cut o1 o2) q3 hp⟩
  · exact False.elim q3
def dSlT (de : DTE) (d1 d2 : DTO) : DTE := fun ρ μ Q => de ρ μ fun x μ1 => d1 ρ μ1 fun lo μ2 => d2 ρ μ2 fun hi μ3 => match x with | .tup xs => Q (.tup (cutD xs lo hi)) μ3 | _ => False
theorem cut_all {β : Type} (xs : List β) (a b : Nat) (h0 : a = 0) (h1 : b = xs.length) : (xs.drop a).take (b - a) = xs := by
  subst h0 h1
  rw [List.drop_zero, Nat.sub_zero, List.take_length]
theorem de_sliceT {e : Expr} {lo hi : Option Expr} {p2 pos : Pos} {de : DTE} {d1 d2 : DTO} (he : PED X e de) (h1 : POD X lo d1) (h2 : POD X hi d2) : PED X (.Subscript e (.Slice lo hi none p2) pos) (dSlT de d1 d2) := by
  obtain ⟨te, a1, a2⟩ := he.ex
  obtain ⟨t1, b1, b2⟩ := h1.ex
  obtain ⟨t2, c1, c2⟩ := h2.ex
  refine ⟨_, pe_slice sl_tupA a1 b1 c1, fun α σ H ρ μ Qd Q S E h post => a2 α σ H ρ μ _ _ S E h fun v H1 α1 μ1 d g1 s1 r1 q1 =>
    b2 α1 σ H1 ρ μ1 _ _ s1 (E.mono g1) q1 fun o1 H2 α2 μ2 g2 s2 q2 => c2 α2 σ H2 ρ μ2 _ _ s2 ((E.mono g1).mono g2) q2 fun o2 H3 α3 μ3 g3 s3 q3 => ?_⟩
  have post3 := post.mono ((g1.trans g2).trans g3)
  have r3 := (r1.mono g2).mono g3
  cases r3 with
  | @tup a vs ds q r =>
    refine ⟨a, vs, rfl, q, fun w => ?_, fun _ p hp => post3.tup s3 (r.cut o1 o2) q3 hp⟩
    have e : cutD ds o1 o2 = ds := cut_all ds _ _ (by rw [← r.length]; exact w.1) (by rw [← r.length]; exact w.2)
    dsimp only at q3
    rw [e] at q3
    exact post3.here s3 (.tup q r) q3
  | _ => exact False.elim q3
end Dl
/-! Dat3: readings over plain data: statements, loops, comprehensions. -/
namespace Dl
open PySem PySem.Spec PyProof.Rows L2
variable {K : PySem.W.Frag} {α α1 : List Addr} {H H1 : Hp} {X : Cx}

structure DEnds where
  nx : Rho → Mu → Prop
  rt : DK
  bk : Rho → Mu → Prop := fun _ _ => False
  ct : Rho → Mu → Prop := fun _ _ => False
abbrev DTS := DEnds → Rho → Mu → Prop
/-- a mark whose kind names x: a simplifier told to let dependent arguments be (-dsimp) does not look into x -/
class Lk {β : Sort _} (x : β) : Type where
instance (priority := low) lkAll {β : Sort _} (x : β) : Lk x := ⟨⟩
def PostS (K : PySem.W.Frag) (α : List Addr) (H : Hp) (Qd : Rho → Mu → Prop) (Q : L2.St → Hp → Prop) : Prop := ∀ σ' H' α' ρ' μ', Gr α H α' H' → Sat K α' H' μ' → EnvOk K α' H' σ' ρ' → Qd ρ' μ' → Q σ' H'
theorem PostS.mono {Qd : Rho → Mu → Prop} {Q : L2.St → Hp → Prop} (g : Gr α H α1 H1) (p : PostS K α H Qd Q) : PostS K α1 H1 Qd Q := fun σ' H' α' ρ' μ' g' => p σ' H' α' ρ' μ' (g.trans g')
structure EndsOk (K : PySem.W.Frag) (α : List Addr) (H : Hp) (D : DEnds) (E : Ends) : Prop where
  nx : PostS K α H D.nx E.nx
  rt : PostE K α H D.rt E.rt
  bk : PostS K α H D.bk E.bk
  ct : PostS K α H D.ct E.ct
theorem EndsOk.mono {D : DEnds} {E : Ends} (g : Gr α H α1 H1) (e : EndsOk K α H D E) : EndsOk K α1 H1 D E := ⟨e.nx.mono g, e.rt.mono g, e.bk.mono g, e.ct.mono g⟩
def SndS (K : PySem.W.Frag) (ts : TS) (ds : DTS) : Prop := ∀ α σ H ρ μ (D : DEnds) (E : Ends), Sat K α H μ → EnvOk K α H σ ρ → ds D ρ μ → EndsOk K α H D E → ts E σ H
structure PSD (X : Cx) (st : Stmt) (ds : DTS) : Prop where
  ex : ∃ ts, PS X st ts ∧ SndS X.K ts ds
structure PSSD (X : Cx) (st : List Stmt) (ds : DTS) : Prop where
  ex : ∃ ts, PSs X st ts ∧ SndS X.K ts ds

def dNext : DTS := fun D ρ μ => D.nx ρ μ
/-- behind each statement what is known of the store may be less -/
def seqAt (t u : DTS) (D : DEnds) (ρ : Rho) (μ : Mu) [Lk t] [Lk u] [Lk D] : Prop := t { D with nx := fun ρ1 μ1 => ∃ μ2, Mu.Sub μ2 μ1 ∧ u D ρ1 μ2 } ρ μ
def dSeq (t u : DTS) [Lk t] [Lk u] : DTS := fun D ρ μ => seqAt t u D ρ μ
theorem dSeq_at (t u : DTS) (D : DEnds) (ρ : Rho) (μ : Mu) : dSeq t u D ρ μ = seqAt t u D ρ μ := rfl
theorem snd_next : SndS K tNext dNext := fun α σ H ρ μ D E S e h post => post.nx σ H α ρ μ (Gr.refl α H) S e h
theorem dss_nil : PSSD X [] dNext := ⟨_, pss_nil, snd_next⟩
theorem dss_cons {st : Stmt} {rest : List Stmt} {t u : DTS} (h1 : PSD X st t) (h2 : PSSD X rest u) : PSSD X (st :: rest) (dSeq t u) := by
  obtain ⟨t1, a1, a2⟩ := h1.ex
  obtain ⟨t2, b1, b2⟩ := h2.ex
  exact ⟨_, pss_cons a1 b1, fun α σ H ρ μ D E S e h post => a2 α σ H ρ μ _ _ S e h ⟨fun σ' H' α' ρ' μ' g S' e' ⟨μ2, sb, h'⟩ => b2 α' σ' H' ρ' μ2 D E (S'.sub sb) e' h' (post.mono g), post.rt, post.bk, post.ct⟩⟩
theorem dss_one {st : Stmt} {t : DTS} (h1 : PSD X st t) : PSSD X [st] t := by
  obtain ⟨t1, a1, a2⟩ := h1.ex
  exact ⟨_, pss_one a1, a2⟩
theorem ds_pass {pos : Pos} : PSD X (.Pass pos) dNext := ⟨_, ps_pass, snd_next⟩
def dBreak : DTS := fun D ρ μ => D.bk ρ μ
def dCont : DTS := fun D ρ μ => D.ct ρ μ
theorem ds_break {pos : Pos} : PSD X (.Break pos) dBreak := ⟨_, ps_break, fun α σ H ρ μ D E S e h post => post.bk σ H α ρ μ (Gr.refl α H) S e h⟩
theorem ds_continue {pos : Pos} : PSD X (.Continue pos) dCont := ⟨_, ps_continue, fun α σ H ρ μ D E S e h post => post.ct σ H α ρ μ (Gr.refl α H) S e h⟩
def dNever : DTS := fun _ _ _ => False
theorem ds_never {st : Stmt} : PSD X st dNever := ⟨_, ps_never, fun _ _ _ _ _ _ _ _ _ h _ => h.elim⟩
def dDrop (de : DTE) : DTS := fun D ρ μ => de ρ μ fun _ μ1 => D.nx ρ μ1
theorem ds_expr {e : Expr} {de : DTE} {pos : Pos} (he : PED X e de) (hs : swapsWith e none pos.line X.env = pure false := by rfl) : PSD X (.Expr e pos) (dDrop de) := by
  obtain ⟨te, a1, a2⟩ := he.ex
  exact ⟨_, ps_expr a1 hs, fun α σ H ρ μ D E S e h post => a2 α σ H ρ μ _ _ S e h fun v H' α' μ' d g S' r h' => post.nx σ H' α' ρ μ' g S' (e.mono g) h'⟩
def dRet (de : DTE) : DTS := fun D ρ μ => de ρ μ D.rt
theorem ds_ret {e : Expr} {de : DTE} {pos : Pos} (he : PED X e de) : PSD X (.Return (some e) pos) (dRet de) := by
  obtain ⟨te, a1, a2⟩ := he.ex
  exact ⟨_, ps_ret a1, fun α σ H ρ μ D E S e h post => a2 α σ H ρ μ _ _ S e h post.rt⟩
def dRetN : DTS := fun D _ μ => D.rt .non μ
theorem ds_retN {pos : Pos} : PSD X (.Return none pos) dRetN := ⟨_, ps_retN, fun α σ H ρ μ D E S e h post => post.rt _ _ _ _ _ (Gr.refl α H) S .non h⟩
def dIfS (dt : DTT) (t u : DTS) : DTS := fun D ρ μ => dt ρ μ fun b μ1 => if b = true then t D ρ μ1 else u D ρ μ1
theorem ds_if {c : Expr} {a b : List Stmt} {dt : DTT} {t u : DTS} {pos : Pos} (hc : PTD X c dt) (ha : PSSD X a t) (hb : PSSD X b u) : PSD X (.If c a b pos) (dIfS dt t u) := by
  obtain ⟨tc, c1, c2⟩ := hc.ex
  obtain ⟨ta, a1, a2⟩ := ha.ex
  obtain ⟨tb, b1, b2⟩ := hb.ex
  refine ⟨_, ps_if c1 a1 b1, fun α σ H ρ μ D E S e h post => c2 α σ H ρ μ _ _ S e h fun k H' α' μ' g S' h' => ?_⟩
  cases k with
  | true => exact a2 α' σ H' ρ μ' D E S' (e.mono g) h' (post.mono g)
  | false => exact b2 α' σ H' ρ μ' D E S' (e.mono g) h' (post.mono g)

/-! ### targets -/
abbrev DTG := D → Rho → Mu → (Rho → Mu → Prop) → Prop
abbrev DTGs := List D → Rho → Mu → (Rho → Mu → Prop) → Prop
def SndG (K : PySem.W.Frag) (g : TG) (dg : DTG) : Prop := ∀ α σ H ρ μ v d Qd (Q : L2.St → Hp → Prop), Sat K α H μ → EnvOk K α H σ ρ → Rl K α H v d → dg d ρ μ Qd → PostS K α H Qd Q → g v σ H Q
def SndGs (K : PySem.W.Frag) (g : TGs) (dg : DTGs) : Prop := ∀ α σ H ρ μ vs ds Qd (Q : L2.St → Hp → Prop), Sat K α H μ → EnvOk K α H σ ρ → RlAll K α H vs ds → dg ds ρ μ Qd → PostS K α H Qd Q → g vs σ H Q
structure PGD (X : Cx) (e : Expr) (dg : DTG) : Prop where
  ex : ∃ g, PG X e g ∧ SndG X.K g dg
structure PGsD (X : Cx) (es : List Expr) (dg : DTGs) : Prop where
  ex : ∃ g, PGs X es g ∧ SndGs X.K g dg
def gdName (i : Nat) : DTG := fun d ρ μ Q => Q (ρ.set i (some d)) μ
theorem dg_name (i : Nat) {x : Str} {pos : Pos} (hN : X.N.Nodup) (hi : X.N[i]? = some x := by rfl) (hx : Loc X.env.scope x := by first | exact Or.inl rfl | exact Or.inr rfl) (hf : X.fn x = true ∨ X.env.scope.names.lookup x = some .local := by first | exact .inl rfl | exact .inr rfl | assumption) : PGD X (.Name x pos) (gdName i) :=
  ⟨_, pg_name hN hi hx hf, fun α σ H ρ μ v d Qd Q S e r h post => post _ _ _ _ _ (Gr.refl α H) S (e.set r) h⟩
def gdNil : DTGs := fun ds ρ μ Q => match ds with | [] => Q ρ μ | _ => False
def gdCons (g : DTG) (gs : DTGs) : DTGs := fun ds ρ μ Q => match ds with | d :: r => g d ρ μ fun ρ1 μ1 => gs r ρ1 μ1 Q | [] => False
def gdTup (n : Nat) (gs : DTGs) : DTG := fun d ρ μ Q => match d with | .tup ds => ds.length = n ∧ gs ds ρ μ Q | _ => False
theorem dgs_nil : PGsD X [] gdNil := ⟨_, pgs_nil, fun α σ H ρ μ vs ds Qd Q S e r h post => by
  cases r with
  | nil => exact ⟨rfl, post _ _ _ _ _ (Gr.refl α H) S e h⟩
  | cons _ _ => exact False.elim h⟩
theorem dgs_cons {e : Expr} {es : List Expr} {g : DTG} {gs : DTGs} (h1 : PGD X e g) (h2 : PGsD X es gs) (hs : ∀ {t : TG} {u : TGs}, PG X e t → PGs X es u → PGs X (e :: es) (gCons t u) := by intro _ _ a b; exact pgs_cons a b) : PGsD X (e :: es) (gdCons g gs) := by
  obtain ⟨t1, a1, a2⟩ := h1.ex
  obtain ⟨t2, b1, b2⟩ := h2.ex
  refine ⟨_, hs a1 b1, fun α σ H ρ μ vs ds Qd Q S e r h post => ?_⟩
  cases r with
  | nil => exact False.elim h
  | cons r rs => exact ⟨_, _, rfl, a2 α σ H ρ μ _ _ _ _ S e r h fun σ' H' α' ρ' μ' g S' e' h' => b2 α' σ' H' ρ' μ' _ _ _ _ S' e' (rs.mono g) h' (post.mono g)⟩
def gdSub (da di : DTE) : DTG := fun d ρ μ Q => da ρ μ fun o μ1 => di ρ μ1 fun i μ2 => match o, i with
  | .cell k, .int j => (match μ2 k with | some xs => (match ixN xs.length j with | some n => Q ρ (μ2.upd k (xs.set n d)) | none => False) | none => False)
  | _, _ => False
theorem dg_sub {o i : Expr} {da di : DTE} {pos : Pos} (ho : PED X o da) (hi : PED X i di) (mk : ∀ {ta ti : TE}, PE X o ta → PE X i ti → PG X (.Subscript o i pos) (gSub ta ti rSetL) := by intro _ _ a b; exact pg_sub a b set_list) : PGD X (.Subscript o i pos) (gdSub da di) := by
  obtain ⟨t1, a1, a2⟩ := ho.ex
  obtain ⟨t2, b1, b2⟩ := hi.ex
  refine ⟨_, mk a1 b1, fun α σ H ρ μ v d Qd Q S e r h post => a2 α σ H ρ μ _ _ S e h fun o H1 α1 μ1 od g1 S1 r1 q1 => b2 α1 σ H1 ρ μ1 _ _ S1 (e.mono g1) q1 fun j H2 α2 μ2 jd g2 S2 r2 q2 => ?_⟩
  have r1' := r1.mono g2
  split at q2
  · rename_i k j
    split at q2
    · rename_i xs e1
      split at q2
      · rename_i n en
        cases r1' with
        | cell qa =>
          cases r2
          obtain ⟨a, vs, h1, h2, h3⟩ := S2.cell _ _ e1
          rw [qa] at h1
          cases h1
          refine ⟨_, vs, j, n, rfl, rfl, h2, by rw [h3.length]; exact en, ?_⟩
          exact post _ _ _ _ _ ((g1.trans g2).trans (gr_set h2)) (S2.set qa h2 (h3.set (r.mono (g1.trans g2)) n)) (((e.mono g1).mono g2).mono (gr_set h2)) q2
      · exact False.elim q2
    · exact False.elim q2
  · exact False.elim q2

/-! ### assignments -/
def dAsg (de : DTE) (g : DTG) : DTS := fun D ρ μ => de ρ μ fun x μ1 => g x ρ μ1 D.nx
theorem snd_asg {te : TE} {de : DTE} {g : TG} {dg : DTG} (h1 : SndE K te de) (h2 : SndG K g dg) : SndS K (tAsg te g) (dAsg de dg) := fun α σ H ρ μ D E S e h post =>
  h1 α σ H ρ μ _ _ S e h fun v H' α' μ' d g S' r h' => h2 α' σ H' ρ μ' v d _ _ S' (e.mono g) r h' (post.nx.mono g)
theorem ds_asg {tg e : Expr} {de : DTE} {dg : DTG} {pos : Pos} (he : PED X e de) (hg : PGD X tg dg) (mk : ∀ {te : TE} {g : TG}, PE X e te → PG X tg g → PS X (.Assign [tg] e pos) (tAsg te g) := by intro _ _ a b; exact ps_asg a b) : PSD X (.Assign [tg] e pos) (dAsg de dg) := by
  obtain ⟨t1, a1, a2⟩ := he.ex
  obtain ⟨t2, b1, b2⟩ := hg.ex
  exact ⟨_, mk a1 b1, snd_asg a2 b2⟩
/-- a fresh list to one name, told apart: the cell's number is any new one -/
def dPar (i j : Nat) (da : DTA) : DTS := fun D ρ μ => da ρ μ fun ds μ1 => match ds with | [v, w] => D.nx ((ρ.set i (some v)).set j (some w)) μ1 | _ => False
theorem ds_par (i j : Nat) {x y : Str} {a b : Expr} {da : DTA} {px py pt pos : Pos} {kt k2 pt2} (hN : X.N.Nodup) (ha : PAD X [a, b] da) (hc : X.calm = true := by rfl) (hi : X.N[i]? = some x := by rfl) (hj : X.N[j]? = some y := by rfl) (hij : i ≠ j := by decide)
    (hx : X.env.scope.names.lookup x = some .local := by rfl) (hy : X.env.scope.names.lookup y = some .local := by rfl)
    (hw : swappedStores [.Tuple [.Name x px, .Name y py] kt pt] (.Tuple [a, b] k2 pt2) X.env = pure (some [x, y]) := by rfl)
    (hs : swapsWithSole [.Tuple [.Name x px, .Name y py] kt pt] (.Tuple [a, b] k2 pt2) pos.line X.env = pure false := by rfl) :
    PSD X (.Assign [.Tuple [.Name x px, .Name y py] kt pt] (.Tuple [a, b] k2 pt2) pos) (dPar i j da) := by
  obtain ⟨t1, a1, a2⟩ := ha.ex
  refine ⟨_, ps_par hc hN hi hj hij hx hy a1 hw hs, fun α σ H ρ μ D E S e h post => a2 α σ H ρ μ _ _ S e h fun vs H' α' μ' ds g S' r h' => ?_⟩
  unfold dPar at h
  split at h'
  · obtain ⟨v, w, rfl, r1, r2⟩ := rl2 r
    exact ⟨v, w, rfl, post.nx _ _ _ _ _ g S' (((e.mono g).set r1).set r2) h'⟩
  · exact False.elim h'

/-! ### what is walked -/
structure Src where
  its : List D
  keep : List (Nat × List D)
def Src.held (s : Src) (μ : Mu) : Prop := ∀ p ∈ s.keep, μ p.1 = some p.2
abbrev DTI := Rho → Mu → (Src → Mu → Prop) → Prop
structure ItOk (K : PySem.W.Frag) (J : It) (s : Src) (α : List Addr) (H : Hp) : Prop where
  ok : ∀ α' H' μ', Gr α H α' H' → Sat K α' H' μ' → s.held μ' → (∀ i, i < s.its.length → J.go i H') ∧ (∀ i, s.its.length ≤ i → J.stop i H') ∧
    ∀ i d v H2, s.its[i]? = some d → J.yld i H' v H2 → Gr α' H' α' H2 ∧ Sat K α' H2 μ' ∧ Rl K α' H2 v d
def SndI (K : PySem.W.Frag) (wi : TI) (di : DTI) : Prop := ∀ α σ H ρ μ Qd (R : It → Hp → Prop), Sat K α H μ → EnvOk K α H σ ρ → di ρ μ Qd →
  (∀ J H' α' μ' s, Gr α H α' H' → Sat K α' H' μ' → s.held μ' → ItOk K J s α' H' → Qd s μ' → R J H') → wi σ H R
structure PID (X : Cx) (tg iter : Expr) (di : DTI) : Prop where
  ex : ∃ wi, PI X tg iter wi ∧ SndI X.K wi di
theorem held_nil {xs : List D} {μ : Mu} : Src.held ⟨xs, []⟩ μ := fun _ h => nomatch h
theorem held_one {xs : List D} {μ : Mu} {k : Nat} {ys : List D} (h : μ k = some ys) : Src.held ⟨xs, [(k, ys)]⟩ μ := fun p hp => by
  cases hp with
  | head => exact h
  | tail _ hp => cases hp
theorem held_of {xs : List D} {μ : Mu} {k : Nat} {ys : List D} {r : List (Nat × List D)} (h : Src.held ⟨xs, (k, ys) :: r⟩ μ) : μ k = some ys := h (k, ys) (.head _)

def diLst (de : DTE) : DTI := fun ρ μ Q => de ρ μ fun x μ1 => match x with
  | .frz ds => Q ⟨ds, []⟩ μ1
  | .cell k => (match μ1 k with | some xs => Q ⟨xs, [(k, xs)]⟩ μ1 | none => False)
  | _ => False
def diTup (de : DTE) : DTI := fun ρ μ Q => de ρ μ fun x μ1 => match x with
  | .tup ds => Q ⟨ds, []⟩ μ1
  | _ => False
theorem itl_cell {a : Addr} {k : Nat} {xs : List D} (h : α[k]? = some a) : ItOk K (Itl K a) ⟨xs, [(k, xs)]⟩ α H := ⟨fun α' H' μ' g S hd => by
  obtain ⟨b, vs, h1, h2, h3⟩ := S.cell k xs (held_of hd)
  rw [g.pre _ _ h] at h1
  cases h1
  refine ⟨fun i hi => ⟨vs, vs[i]'(by rw [h3.length]; exact hi), .of h2, by simp⟩, fun i hi => ⟨vs, .of h2, by rw [h3.length]; exact hi⟩, fun i d v H2 hd hy => ?_⟩
  obtain ⟨rfl, hy⟩ := hy
  obtain ⟨w, e, r⟩ := h3.get hd
  have e2 := hy vs (.of h2)
  rw [e] at e2
  cases e2
  exact ⟨Gr.refl _ _, S, r⟩⟩
theorem itl_frz {a : Addr} {vs : List V} {xs : List D} (q : FrzL K H a vs) (r0 : RlAll K α H vs xs) : ItOk K (Itl K a) ⟨xs, []⟩ α H := ⟨fun α' H' μ' g S hd => by
  have q' := (g.ext.frzL q).seq
  have h3 := r0.mono g
  refine ⟨fun i hi => ⟨vs, vs[i]'(by rw [h3.length]; exact hi), q', by simp⟩, fun i hi => ⟨vs, q', by rw [h3.length]; exact hi⟩, fun i d v H2 hd hy => ?_⟩
  obtain ⟨rfl, hy⟩ := hy
  obtain ⟨w, e, r⟩ := h3.get hd
  have e2 := hy vs q'
  rw [e] at e2
  cases e2
  exact ⟨Gr.refl _ _, S, r⟩⟩
theorem itt_tup {a : Addr} {vs : List V} {xs : List D} (q : SqT K H a vs) (r0 : RlAll K α H vs xs) : ItOk K (Itt K a) ⟨xs, []⟩ α H := ⟨fun α' H' μ' g S hd => by
  have q' := g.ext.seqT q
  have h3 := r0.mono g
  refine ⟨fun i hi => ⟨vs, vs[i]'(by rw [h3.length]; exact hi), q', by simp⟩, fun i hi => ⟨vs, q', by rw [h3.length]; exact hi⟩, fun i d v H2 hd hy => ?_⟩
  obtain ⟨rfl, hy⟩ := hy
  obtain ⟨w, e, r⟩ := h3.get hd
  have e2 := hy vs q'
  rw [e] at e2
  cases e2
  exact ⟨Gr.refl _ _, S, r⟩⟩
theorem di_lst {tg l : Expr} {de : DTE} (h : PED X l de) : PID X tg l (diLst de) := by
  obtain ⟨t1, a1, a2⟩ := h.ex
  refine ⟨_, pi_list a1, fun α σ H ρ μ Qd R S e h post => a2 α σ H ρ μ _ _ S e h fun v H1 α1 μ1 d g1 S1 r1 q1 => ?_⟩
  cases r1 with
  | frz q r => exact ⟨_, rfl, ⟨_, q.seq⟩, post _ _ _ _ _ g1 S1 held_nil (itl_frz q r) q1⟩
  | @cell a k q =>
    dsimp only at q1
    split at q1
    · rename_i xs ex
      obtain ⟨b, vs, h1, h2, h3⟩ := S1.cell k xs ex
      rw [q] at h1
      cases h1
      exact ⟨_, rfl, ⟨_, .of h2⟩, post _ _ _ _ _ g1 S1 (held_one ex) (itl_cell q) q1⟩
    · exact False.elim q1
  | _ => exact False.elim q1
theorem di_tup {tg l : Expr} {de : DTE} (h : PED X l de) : PID X tg l (diTup de) := by
  obtain ⟨t1, a1, a2⟩ := h.ex
  refine ⟨_, pi_tup a1, fun α σ H ρ μ Qd R S e h post => a2 α σ H ρ μ _ _ S e h fun v H1 α1 μ1 d g1 S1 r1 q1 => ?_⟩
  cases r1 with
  | tup q r => exact ⟨_, rfl, ⟨_, q⟩, post _ _ _ _ _ g1 S1 held_nil (itt_tup q r) q1⟩
  | _ => exact False.elim q1
/-- lo, lo + 1, .. below hi -/
def rangeD (lo hi : Int) : List D := (List.range (hi - lo).toNat).map fun i => .int (lo + (i : Nat))
theorem rangeD_len (lo hi : Int) : (rangeD lo hi).length = (hi - lo).toNat := by
  unfold rangeD
  rw [List.length_map, List.length_range]
theorem itr_ok (lo hi : Int) : ItOk K (Itr lo (hi - lo).toNat) ⟨rangeD lo hi, []⟩ α H := ⟨fun α' H' μ' g S hd => by
  refine ⟨fun i hi => ?_, fun i hi => ?_, fun i d v H2 hd hy => ?_⟩
  · have hi : i < (rangeD lo _).length := hi
    rw [rangeD_len] at hi
    exact hi
  · have hi : (rangeD lo _).length ≤ i := hi
    rw [rangeD_len] at hi
    exact hi
  · obtain ⟨rfl, rfl⟩ := hy
    have hd : (rangeD lo hi)[i]? = some d := hd
    have hi := (List.getElem?_eq_some_iff.mp hd).1
    rw [rangeD_len] at hi
    unfold rangeD at hd
    rw [List.getElem?_map, List.getElem?_range hi] at hd
    cases hd
    exact ⟨Gr.refl _ _, S, .int _⟩⟩
def Rg (i : Int) : Prop := -(2 ^ 62) ≤ i ∧ i < 2 ^ 62
def diR1 (da : DTA) : DTI := fun ρ μ Q => da ρ μ fun ds μ1 => match ds with | [.int n] => Rg n ∧ Q ⟨rangeD 0 n, []⟩ μ1 | _ => False
def diR2 (da : DTA) : DTI := fun ρ μ Q => da ρ μ fun ds μ1 => match ds with | [.int lo, .int hi] => (Rg lo ∧ Rg hi) ∧ Q ⟨rangeD lo hi, []⟩ μ1 | _ => False
theorem di_r1 {tg a : Expr} {da : DTA} {p pos : Pos} (hm : X.mg "range" = none) (ha : PAD X [a] da) (hg : Gl X "range" := by rfl) (hs : starEach [a] X.env = [(false, eval a X.env)] := by rfl) : PID X tg (.Call (.Name "range" p) [a] [] pos) (diR1 da) := by
  obtain ⟨t1, a1, a2⟩ := ha.ex
  refine ⟨_, pi_range1 hg hm a1 hs, fun α σ H ρ μ Qd R S e h post => a2 α σ H ρ μ _ _ S e h fun vs H1 α1 μ1 ds g1 S1 r1 q1 => ?_⟩
  split at q1
  · rename_i n
    obtain ⟨v, rfl, r⟩ := rl1 r1
    cases r
    have e0 : n.toNat = (n - 0).toNat := by rw [Int.sub_zero]
    refine ⟨n, rfl, q1.1.1, q1.1.2, ?_⟩
    rw [e0]
    exact post _ _ _ _ _ g1 S1 held_nil (itr_ok 0 n) q1.2
  · exact False.elim q1
theorem di_r2 {tg a b : Expr} {da : DTA} {p pos : Pos} (hm : X.mg "range" = none) (ha : PAD X [a, b] da) (hg : Gl X "range" := by rfl) (hs : starEach [a, b] X.env = [(false, eval a X.env), (false, eval b X.env)] := by rfl) (hs2 : starEach [b] X.env = [(false, eval b X.env)] := by rfl) :
    PID X tg (.Call (.Name "range" p) [a, b] [] pos) (diR2 da) := by
  obtain ⟨t1, a1, a2⟩ := ha.ex
  refine ⟨_, pi_range2 hg hm a1 hs hs2, fun α σ H ρ μ Qd R S e h post => a2 α σ H ρ μ _ _ S e h fun vs H1 α1 μ1 ds g1 S1 r1 q1 => ?_⟩
  split at q1
  · rename_i lo hi
    obtain ⟨v, w, rfl, r, r'⟩ := rl2 r1
    cases r; cases r'
    exact ⟨lo, hi, rfl, ⟨q1.1.1.1, q1.1.1.2, q1.1.2.1, q1.1.2.2⟩, post _ _ _ _ _ g1 S1 held_nil (itr_ok lo hi) q1.2⟩
  · exact False.elim q1
/-- what stands at a list, with its cell -/
def lsrc (μ : Mu) : D → Option Src
  | .frz ds => some ⟨ds, []⟩
  | .cell k => (μ k).map fun xs => ⟨xs, [(k, xs)]⟩
  | _ => none
def enumD (xs : List D) : List D := xs.zipIdx.map fun p => .tup [.int (p.2 : Nat), p.1]
def zipD (xs ys : List D) : List D := List.zipWith (fun x y => .tup [x, y]) xs ys
/-- a list stays as it stands as long as its cell is held -/
structure LOk (K : PySem.W.Frag) (a : Addr) (s : Src) (α : List Addr) (H : Hp) : Prop where
  ok : ∀ α' H' μ', Gr α H α' H' → Sat K α' H' μ' → s.held μ' → ∃ vs, SqL K H' a vs ∧ RlAll K α' H' vs s.its
theorem lok_of {μ : Mu} {v : V} {d : D} {s : Src} (S : Sat K α H μ) (r : Rl K α H v d) (h : lsrc μ d = some s) : s.held μ ∧ ∃ a vs, v = .ref a ∧ SqL K H a vs ∧ LOk K a s α H := by
  cases r with
  | frz q r =>
    cases h
    exact ⟨held_nil, _, _, rfl, q.seq, ⟨fun α' H' μ' g S' hd => ⟨_, (g.ext.frzL q).seq, r.mono g⟩⟩⟩
  | @cell a k q =>
    cases e : μ k with
    | none =>
      rw [lsrc, e] at h
      cases h
    | some xs =>
      rw [lsrc, e] at h
      cases h
      obtain ⟨b, vs, h1, h2, h3⟩ := S.cell _ _ e
      rw [q] at h1
      cases h1
      refine ⟨held_one e, _, vs, rfl, .of h2, ⟨fun α' H' μ' g S' hd => ?_⟩⟩
      obtain ⟨c, ws, k1, k2, k3⟩ := S'.cell k xs (held_of hd)
      rw [g.pre _ _ q] at k1
      cases k1
      exact ⟨ws, .of k2, k3⟩
  | _ => cases h
def diEnum (de : DTE) : DTI := fun ρ μ Q => de ρ μ fun x μ1 => match lsrc μ1 x with | some s => Q ⟨enumD s.its, s.keep⟩ μ1 | none => False
def diZip (d1 d2 : DTE) : DTI := fun ρ μ Q => d1 ρ μ fun x μ1 => d2 ρ μ1 fun y μ2 => match lsrc μ2 x, lsrc μ2 y with | some s, some t => Q ⟨zipD s.its t.its, s.keep ++ t.keep⟩ μ2 | _, _ => False
theorem enumD_len (xs : List D) : (enumD xs).length = xs.length := by
  unfold enumD
  rw [List.length_map, List.length_zipIdx]
theorem enumD_get {xs : List D} {i : Nat} {d : D} (h : (enumD xs)[i]? = some d) : ∃ x, xs[i]? = some x ∧ d = .tup [.int (i : Nat), x] := by
  unfold enumD at h
  rw [List.getElem?_map, List.getElem?_zipIdx] at h
  cases e : xs[i]? with
  | none =>
    rw [e] at h
    cases h
  | some x =>
    rw [e] at h
    cases h
    exact ⟨x, rfl, by simp⟩
theorem zipD_get {xs ys : List D} {i : Nat} {d : D} (h : (zipD xs ys)[i]? = some d) : ∃ x y, xs[i]? = some x ∧ ys[i]? = some y ∧ d = .tup [x, y] := by
  unfold zipD at h
  rw [List.getElem?_zipWith] at h
  cases e : xs[i]? with
  | none =>
    rw [e] at h
    cases h
  | some x =>
    cases e2 : ys[i]? with
    | none =>
      rw [e, e2] at h
      cases h
    | some y =>
      rw [e, e2] at h
      cases h
      exact ⟨x, y, rfl, rfl, rfl⟩
theorem new_pair {μ : Mu} {v w : V} {d e : D} {T : Addr} (S : Sat K α H μ) (r : Rl K α H v d) (r' : Rl K α H w e) (h : H T = none) :
    Gr α H α (upd H T (.tup [v, w])) ∧ Sat K α (upd H T (.tup [v, w])) μ ∧ Rl K α (upd H T (.tup [v, w])) (.ref T) (.tup [d, e]) :=
  ⟨gr_new h, S.new h, .tup (.inl (.inl L2.upd_same)) (.cons (r.mono (gr_new h)) (.cons (r'.mono (gr_new h)) .nil))⟩
theorem di_enum {e : Expr} {de : DTE} {p pos tpos : Pos} {elts : List Expr} {kk : Nat} (hm : X.mg "enumerate" = none) (he : PED X e de) (hg : Gl X "enumerate" := by rfl) (hs : starEach [e] X.env = [(false, eval e X.env)] := by rfl) (hs1 : starEach [e] X.env = (false, eval e X.env) :: starEach [] X.env := by rfl) :
    PID X (.Tuple elts kk tpos) (.Call (.Name "enumerate" p) [e] [] pos) (diEnum de) := by
  obtain ⟨t1, a1, a2⟩ := he.ex
  refine ⟨_, pi_enum hg hm (pa_cons a1 pa_nil hs1) hs, fun α σ H ρ μ Qd R S en h post => a2 α σ H ρ μ _ _ S en h fun v H1 α1 μ1 d g1 S1 r1 q1 => ?_⟩
  split at q1
  · rename_i s es
    obtain ⟨hd, a, vs, rfl, q, L⟩ := lok_of S1 r1 es
    refine ⟨a, vs, rfl, q, post _ _ _ _ ⟨enumD s.its, s.keep⟩ g1 S1 hd ⟨fun α' H' μ' g S' hd' => ?_⟩ q1⟩
    obtain ⟨ws, q', r'⟩ := L.ok α' H' μ' g S' hd'
    refine ⟨fun i hi => ?_, fun i hi => ?_, fun i d v H2 hg hy => ?_⟩
    · have hi : i < (enumD s.its).length := hi
      rw [enumD_len, ← r'.length] at hi
      exact ⟨ws, ws[i], q', by simp⟩
    · have hi : (enumD s.its).length ≤ i := hi
      rw [enumD_len, ← r'.length] at hi
      exact ⟨ws, q', hi⟩
    · obtain ⟨x, hx, rfl⟩ := enumD_get hg
      obtain ⟨T, y, rfl, hT, rfl, hy⟩ := hy
      obtain ⟨w, hw, rw'⟩ := r'.get hx
      have e2 := hy ws q'
      rw [hw] at e2
      cases e2
      exact new_pair S' (.int _) rw' hT
  · exact False.elim q1
theorem di_zip {e e2 : Expr} {d1 d2 : DTE} {p pos tpos : Pos} {elts : List Expr} {kk : Nat} (hm : X.mg "zip" = none) (he : PED X e d1) (he2 : PED X e2 d2) (hg : Gl X "zip" := by rfl)
    (hs : starEach [e, e2] X.env = (false, eval e X.env) :: starEach [e2] X.env := by rfl) (hs2 : starEach [e2] X.env = (false, eval e2 X.env) :: starEach [] X.env := by rfl) (hpl : (backTo pos (starEach [e2] X.env)).any (·.1) = false := by rfl) :
    PID X (.Tuple elts kk tpos) (.Call (.Name "zip" p) [e, e2] [] pos) (diZip d1 d2) := by
  obtain ⟨t1, a1, a2⟩ := he.ex
  obtain ⟨t2, b1, b2⟩ := he2.ex
  refine ⟨_, pi_zip hg hm (pa_cons a1 (pa_cons b1 pa_nil hs2) hs) hs hpl, fun α σ H ρ μ Qd R S en h post => a2 α σ H ρ μ _ _ S en h fun v H1 α1 μ1 d g1 S1 r1 q1 => b2 α1 σ H1 ρ μ1 _ _ S1 (en.mono g1) q1 fun w H2 α2 μ2 dd g2 S2 r2 q2 => ?_⟩
  split at q2
  · rename_i s t es et
    obtain ⟨hd, a, vs, rfl, q, L⟩ := lok_of S2 (r1.mono g2) es
    obtain ⟨hd2, b, us, rfl, q', L'⟩ := lok_of S2 r2 et
    refine ⟨a, b, vs, us, rfl, q, q', post _ _ _ _ _ (g1.trans g2) S2 (fun p hp => ?_) ⟨fun α' H' μ' g S' hd' => ?_⟩ q2⟩
    · rcases List.mem_append.mp hp with hp | hp
      · exact hd p hp
      · exact hd2 p hp
    obtain ⟨ws, k1, k2⟩ := L.ok α' H' μ' g S' (fun p hp => hd' p (List.mem_append.mpr (.inl hp)))
    obtain ⟨zs, m1, m2⟩ := L'.ok α' H' μ' g S' (fun p hp => hd' p (List.mem_append.mpr (.inr hp)))
    have len : (zipD s.its t.its).length = min ws.length zs.length := by
      unfold zipD
      rw [List.length_zipWith, k2.length, m2.length]
    refine ⟨fun i hi => ?_, fun i hi => ?_, fun i d v H3 hg hy => ?_⟩
    · have hi : i < (zipD s.its t.its).length := hi
      rw [len] at hi
      exact ⟨ws, zs, ws[i]'(by omega), zs[i]'(by omega), k1, m1, by simp, by simp⟩
    · have hi : (zipD s.its t.its).length ≤ i := hi
      rw [len] at hi
      exact ⟨ws, zs, k1, m1, by omega⟩
    · obtain ⟨x, y, hx, hz, rfl⟩ := zipD_get hg
      obtain ⟨T, x1, x2, rfl, hT, rfl, hy1, hy2⟩ := hy
      obtain ⟨w1, hw1, rw1⟩ := k2.get hx
      obtain ⟨w2, hw2, rw2⟩ := m2.get hz
      have e1 := hy1 ws k1
      have e2 := hy2 zs m1
      rw [hw1] at e1
      rw [hw2] at e2
      cases e1; cases e2
      exact new_pair S' rw1 rw2 hT
  · exact False.elim q2

/-! ### for, while -/
def forIn (s : Src) (g : DTG) (body : DTS) (D : DEnds) (ρ : Rho) (μ1 : Mu) [Lk s] [Lk g] [Lk body] [Lk D] [Lk ρ] [Lk μ1] : Prop := ∃ W : Nat → Rho → Mu → Prop, W 0 ρ μ1 ∧
  (∀ i x ρ' μ', s.its[i]? = some x → W i ρ' μ' → s.held μ' ∧ g x ρ' μ' fun ρ2 μ2 => body { D with nx := W (i + 1), ct := W (i + 1), bk := D.nx } ρ2 μ2) ∧
  ∀ ρ' μ', W s.its.length ρ' μ' → s.held μ' ∧ D.nx ρ' μ'
def dFor (di : DTI) (g : DTG) (body : DTS) [Lk di] [Lk g] [Lk body] : DTS := fun D ρ μ => di ρ μ fun s μ1 => forIn s g body D ρ μ1
theorem ds_for {tg iter : Expr} {body : List Stmt} {di : DTI} {g : DTG} {db : DTS} {pos : Pos} (hi : PID X tg iter di) (hg : PGD X tg g) (hb : PSSD X body db) (hp : PassesOwn (model X.prog X.w) X.A X.env X.xe := by exact PassesOwn.never) (hc : X.calm = true := by rfl)
    (hs : ∀ x, foldedSetIterable iter X.env x = pure x := by intro _; rfl) : PSD X (.For tg iter body [] pos) (dFor di g db) := by
  obtain ⟨wi, i1, i2⟩ := hi.ex
  obtain ⟨tg', g1, g2⟩ := hg.ex
  obtain ⟨tb, b1, b2⟩ := hb.ex
  refine ⟨_, ps_for hp hc i1 g1 b1 hs, fun α σ H ρ μ D E S e h post => i2 α σ H ρ μ _ _ S e h fun J H1 α1 μ1 s gr S1 hd1 I q1 => ?_⟩
  obtain ⟨W, w0, ws, wd⟩ := q1
  refine ⟨fun i m σ' H' => i ≤ s.its.length ∧ m = s.its.length - i ∧ ∃ α' ρ' μ', Gr α1 H1 α' H' ∧ Sat X.K α' H' μ' ∧ EnvOk X.K α' H' σ' ρ' ∧ W i ρ' μ',
    ⟨_, Nat.zero_le _, rfl, α1, ρ, μ1, Gr.refl _ _, S1, e.mono gr, w0⟩, fun i m σ' H' hW => ?_⟩
  obtain ⟨hi, rfl, α', ρ', μ', gr', S', e', w⟩ := hW
  by_cases hlt : i < s.its.length
  · obtain ⟨hd, q⟩ := ws i s.its[i] ρ' μ' (List.getElem?_eq_getElem hlt) w
    obtain ⟨go, _, yl⟩ := I.ok α' H' μ' gr' S' hd
    refine .inr ⟨go i hlt, fun σ2 H2 => ∃ α2 ρ2 μ2, Gr α1 H1 α2 H2 ∧ Sat X.K α2 H2 μ2 ∧ EnvOk X.K α2 H2 σ2 ρ2 ∧ W (i + 1) ρ2 μ2, fun σ2 H2 hN => ?_, fun x H2 hy => ?_⟩
    · exact ⟨s.its.length - (i + 1), by omega, hlt, rfl, hN⟩
    · obtain ⟨gy, Sy, ry⟩ := yl i _ x H2 (List.getElem?_eq_getElem hlt) hy
      refine g2 α' σ' H2 ρ' μ' x _ _ _ Sy (e'.mono gy) ry q fun σ3 H3 α3 ρ3 μ3 g3 S3 e3 q3 => ?_
      have gg : Gr α1 H1 α3 H3 := (gr'.trans gy).trans g3
      refine b2 α3 σ3 H3 ρ3 μ3 _ _ S3 e3 q3 ⟨?_, ((post.mono gr).mono gg).rt, ((post.mono gr).mono gg).nx, ?_⟩
      · exact fun σ4 H4 α4 ρ4 μ4 g4 S4 e4 q4 => ⟨α4, ρ4, μ4, gg.trans g4, S4, e4, q4⟩
      · exact fun σ4 H4 α4 ρ4 μ4 g4 S4 e4 q4 => ⟨α4, ρ4, μ4, gg.trans g4, S4, e4, q4⟩
  · have ei : i = s.its.length := by omega
    subst ei
    obtain ⟨hd, q⟩ := wd ρ' μ' w
    obtain ⟨_, st, _⟩ := I.ok α' H' μ' gr' S' hd
    exact .inl ⟨st _ (Nat.le_refl _), (post.mono gr).nx _ _ _ _ _ gr' S' e' q⟩
def dWhile (c : DTT) (body : DTS) [Lk c] [Lk body] : DTS := fun D ρ μ => ∃ (W : Rho → Mu → Prop) (m : Rho → Mu → Nat), W ρ μ ∧ ∀ ρ' μ', W ρ' μ' → c ρ' μ' fun b μ1 =>
  if b = true then body { D with nx := fun ρ2 μ2 => W ρ2 μ2 ∧ m ρ2 μ2 < m ρ' μ', ct := fun ρ2 μ2 => W ρ2 μ2 ∧ m ρ2 μ2 < m ρ' μ', bk := D.nx } ρ' μ1 else D.nx ρ' μ1
theorem ds_while {c : Expr} {body : List Stmt} {dc : DTT} {db : DTS} {pos : Pos} (hc : PTD X c dc) (hb : PSSD X body db) (hp : PassesOwn (model X.prog X.w) X.A X.env X.xe := by exact PassesOwn.never) : PSD X (.While c body [] pos) (dWhile dc db) := by
  obtain ⟨tc, c1, c2⟩ := hc.ex
  obtain ⟨tb, b1, b2⟩ := hb.ex
  refine ⟨_, ps_while hp c1 b1, fun α σ H ρ μ D E S e h post => ?_⟩
  obtain ⟨W, m, w0, ws⟩ := h
  refine ⟨fun n σ' H' => ∃ α' ρ' μ', Gr α H α' H' ∧ Sat X.K α' H' μ' ∧ EnvOk X.K α' H' σ' ρ' ∧ W ρ' μ' ∧ n = m ρ' μ', ⟨_, α, ρ, μ, Gr.refl _ _, S, e, w0, rfl⟩, fun n σ' H' hW => ?_⟩
  obtain ⟨α', ρ', μ', g', S', e', w, rfl⟩ := hW
  refine c2 α' σ' H' ρ' μ' _ _ S' e' (ws ρ' μ' w) fun b H2 α2 μ2 g2 S2 q2 => ?_
  cases b with
  | false => exact post.nx _ _ _ _ _ (g'.trans g2) S2 (e'.mono g2) q2
  | true =>
    refine ⟨fun σ3 H3 => ∃ α3 ρ3 μ3, Gr α H α3 H3 ∧ Sat X.K α3 H3 μ3 ∧ EnvOk X.K α3 H3 σ3 ρ3 ∧ W ρ3 μ3 ∧ m ρ3 μ3 < m ρ' μ', fun σ3 H3 hN => ?_, ?_⟩
    · obtain ⟨α3, ρ3, μ3, g3, S3, e3, w3, l3⟩ := hN
      exact ⟨_, l3, α3, ρ3, μ3, g3, S3, e3, w3, rfl⟩
    · have gg := g'.trans g2
      refine b2 α2 σ' H2 ρ' μ2 _ _ S2 (e'.mono g2) q2 ⟨?_, (post.mono gg).rt, (post.mono gg).nx, ?_⟩
      · exact fun σ4 H4 α4 ρ4 μ4 g4 S4 e4 q4 => ⟨α4, ρ4, μ4, gg.trans g4, S4, e4, q4.1, q4.2⟩
      · exact fun σ4 H4 α4 ρ4 μ4 g4 S4 e4 q4 => ⟨α4, ρ4, μ4, gg.trans g4, S4, e4, q4.1, q4.2⟩

/-! ### comprehensions -/
/-- k: the new list's cell; W: what holds ahead of the i-th turn -/
def lcIn (s : Src) (g : DTG) (tt : DTT) (de : DTE) (ρ : Rho) (Q : List D → Mu → Prop) (μ1 : Mu) [Lk s] [Lk g] [Lk tt] [Lk de] [Lk ρ] [Lk Q] [Lk μ1] : Prop := ∀ k, μ1 k = none → ∃ W : Nat → Mu → Prop, W 0 (μ1.upd k []) ∧
  (∀ i x μ', s.its[i]? = some x → W i μ' → s.held μ' ∧ g x ρ μ' fun ρ2 μ2 => tt ρ2 μ2 fun b μ3 => if b = true then de ρ2 μ3 fun y μ4 => ∃ acc, μ4 k = some acc ∧ acc.length < sizeLine ∧ W (i + 1) (μ4.upd k (acc ++ [y])) else W (i + 1) μ3) ∧
  ∀ μ', W s.its.length μ' → s.held μ' ∧ ∃ xs μ2, μ' k = some xs ∧ μ2 k = none ∧ Mu.Sub (μ2.upd k xs) μ' ∧ Q xs μ2
def dLc (di : DTI) (g : DTG) (tt : DTT) (de : DTE) (vs : List Nat) [Lk di] [Lk g] [Lk tt] [Lk de] [Lk vs] : DTL := fun ρ μ Q => di ρ μ fun s μ1 => lcIn s g tt de (wipeD ρ vs) Q μ1
/-- the target keeps the other slots -/
def WipeG (g : TG) (vs : List Nat) : Prop := ∀ v σ H Q, g v σ H Q → g v σ H fun σ2 H2 => L2.wipe σ2 vs = L2.wipe σ vs ∧ Q σ2 H2
structure PTsD (X : Cx) (ifs : List Expr) (dt : DTT) : Prop where
  ex : ∃ tt, PTs X ifs tt ∧ SndT X.K tt dt
def dYes : DTT := fun _ μ Q => Q true μ
theorem snd_yes : SndT K tYes dYes := fun α σ H ρ μ Qd Q S E h post => post _ _ _ _ (Gr.refl α H) S h
theorem snd_lc {wi : TI} {di : DTI} {g : TG} {dg : DTG} {tt : TT} {dt : DTT} {te : TE} {de : DTE} {vs : List Nat} (hi : SndI K wi di) (hg : SndG K g dg) (hw : ∀ σ, ∀ v H Q, g v (L2.wipe σ vs) H Q → g v (L2.wipe σ vs) H fun σ2 H2 => L2.wipe σ2 vs = L2.wipe σ vs ∧ Q σ2 H2) (ht : SndT K tt dt) (he : SndE K te de) :
    SndL K (tLc wi g tt te vs) (dLc di dg dt de vs) := fun α σ H ρ μ Qd Q S e h post => hi α σ H ρ μ _ _ S e h fun J H1 α1 μ1 s gr S1 hd1 I q1 => by
  intro Da hD
  obtain ⟨W, w0, ws, wd⟩ := q1 α1.length S1.fresh
  have gA : Gr α1 H1 (α1 ++ [Da]) (upd H1 Da (.lst [])) := gr_push (Ext.new hD)
  have SA : Sat K (α1 ++ [Da]) (upd H1 Da (.lst [])) (μ1.upd α1.length []) := S1.alloc hD .nil
  have eA : EnvOk K (α1 ++ [Da]) (upd H1 Da (.lst [])) (L2.wipe σ vs) (wipeD ρ vs) := ((e.mono gr).mono gA).wipe vs
  refine ⟨fun i m H' => i ≤ s.its.length ∧ m = s.its.length - i ∧ ∃ α' μ', Gr (α1 ++ [Da]) (upd H1 Da (.lst [])) α' H' ∧ Sat K α' H' μ' ∧ W i μ', ⟨_, Nat.zero_le _, rfl, _, _, Gr.refl _ _, SA, w0⟩, fun i m H' hW => ?_⟩
  obtain ⟨hi, rfl, α', μ', gr', S', w⟩ := hW
  have atD : α'[α1.length]? = some Da := gr'.pre _ _ at_push
  by_cases hlt : i < s.its.length
  · obtain ⟨hd, q⟩ := ws i s.its[i] μ' (List.getElem?_eq_getElem hlt) w
    obtain ⟨go, _, yl⟩ := I.ok α' H' μ' (gA.trans gr') S' hd
    refine .inr ⟨go i hlt, fun H2 => ∃ α2 μ2, Gr (α1 ++ [Da]) (upd H1 Da (.lst [])) α2 H2 ∧ Sat K α2 H2 μ2 ∧ W (i + 1) μ2, fun H2 hN => ⟨s.its.length - (i + 1), by omega, hlt, rfl, hN⟩, fun x H2 hy => ?_⟩
    obtain ⟨gy, Sy, ry⟩ := yl i _ x H2 (List.getElem?_eq_getElem hlt) hy
    refine hw σ x H2 _ (hg α' (L2.wipe σ vs) H2 (wipeD ρ vs) μ' x _ _ _ Sy ((eA.mono gr').mono gy) ry q fun σ3 H3 α3 ρ3 μ3 g3 S3 e3 q3 => ?_)
    refine ht α3 σ3 H3 ρ3 μ3 _ _ S3 e3 q3 fun b H4 α4 μ4 g4 S4 q4 => ?_
    have gg : Gr (α1 ++ [Da]) (upd H1 Da (.lst [])) α4 H4 := ((gr'.trans gy).trans g3).trans g4
    cases b with
    | false => exact ⟨α4, μ4, gg, S4, q4⟩
    | true =>
      refine he α4 σ3 H4 ρ3 μ4 _ _ S4 (e3.mono g4) q4 fun y H5 α5 μ5 dy g5 S5 r5 q5 => ?_
      obtain ⟨acc, ea, hz, w5⟩ := q5
      obtain ⟨b, us, h1, h2, h3⟩ := S5.cell _ _ ea
      have at5 := (gg.trans g5).pre _ _ (at_push (α := α1) (a := Da))
      rw [at5] at h1
      cases h1
      exact ⟨us, h2, by rw [h3.length]; exact hz, α5, _, (gg.trans g5).trans (gr_set h2), S5.set at5 h2 (h3.append (.cons r5 .nil)), w5⟩
  · have ei : i = s.its.length := by omega
    subst ei
    obtain ⟨hd, xs, μ2, ex, n2, sb, q⟩ := wd μ' w
    obtain ⟨_, st, _⟩ := I.ok α' H' μ' (gA.trans gr') S' hd
    exact .inl ⟨st _ (Nat.le_refl _), post Da _ H' α' μ2 xs ((gr.trans gA).trans gr') n2 atD (S'.sub sb) q⟩
end Dl
/-! Dat4: defs by what they do with plain data; the law's end; repr. -/
namespace Dl
open PySem PySem.Spec PyProof.Rows L2

/-- a def's promise over data -/
abbrev DSp := List D → Mu → DK → Prop
section
variable (P : Program) (w : World) (K : PySem.W.Frag) (mg : Str → Option Value) (base : Heap)
/-- the def at f keeps sp wherever no display is under way -/
structure FnG (k : Nat) (f : Addr) (fd : FuncData) (ps : List Str) (sp : DSp) : Prop where
  len : ∀ ds μ Q, sp ds μ Q → ds.length = ps.length
  run : ∀ (A : Around) (outer : List Env) (s : Shared) (H : Hp) (args : Args) (us : List Value) (vs : List V) (α : List Addr) (μ : Mu) (ds : List D) (Qd : DK) (Q : VK),
    Room k A → A.guards = some [] → Env0 P w K mg base A outer s H → us.length = ps.length → BindsTo s fd args (ps.zip us) → Vals vs us → Sat K α H μ → RlAll K α H vs ds → sp ds μ Qd → PostE K α H Qd Q →
    codeAny (model P w) A (.call (.ref f) args) (CR CX0 outer P w H s Q E0) s
/-- the module's name x holds the def st of the text, which keeps sp -/
structure Has (k : Nat) (x : Str) (st : Stmt) (ps : List Str) (sp : DSp) : Prop where
  ex : ∃ f fd, mg x = some (.ref f) ∧ Fun K x x st f fd ∧ FnG P w K mg base k f fd ps sp
/-- the module's name x holds the def st of the text -/
structure Txt (x : Str) (st : Stmt) : Prop where
  ex : ∃ f fd, mg x = some (.ref f) ∧ Fun K x x st f fd
abbrev bodyX (N : List Str) (qual : Str) (sc : Scope) (f : Addr) (cdv : Value) (A : Around) (outer : List Env) (s : Shared) (H : Hp) : Cx := (cxOf CX0 P w K mg base N qual sc f cdv A outer s H E0).nox
end
def startD (N : List Str) (ds : List D) : Rho := ds.map some ++ List.replicate (N.length - ds.length) none
def retD (Q : DK) : DEnds := { nx := fun _ μ => ∃ μ', Mu.Sub μ' μ ∧ Q .non μ', rt := fun d μ => ∃ μ', Mu.Sub μ' μ ∧ Q d μ' }

section
variable {P : Program} {w : World} {K : PySem.W.Frag} {mg : Str → Option Value} {base : Heap} {α : List Addr} {H : Hp}
theorem RlAll.at : ∀ {vs : List V} {ds : List D} {n : Nat}, RlAll K α H vs ds → ∀ (i : Nat) d, (ds.map some ++ List.replicate n none)[i]? = some (some d) → ∃ v, (vs.map some ++ List.replicate n none)[i]? = some (some v) ∧ Rl K α H v d
  | _, _, n, .nil, i, d, h => by
    simp only [List.map_nil, List.nil_append, List.getElem?_replicate] at h
    split at h <;> cases h
  | _, _, n, .cons a b, 0, d, h => by
    simp only [List.map_cons, List.cons_append, List.getElem?_cons_zero, Option.some.injEq] at h
    subst h
    exact ⟨_, rfl, a⟩
  | _, _, n, .cons a b, i + 1, d, h => by
    simp only [List.map_cons, List.cons_append, List.getElem?_cons_succ] at h ⊢
    exact RlAll.at b i d h
theorem env_start {N : List Str} {vs : List V} {ds : List D} (r : RlAll K α H vs ds) : EnvOk K α H (L2.start N vs) (startD N ds) := by
  unfold L2.start startD
  rw [r.length]
  refine ⟨?_, r.at⟩
  simp only [List.length_append, List.length_map, List.length_replicate, r.length]
/-- THE RULE for a def of the text -/
theorem Txt.has {x : Str} {st : Stmt} {N ps : List Str} {k : Nat} {sp : DSp} (T : Txt K mg x st) (S : FnScope N ps (defScope st)) (len : ∀ ds μ Q, sp ds μ Q → ds.length = ps.length)
    (hbody : ∀ (f : Addr) (cdv : Value) (A : Around) (outer : List Env) (s : Shared) (H : Hp), Room k (bodyX P w K mg base N x (defScope st) f cdv A outer s H).A → (bodyX P w K mg base N x (defScope st) f cdv A outer s H).A.guards = some [] →
      ∃ db, PSSD (bodyX P w K mg base N x (defScope st) f cdv A outer s H) (defBody st) db ∧ ∀ ds μ Q, sp ds μ Q → db (retD Q) (startD N ds) μ) : Has P w K mg base (k + 1) x st ps sp := by
  obtain ⟨f, fd, hm, F⟩ := T.ex
  refine ⟨f, fd, hm, F, ⟨len, ?_⟩⟩
  intro A outer s H args us vs α μ ds Qd Q hr hgd e0 hl hb rv S0 rd hsp post
  obtain ⟨oc, od, kV, doc, pm, an, cdv, ct, osl, rfl, lk, hcd⟩ := F.ex
  have kin : K.In s.heap := e0.mod.kin.keeps (fun b o z => (e0.bs b o z).1)
  have nol : s.heap.NoLimit := e0.mod.nolimit.keeps (fun b o z => (e0.bs b o z).1)
  have kinds : ∀ y ∈ ps.zip us, (defScope st).names.lookup y.1 = some .local ∨ ((defScope st).names.lookup y.1 = some .cell ∧ ((cellsFrom (s.heap.objs.size + 1) (defScope st).names []).lookup y.1).isSome = true) := by
    rintro ⟨n, u⟩ hy
    cases S.par n (List.of_mem_zip hy).1 with
    | inl q => exact Or.inl q
    | inr q => exact Or.inr ⟨q, PySem.W.cellsFrom_some _ _ _ (Or.inl q)⟩
  refine codeAny_call_function hr.depth (kin _ _ lk) rfl S.co S.gen rfl (PySem.W.codeRec_of kin hcd) (hb _ _ _ _ ?_)
  refine wpAny_newFunctionEnv_cells S.kind kinds fun env he s1 new => ?_
  subst he
  refine ⟨nol.keeps new.toInCall.keep, codeAny_func ?_⟩
  obtain ⟨db, B, hq⟩ := hbody f cdv A outer s H (hr.deeper _) hgd
  obtain ⟨t, ht, snd⟩ := B.ex
  have J : Inv (bodyX P w K mg base N x (defScope st) f cdv A outer s H) [] (L2.start N vs) H s1 := (inv_start (E := E0) (CX := CX0) S hr.hd e0 (by rw [rv.length]; exact hl) rv new).wish _
  have fin : ∀ {σ2 : L2.St} {H2 : Hp} {v : V} {u : Value} {s2 : Shared}, Inv (bodyX P w K mg base N x (defScope st) f cdv A outer s H) [] σ2 H2 s2 → RelV v u → Q v H2 → CE outer P w H s Q u s2 :=
    fun {σ2 H2 v u s2} I rv q => ⟨v, H2, I.os, I.bare, I.base, I.hok, rv, q⟩
  have q0 : t { nx := fun _ H' => Q .non H', rt := Q } (L2.start N vs) H := by
    refine snd α (L2.start N vs) H (startD N ds) μ _ _ S0 (env_start rd) (hq ds μ Qd hsp) ⟨?_, ?_, ?_, ?_⟩
    · rintro σ' H' α' ρ' μ' g S' _ ⟨μ'', sb, q⟩
      exact post _ _ _ _ _ g (S'.sub sb) .non q
    · rintro v H' α' μ' d g S' r ⟨μ'', sb, q⟩
      exact post _ _ _ _ _ g (S'.sub sb) r q
    · intro σ' H' α' ρ' μ' _ _ _ q
      exact q.elim
    · intro σ' H' α' ρ' μ' _ _ _ q
      exact q.elim
  refine wpAny_mono (ht.run [] s1 _ H _ J q0) (fun fl s2 hs => ?_) fun e s2 hs => hs.elim
  cases fl with
  | next =>
    obtain ⟨σ2, H2, I2, q⟩ := hs
    exact fin (v := V.non) (u := Value.none) I2 rfl q
  | ret u =>
    obtain ⟨v, σ2, H2, I2, rv2, q⟩ := hs
    exact fin I2 rv2 q
  | brk => exact hs.elim fun _ h => h.elim fun _ h => h.2.elim
  | cont => exact hs.elim fun _ h => h.elim fun _ h => h.2.elim
theorem Has.mono {j k : Nat} {x : Str} {st : Stmt} {ps : List Str} {sp : DSp} (h : Has P w K mg base j x st ps sp) (hk : j ≤ k) : Has P w K mg base k x st ps sp := by
  obtain ⟨f, fd, hm, F, G⟩ := h.ex
  exact ⟨f, fd, hm, F, ⟨G.len, fun A outer s H args us vs α μ ds Qd Q hr => G.run A outer s H args us vs α μ ds Qd Q (hr.mono hk)⟩⟩
end

/-! ### calls -/
section
variable {X : Cx} {k : Nat} {x : Str} {st : Stmt} {ps : List Str} {sp : DSp} {p pos : Pos}
/-- how a def binds so many arguments, and keywords: g puts them in the parameters' order -/
def BindK (st : Stmt) (x : Str) (ps ks : List Str) (n : Nat) (g : {β : Type} → List β → List β → List β) : Prop :=
  ∀ (kV doc pm : Value) (an : Option Addr) (cdv ct : Value) (us ws : List Value), us.length = n → ws.length = ks.length → (g us ws).length = ps.length ∧ bindArgs (PySem.W.fnOf x x (defArgs st) (defBody st) (defScope st) .none kV doc pm an cdv ct) ⟨us, ks.zip ws⟩ = pure (ps.zip (g us ws))
/-- the places of a list, in another sequence -/
def permG (l : List Nat) {β : Type} (_ as : List β) : List β := l.filterMap fun i => as[i]?
theorem perm_rl {K : PySem.W.Frag} {α : List Addr} {H : Hp} {vs : List V} {ds : List D} (r : RlAll K α H vs ds) : ∀ (l : List Nat), RlAll K α H (permG l [] vs) (permG l [] ds)
  | [] => .nil
  | i :: l => by
    unfold permG
    rw [List.filterMap_cons, List.filterMap_cons]
    cases e : ds[i]? with
    | some d =>
      obtain ⟨v, h1, h2⟩ := r.get e
      rw [h1]
      exact .cons h2 (perm_rl r l)
    | none =>
      have e2 : vs[i]? = none := by
        cases q : vs[i]? with
        | none => rfl
        | some v =>
          obtain ⟨d, h1, _⟩ := r.getV q
          rw [e] at h1
          cases h1
      rw [e2]
      exact perm_rl r l
theorem perm_vals {vs : List V} {us : List Value} (r : Vals vs us) : ∀ (l : List Nat), Vals (permG l [] vs) (permG l [] us)
  | [] => .nil
  | i :: l => by
    unfold permG
    rw [List.filterMap_cons, List.filterMap_cons]
    cases e : vs[i]? with
    | some v =>
      obtain ⟨u, h1, h2⟩ := r.get e
      rw [h1]
      exact .cons h2 (perm_vals r l)
    | none =>
      rw [r.none_of e]
      exact perm_vals r l
theorem run_g {X : Cx} {f : Addr} {fd : FuncData} (F : FnG X.prog X.w X.K X.mg X.base k f fd ps sp) (hr : Room k X.A) (hgd : X.A.guards = some []) {pins : List (Addr × Obj)} {σ : L2.St} {H : Hp} {s : Shared} {Q : VK} {us : List Value} {kw : List (Str × Value)} {zs : List Value} {vs : List V} {α : List Addr} {μ : Mu} {ds : List D} {Qd : DK}
    (I : Inv X pins σ H s) (hl : zs.length = ps.length) (hb : BindsTo s fd ⟨us, kw⟩ (ps.zip zs)) (r : Vals vs zs) (S : Sat X.K α H μ) (rd : RlAll X.K α H vs ds) (h : sp ds μ Qd) (post : PostE X.K α H Qd Q) :
    wpAny (model X.prog X.w) X.A (call (.ref f) us kw) (EP X pins σ Q) X.xe s := by
  refine wpAny_call (codeAny_mono (F.run X.A X.stack s H _ zs vs α μ ds Qd Q hr hgd I.env0 hl hb r S rd h post) fun res s' hq => ?_)
  cases res with
  | error e => exact False.elim hq
  | ok fl =>
    cases fl with
    | ret u => exact I.after hq
    | _ => exact False.elim hq
def dFn (sp : DSp) (da : DTA) : DTE := fun ρ μ Q => da ρ μ fun ds μ1 => sp ds μ1 Q
/-- f(e, ..): the arguments' number is told by their shape -/
theorem de_fn {e : Expr} {es : List Expr} {da : DTA} (h : Has X.prog X.w X.K X.mg X.base k x st ps sp) (hr : Room k X.A) (hgd : X.A.guards = some []) (ha : PAD X (e :: es) da)
    (hb : BindK st x ps [] ps.length (fun as _ => as)) (hn : es.length + 1 = ps.length := by rfl) (hg : Gl X x := by rfl) (hdb : (x == ("__debug__" : Str)) = false := by decide)
    (he : starEach (e :: es) X.env = (false, eval e X.env) :: starEach es X.env := by rfl) (hpl : (backTo pos (starEach es X.env)).any (·.1) = false := by rfl) :
    PED X (.Call (.Name x p) (e :: es) [] pos) (dFn sp da) := by
  obtain ⟨f, fd, hm, F, G⟩ := h.ex
  obtain ⟨ta, a1, a2⟩ := ha.ex
  refine ⟨fun σ H Q => ta σ H fun vs H1 => ∃ α μ ds Qd, Sat X.K α H1 μ ∧ RlAll X.K α H1 vs ds ∧ sp ds μ Qd ∧ PostE X.K α H1 Qd Q, ⟨fun pins s σ H Q I h => ?_⟩, fun α σ H ρ μ Qd Q S E h post => ?_⟩
  · refine wpAny_Call_Name_kw (ld_glob I hg hm ?_ hdb)
    refine PySem.W.callWith_K (h₀ := X.base) I.ok.mod.kin F.kp (thn (a1.run pos pins s σ H _ I h) fun us s1 ⟨vs, H1, I1, r, α, μ, ds, Qd, S1, rd, hs, post⟩ => ⟨I1.kIn, ?_⟩) he hpl
    obtain ⟨oc, od, kV, doc, pm, an, cdv, ct, osl, rfl, lk, hcd⟩ := F.ex
    have hl : us.length = ps.length := by rw [← r.length, rd.length]; exact G.len _ _ _ hs
    exact run_g G hr hgd I1 hl (.of_eq (hb kV doc pm an cdv ct us [] hl rfl).2) r S1 rd hs post
  · exact a2 α σ H ρ μ _ _ S E h fun vs H1 α1 μ1 ds g1 S1 r1 q1 => ⟨α1, μ1, ds, Qd, S1, r1, q1, post.mono g1⟩
/-- keywords' values, from the left -/
def taLen (n : Nat) (K : PySem.W.Frag) (da : DTA) : TA := fun σ H Q => ∃ α ρ μ Qd, Sat K α H μ ∧ EnvOk K α H σ ρ ∧ da ρ μ Qd ∧
  ∀ vs H' α' μ' ds, Gr α H α' H' → Sat K α' H' μ' → RlAll K α' H' vs ds → vs.length = n → Qd ds μ' → Q vs H'
structure PKD (X : Cx) (n : Nat) (kws : List Keyword) (da : DTA) : Prop where
  ex : PK X kws (taLen n X.K da)
theorem dk_nil : PKD X 0 [] daNil := ⟨⟨fun pos pins s σ H Q I h => by
  obtain ⟨α, ρ, μ, Qd, S, E, h, post⟩ := h
  exact pk_nil.run pos pins s σ H Q I (post [] H α μ [] (Gr.refl α H) S .nil rfl h)⟩⟩
theorem dk_cons {n : Nat} {e : Expr} {kws : List Keyword} {nm : Option Str} {kpos : Pos} {de : DTE} {dr : DTA} (he : PED X e de) (hr : PKD X n kws dr) : PKD X (n + 1) (⟨nm, e, kpos⟩ :: kws) (daCons de dr) := ⟨⟨fun pos pins s σ H Q I h => by
  obtain ⟨te, a1, a2⟩ := he.ex
  obtain ⟨α, ρ, μ, Qd, S, E, h, post⟩ := h
  refine (pk_cons (nm := nm) (kpos := kpos) a1 hr.ex).run pos pins s σ H Q I (a2 α σ H ρ μ _ _ S E h fun v H1 α1 μ1 d g1 S1 r1 q1 => ?_)
  exact ⟨α1, ρ, μ1, _, S1, E.mono g1, q1, fun vs H2 α2 μ2 ds g2 S2 r2 l2 q2 => post _ _ _ _ _ (g1.trans g2) S2 (.cons (r1.mono g2) r2) (by rw [List.length_cons, l2]) q2⟩⟩⟩
def dFnK (sp : DSp) (l : List Nat) (da : DTA) : DTE := fun ρ μ Q => da ρ μ fun ds μ1 => sp (permG l [] ds) μ1 Q
/-- f(k = e, ..): keywords alone; l: which keyword each parameter takes -/
theorem de_fnK (l : List Nat) {n : Nat} {kws : List Keyword} {ks : List Str} {da : DTA} (h : Has X.prog X.w X.K X.mg X.base k x st ps sp) (hr : Room k X.A) (hgd : X.A.guards = some []) (ha : PKD X n kws da)
    (hb : BindK st x ps ks 0 (permG l)) (hn : ks.length = n := by rfl) (hg : Gl X x := by rfl) (hdb : (x == ("__debug__" : Str)) = false := by decide)
    (hall : (backToKw pos (keywordEach kws X.env)).all (·.1.isSome) = true := by rfl) (hks : (backToKw pos (keywordEach kws X.env)).filterMap (·.1) = ks := by rfl)
    (hpl : ((backTo pos (starEach [] X.env)).any (·.1) || (backToKw pos (keywordEach kws X.env)).any (·.1.isNone)) = false := by rfl) : PED X (.Call (.Name x p) [] kws pos) (dFnK sp l da) := by
  obtain ⟨f, fd, hm, F, G⟩ := h.ex
  refine ⟨fun σ H Q => taLen n X.K da σ H fun vs H1 => vs.length = n ∧ ∃ α μ ds Qd, Sat X.K α H1 μ ∧ RlAll X.K α H1 (permG l [] vs) ds ∧ sp ds μ Qd ∧ PostE X.K α H1 Qd Q, ⟨fun pins s σ H Q I h => ?_⟩, fun α σ H ρ μ Qd Q S E h post => ?_⟩
  · refine wpAny_Call_Name_kw (ld_glob I hg hm ?_ hdb)
    refine PySem.W.callWith_KW0 (h₀ := X.base) I.ok.mod.kin F.kp hall (thn (ha.ex.run pos pins s σ H _ I h) fun us s1 ⟨vs, H1, I1, r, hl, α, μ, ds, Qd, S1, rd, hs, post⟩ => ⟨I1.kIn, ?_⟩) hpl
    obtain ⟨oc, od, kV, doc, pm, an, cdv, ct, osl, rfl, lk, hcd⟩ := F.ex
    rw [hks]
    obtain ⟨h1, h2⟩ := hb kV doc pm an cdv ct [] us rfl (by rw [← r.length, hn]; exact hl)
    exact run_g G hr hgd I1 h1 (.of_eq h2) (perm_vals r l) S1 rd hs post
  · exact ⟨α, ρ, μ, _, S, E, h, fun vs H1 α1 μ1 ds g1 S1 r1 l1 q1 => ⟨l1, α1, μ1, _, Qd, S1, perm_rl r1 l, q1, post.mono g1⟩⟩
end

/-! ### repr -/
section
variable {X : Cx} {K : PySem.W.Frag} {α : List Addr} {H : Hp}
def cRepr : List D → Mu → DK → Prop := fun ds μ Q => match ds with
  | [x] => ∃ p, Rs μ x p ∧ isDisplay p = true ∧ p.showable = true ∧ p.hasDict = false ∧ p.depth ≤ 60 ∧ p.shown.length ≤ sizeLine ∧ Q (.str p.shown) μ
  | _ => False
theorem c_repr (hgd : X.A.guards = some []) (hu : X.A.units + 64 < cLine) : CallD X (.builtin "repr") cRepr := by
  refine ⟨fun xs H Q => ∃ v d, xs = [v] ∧ Dp X.K H v d ∧ isDisplay d = true ∧ d.showable = true ∧ d.hasDict = false ∧ d.depth ≤ 60 ∧ d.shown.length ≤ sizeLine ∧ Q (.str d.shown) H, ?_, ?_⟩
  · intro pins s σ H xs us Q I r h
    obtain ⟨v, d, rfl, hd, h1, h2, h3, h4, h5, q⟩ := h
    obtain ⟨u, rfl, rv⟩ := vals1 r
    obtain ⟨as, rd⟩ := hd.reads I d v u rv
    obtain ⟨a, rfl⟩ := isRef_of_reads rd h1
    refine repr_of_reads' rd h2 (PyData.noDict_hsm h3) hgd (by omega) (fun _ _ e => e) (fun h' t tk hk => ?_) h5
    exact ⟨.str d.shown, H, I.kept (t' := tk) hk, ⟨t, rfl⟩, q⟩
  · intro α H μ xs dxs Qd Q S r h post
    unfold cRepr at h
    split at h
    · rename_i x
      obtain ⟨p, h0, h1, h2, h3, h4, h5, q⟩ := h
      obtain ⟨v, rfl, rx⟩ := rl1 r
      exact ⟨v, p, rfl, rx.dp S h0, h1, h2, h3, h4, h5, post.here S (.str _) q⟩
    · exact h.elim

/-! ### methods of lists -/
def mApp (do_ de : DTE) : DTE := fun ρ μ Q => do_ ρ μ fun o μ1 => match o with
  | .cell k => (μ1 k).isSome = true ∧ de ρ μ1 fun y μ2 => ∃ xs, μ2 k = some xs ∧ xs.length < sizeLine ∧ Q .non (μ2.upd k (xs ++ [y]))
  | _ => False
theorem de_append {o e : Expr} {apos cpos : Pos} {d1 d2 : DTE} (ho : PED X o d1) (he : PED X e d2)
    (mk : ∀ {to te : TE}, PE X o to → PE X e te → PE X (.Call (.Attribute o "append" apos) [e] [] cpos) (tBM X.K "list" rAppend to (tCons te tNil)) := by
      intro _ _ a b; exact pe_bm PySem.F.plainAttrs_list PySem.F.slot_list_append PySem.F.type_list_append mt_append a (pa_cons b pa_nil)) : PED X (.Call (.Attribute o "append" apos) [e] [] cpos) (mApp d1 d2) := by
  obtain ⟨t1, a1, a2⟩ := ho.ex
  obtain ⟨t2, b1, b2⟩ := he.ex
  refine ⟨_, mk a1 b1, fun α σ H ρ μ Qd Q S E h post => a2 α σ H ρ μ _ _ S E h fun v H1 α1 μ1 d g1 S1 r1 q1 => ?_⟩
  cases r1 with
  | @cell a k q =>
    obtain ⟨q1, q2⟩ := q1
    cases ex : μ1 k with
    | none =>
      rw [ex] at q1
      cases q1
    | some xs =>
      obtain ⟨b, vs, h1, h2, h3⟩ := S1.cell _ _ ex
      rw [q] at h1
      cases h1
      refine ⟨.inl ⟨rfl, vs, .of h2⟩, b2 α1 σ H1 ρ μ1 _ _ S1 (E.mono g1) q2 fun y H2 α2 μ2 dy g2 S2 r2 q2 => ?_⟩
      obtain ⟨ys, ey, hz, q2⟩ := q2
      obtain ⟨c, ws, k1, k2, k3⟩ := S2.cell _ _ ey
      have at2 := g2.pre _ _ q
      rw [at2] at k1
      cases k1
      exact ⟨_, ws, y, rfl, rfl, k2, by rw [k3.length]; exact hz, post _ _ _ _ _ ((g1.trans g2).trans (gr_set k2)) (S2.set at2 k2 (k3.append (.cons r2 .nil))) .non q2⟩
  | _ => exact False.elim q1
/-- xs.extend([..]), a fresh list -/
def mExtL (do_ : DTE) (dl : DTL) : DTE := fun ρ μ Q => do_ ρ μ fun o μ1 => match o with
  | .cell k => (μ1 k).isSome = true ∧ dl ρ μ1 fun ys μ2 => ∃ xs, μ2 k = some xs ∧ xs.length + ys.length ≤ sizeLine ∧ Q .non (μ2.upd k (xs ++ ys))
  | _ => False
theorem de_extendL {o e : Expr} {apos cpos : Pos} {d1 : DTE} {d2 : DTL} (ho : PED X o d1) (he : PLD X e d2)
    (mk : ∀ {to te : TE}, PE X o to → PE X e te → PE X (.Call (.Attribute o "extend" apos) [e] [] cpos) (tBM X.K "list" rExtend to (tCons te tNil)) := by
      intro _ _ a b; exact pe_bm PySem.F.plainAttrs_list PySem.F.slot_list_extend PySem.F.type_list_extend mt_extend a (pa_cons b pa_nil)) : PED X (.Call (.Attribute o "extend" apos) [e] [] cpos) (mExtL d1 d2) := by
  obtain ⟨t1, a1, a2⟩ := ho.ex
  obtain ⟨t2, b1, b2⟩ := he.ex
  refine ⟨_, mk a1 b1, fun α σ H ρ μ Qd Q S E h post => a2 α σ H ρ μ _ _ S E h fun v H1 α1 μ1 d g1 S1 r1 q1 => ?_⟩
  cases r1 with
  | @cell a k q =>
    obtain ⟨q1, q2⟩ := q1
    cases ex : μ1 k with
    | none =>
      rw [ex] at q1
      cases q1
    | some xs =>
      obtain ⟨b, vs, h1, h2, h3⟩ := S1.cell _ _ ex
      rw [q] at h1
      cases h1
      refine ⟨.inl ⟨rfl, vs, .of h2⟩, b2 α1 σ H1 ρ μ1 _ _ S1 (E.mono g1) q2 fun p j H2 α2 μ2 ys g2 n2 l2 S2 q2 => ?_⟩
      obtain ⟨S3, us, hp, r3⟩ := fresh_of n2 l2 S2
      obtain ⟨zs, ey, hz, q2⟩ := q2
      obtain ⟨c, ws, k1, k2, k3⟩ := S3.cell _ _ ey
      have at2 := g2.pre _ _ q
      rw [at2] at k1
      cases k1
      exact ⟨_, p, ws, us, rfl, rfl, k2, hp, by rw [k3.length, r3.length]; exact hz, post _ _ _ _ _ ((g1.trans g2).trans (gr_set k2)) (S3.set at2 k2 (k3.append r3)) .non q2⟩
  | _ => exact False.elim q1

/-! ### comprehensions, given to a name or not -/
variable {own : List (Str × Nat)} {elt tg iter : Expr} {ifs : List Expr} {scope : Scope} {pos spos : Pos} {di : DTI} {dg : DTG} {dt : DTT} {de : DTE}
theorem dts_nil {X : Cx} : PTsD X [] dYes := ⟨_, pts_nil, snd_yes⟩
theorem dts_one {X : Cx} {c : Expr} {d : DTT} (h : PTD X c d) : PTsD X [c] d := by
  obtain ⟨t, a, b⟩ := h.ex
  exact ⟨t, pts_one a, b⟩
/-- the reading that a reading over data gives, told outright -/
def teOf (K : PySem.W.Frag) (de : DTE) : TE := fun σ H Q => ∃ α ρ μ Qd, Sat K α H μ ∧ EnvOk K α H σ ρ ∧ de ρ μ Qd ∧ PostE K α H Qd Q
def ttOf (K : PySem.W.Frag) (dt : DTT) : TT := fun σ H Q => ∃ α ρ μ Qd, Sat K α H μ ∧ EnvOk K α H σ ρ ∧ dt ρ μ Qd ∧ PostT K α H Qd Q
theorem snd_teOf : SndE K (teOf K de) de := fun α σ H ρ μ Qd Q S E h post => ⟨α, ρ, μ, Qd, S, E, h, post⟩
theorem snd_ttOf : SndT K (ttOf K dt) dt := fun α σ H ρ μ Qd Q S E h post => ⟨α, ρ, μ, Qd, S, E, h, post⟩
theorem PED.pe {X : Cx} {e : Expr} (h : PED X e de) : PE X e (teOf X.K de) := by
  obtain ⟨te, a, b⟩ := h.ex
  exact ⟨fun pins s σ H Q I ⟨α, ρ, μ, Qd, S, E, h, post⟩ => a.run pins s σ H Q I (b α σ H ρ μ Qd Q S E h post)⟩
theorem PTsD.pts {X : Cx} {es : List Expr} (h : PTsD X es dt) : PTs X es (ttOf X.K dt) := by
  obtain ⟨te, a, b⟩ := h.ex
  exact ⟨fun pins s σ H Q I ⟨α, ρ, μ, Qd, S, E, h, post⟩ => a.run pins s σ H Q I (b α σ H ρ μ Qd Q S E h post)⟩
theorem wipe_set_in {i : Nat} {y : Option V} : ∀ {vs : List Nat} {σ : L2.St}, i ∈ vs → L2.wipe (σ.set i y) vs = L2.wipe σ vs
  | v :: vs, σ, h => by
    show (L2.wipe (σ.set i y) vs).set v none = (L2.wipe σ vs).set v none
    by_cases hv : i ∈ vs
    · rw [wipe_set_in hv]
    · have e : i = v := by
        cases h with
        | head => rfl
        | tail _ h => exact absurd h hv
      subst e
      have go : ∀ (us : List Nat), i ∉ us → L2.wipe (σ.set i y) us = (L2.wipe σ us).set i y := by
        intro us
        induction us with
        | nil => intro _; rfl
        | cons u us ih =>
          intro hu
          have h1 : u ≠ i := fun z => hu (z ▸ List.mem_cons_self ..)
          show (L2.wipe (σ.set i y) us).set u none = ((L2.wipe σ us).set u none).set i y
          rw [ih (fun z => hu (List.mem_cons_of_mem _ z)), List.set_comm _ _ h1.symm]
      rw [go vs hv, List.set_set]
theorem wipe_idem : ∀ {vs us : List Nat} {σ : L2.St}, (∀ v ∈ us, v ∈ vs) → L2.wipe (L2.wipe σ us) vs = L2.wipe σ vs
  | vs, [], σ, _ => rfl
  | vs, u :: us, σ, h => by
    show L2.wipe ((L2.wipe σ us).set u none) vs = _
    rw [wipe_set_in (h u (List.mem_cons_self ..)), wipe_idem fun v hv => h v (List.mem_cons_of_mem _ hv)]
/-- a target of a comprehension: one name, two names, three -/
structure OwnG (X : Cx) (scope : Scope) (own : List (Str × Nat)) (tg : Expr) (dg : DTG) : Prop where
  ex : ∃ g : TG, SndG X.K g dg ∧ (∀ σ v H Q, g v (L2.wipe σ (own.map (·.2))) H Q → g v (L2.wipe σ (own.map (·.2))) H fun σ2 H2 => L2.wipe σ2 (own.map (·.2)) = L2.wipe σ (own.map (·.2)) ∧ Q σ2 H2) ∧
    ∀ (s : Shared) (H : Hp) (C : Addr) (cl : List (Str × Addr)) (fp : List Addr), PG (X.blk s H scope (compEnvC scope cl C X.env) fp) tg g
theorem own_name {X : Cx} (i : Nat) {y : Str} {p : Pos} (hg : ∀ (s : Shared) (H : Hp) (C : Addr) (cl : List (Str × Addr)) (fp : List Addr), PG (X.blk s H scope (compEnvC scope cl C X.env) fp) (.Name y p) (gName i)) (hi : i ∈ own.map (·.2) := by decide) : OwnG X scope own (.Name y p) (gdName i) :=
  ⟨gName i, fun α σ H ρ μ v d Qd Q S e r h post => post _ _ _ _ _ (Gr.refl α H) S (e.set r) h, fun σ v H Q h => ⟨by rw [wipe_set_in hi, wipe_idem fun _ z => z], h⟩, hg⟩
theorem snd_gname {K : PySem.W.Frag} (i : Nat) : SndG K (gName i) (gdName i) := fun α σ H ρ μ v d Qd Q S e r h post => post _ _ _ _ _ (Gr.refl α H) S (e.set r) h
theorem own_pair {X : Cx} (i j : Nat) {tg : Expr} (hg : ∀ (s : Shared) (H : Hp) (C : Addr) (cl : List (Str × Addr)) (fp : List Addr), PG (X.blk s H scope (compEnvC scope cl C X.env) fp) tg (gTup X.K 2 (gCons (gName i) (gCons (gName j) gNil))))
    (hi : i ∈ own.map (·.2) := by decide) (hj : j ∈ own.map (·.2) := by decide) : OwnG X scope own tg (gdTup 2 (gdCons (gdName i) (gdCons (gdName j) gdNil))) := by
  refine ⟨_, fun α σ H ρ μ v d Qd Q S e r h post => ?_, fun σ v H Q h => ?_, hg⟩
  · unfold gdTup at h
    split at h
    · rename_i ds
      obtain ⟨hl, h⟩ := h
      cases r with
      | tup q r =>
        refine ⟨_, _, rfl, q, by rw [r.length]; exact hl, ?_⟩
        cases r with
        | nil => cases hl
        | cons r1 r =>
          cases r with
          | nil => cases hl
          | cons r2 r =>
            cases r with
            | cons _ _ => cases hl
            | nil => exact ⟨_, _, rfl, _, _, rfl, rfl, post _ _ _ _ _ (Gr.refl α H) S ((e.set r1).set r2) h⟩
    · exact h.elim
  · obtain ⟨a, xs, rfl, q, hl, v1, r1, rfl, v2, r2, rfl, rfl, h⟩ := h
    refine ⟨a, _, rfl, q, hl, v1, _, rfl, v2, _, rfl, rfl, ?_, h⟩
    rw [wipe_set_in hj, wipe_set_in hi, wipe_idem fun _ z => z]
theorem own_triple {X : Cx} (i j l : Nat) {tg : Expr} (hg : ∀ (s : Shared) (H : Hp) (C : Addr) (cl : List (Str × Addr)) (fp : List Addr), PG (X.blk s H scope (compEnvC scope cl C X.env) fp) tg (gTup X.K 3 (gCons (gName i) (gCons (gName j) (gCons (gName l) gNil)))))
    (hi : i ∈ own.map (·.2) := by decide) (hj : j ∈ own.map (·.2) := by decide) (hk : l ∈ own.map (·.2) := by decide) : OwnG X scope own tg (gdTup 3 (gdCons (gdName i) (gdCons (gdName j) (gdCons (gdName l) gdNil)))) := by
  refine ⟨_, fun α σ H ρ μ v d Qd Q S e r h post => ?_, fun σ v H Q h => ?_, hg⟩
  · unfold gdTup at h
    split at h
    · rename_i ds
      obtain ⟨hl, h⟩ := h
      cases r with
      | tup q r =>
        refine ⟨_, _, rfl, q, by rw [r.length]; exact hl, ?_⟩
        cases r with
        | nil => cases hl
        | cons r1 r =>
          cases r with
          | nil => cases hl
          | cons r2 r =>
            cases r with
            | nil => cases hl
            | cons r3 r =>
              cases r with
              | cons _ _ => cases hl
              | nil => exact ⟨_, _, rfl, _, _, rfl, _, _, rfl, rfl, post _ _ _ _ _ (Gr.refl α H) S (((e.set r1).set r2).set r3) h⟩
    · exact h.elim
  · obtain ⟨a, xs, rfl, q, hl, v1, r1, rfl, v2, r2, rfl, v3, r3, rfl, rfl, h⟩ := h
    refine ⟨a, _, rfl, q, hl, v1, _, rfl, v2, _, rfl, v3, _, rfl, rfl, ?_, h⟩
    rw [wipe_set_in hk, wipe_set_in hj, wipe_set_in hi, wipe_idem fun _ z => z]
theorem dl_lc {X : Cx} (own : List (Str × Nat)) (hN : X.N.Nodup) (hi : PID X tg iter di) (ho : OwnG X scope own tg dg) (ht : ∀ (s : Shared) (H : Hp) (C : Addr) (cl : List (Str × Addr)) (fp : List Addr), PTsD (X.blk s H scope (compEnvC scope cl C X.env) fp) ifs dt)
    (he : ∀ (s : Shared) (H : Hp) (C : Addr) (cl : List (Str × Addr)) (fp : List Addr), PED (X.blk s H scope (compEnvC scope cl C X.env) fp) elt de) (ok : blkC X.N X.env.scope scope own = true := by first | kernel_rfl | rfl) (hc : X.calm = true := by rfl)
    (hs : ∀ x, foldedSetIterable iter X.env x = pure x := by intro _; rfl) : PLD X (.ListComp elt [⟨tg, iter, ifs, 0⟩] scope pos) (dLc di dg dt de (own.map (·.2))) := by
  obtain ⟨wi, i1, i2⟩ := hi.ex
  obtain ⟨g, g1, g2, g3⟩ := ho.ex
  exact ⟨_, pe_lc (tt := ttOf X.K dt) (te := teOf X.K de) hc hN i1 (blkOk_by ok) g3 (fun s H C cl fp => (ht s H C cl fp).pts) (fun s H C cl fp => (he s H C cl fp).pe) hs, snd_lc i2 g1 g2 snd_ttOf snd_teOf⟩
theorem ds_setLc {X : Cx} (i : Nat) (own : List (Str × Nat)) {y : Str} {py : Pos} (hN : X.N.Nodup) (hi : PID X tg iter di) (ho : OwnG X scope own tg dg) (ht : ∀ (s : Shared) (H : Hp) (C : Addr) (cl : List (Str × Addr)) (fp : List Addr), PTsD (X.blk s H scope (compEnvC scope cl C X.env) fp) ifs dt)
    (he : ∀ (s : Shared) (H : Hp) (C : Addr) (cl : List (Str × Addr)) (fp : List Addr), PED (X.blk s H scope (compEnvC scope cl C X.env) fp) elt de) (ok : blkC X.N X.env.scope scope own = true := by first | kernel_rfl | rfl) (hc : X.calm = true := by rfl)
    (hy : X.N[i]? = some y := by rfl) (hyl : X.env.scope.names.lookup y = some .local := by rfl) (hsw : swapsWith (.ListComp elt [⟨tg, iter, ifs, 0⟩] scope pos) (some (.Name y py)) spos.line X.env = pure true := by exact sw_true rfl rfl rfl (by decide +kernel))
    (hs : ∀ x, foldedSetIterable iter X.env x = pure x := by intro _; rfl) : PSD X (.Assign [.Name y py] (.ListComp elt [⟨tg, iter, ifs, 0⟩] scope pos) spos) (dAsg (dNew (dLc di dg dt de (own.map (·.2)))) (gdName i)) := by
  obtain ⟨wi, i1, i2⟩ := hi.ex
  obtain ⟨g, g1, g2, g3⟩ := ho.ex
  refine ⟨_, ps_setLc (tt := ttOf X.K dt) (te := teOf X.K de) hc hN hy hyl hsw i1 (blkOk_by ok) g3 (fun s H C cl fp => (ht s H C cl fp).pts) (fun s H C cl fp => (he s H C cl fp).pe) hs, snd_asg ?_ (snd_gname i)⟩
  exact fun α σ H ρ μ Qd Q S E q post => snd_lc i2 g1 g2 snd_ttOf snd_teOf α σ H ρ μ _ Q S E q fun p k H' α' μ' xs g n a S' q' => post _ _ _ _ (.cell k) g S' (.cell a) (q' k n)
end
end Dl
/-! Dat5: operators and walks whatever the kind. -/
namespace Dl
open PySem PySem.Spec PyProof.Rows L2
variable {K : PySem.W.Frag} {α α1 : List Addr} {H H1 : Hp} {X : Cx}

/-- + of ints, texts, tuples, lists (a new list: a new cell) -/
def oPlus : D → D → Mu → DK → Prop := fun x y μ Q => match x, y with
  | .int i, .int j => Q (.int (i + j)) μ
  | .str i, .str j => i.length + j.length ≤ sizeLine ∧ Q (.str (i ++ j)) μ
  | .tup xs, .tup ys => xs.length + ys.length ≤ sizeLine ∧ Q (.tup (xs ++ ys)) μ
  | .cell j, .cell k => (match μ j, μ k with | some xs, some ys => xs.length + ys.length ≤ sizeLine ∧ ∀ n, μ n = none → Q (.cell n) (μ.upd n (xs ++ ys)) | _, _ => False)
  | _, _ => False
/-- .. and of lists where the answer is to be a fresh list -/
theorem PostL.of {Qd : DK} {Q : VK} (p : PostE K α H Qd Q) : PostL K α H (fun xs μ => ∀ n, μ n = none → Qd (.cell n) (μ.upd n xs)) Q :=
  fun a k H' α' μ' xs g n l S q => p _ _ _ _ (.cell k) g S (.cell l) (q k n)
theorem o_plus : OpD X (binaryOp .Add) oPlus := by
  obtain ⟨r1, a1, a2⟩ := (o_add (X := X)).ex
  obtain ⟨r3, c1, c2⟩ := (o_catT (X := X)).ex
  obtain ⟨r4, d1, d2⟩ := (o_catL (X := X)).ex
  refine ⟨_, OpR.or (OpR.or a1 op_add_str) (OpR.or c1 d1), fun α H μ x y dx dy Qd Q S rx ry h post => ?_⟩
  unfold oPlus at h
  split at h
  · exact .inl (.inl (a2 α H μ x y _ _ Qd Q S rx ry h post))
  · cases rx; cases ry
    exact .inl (.inr ⟨_, _, rfl, rfl, h.1, post.here S (.str _) h.2⟩)
  · exact .inr (.inl (c2 α H μ x y _ _ Qd Q S rx ry h post))
  · rename_i j k
    refine .inr (.inr (d2 α H μ x y (.cell j) (.cell k) (fun xs μ => ∀ n, μ n = none → Qd (.cell n) (μ.upd n xs)) Q S rx ry ?_ (PostL.of post)))
    show (match μ j, μ k with | some xs, some ys => _ | _, _ => False)
    split at h
    · exact h
    · exact h.elim
  · exact h.elim
/-- * of ints, of a list and an int -/
def oTimes : D → D → Mu → DK → Prop := fun x y μ Q => match x, y with
  | .int i, .int j => MulOk i j ∧ Q (.int (i * j)) μ
  | .cell j, .int n => (match μ j with | some xs => (-(2 ^ 63) ≤ n ∧ n < 2 ^ 63 ∧ xs.length * n.toNat ≤ sizeLine) ∧ ∀ m, μ m = none → Q (.cell m) (μ.upd m (List.replicate n.toNat xs).flatten) | _ => False)
  | _, _ => False
theorem o_times : OpD X (binaryOp .Mult) oTimes := by
  obtain ⟨r1, a1, a2⟩ := (o_mul (X := X)).ex
  obtain ⟨r4, d1, d2⟩ := (o_rep (X := X)).ex
  refine ⟨_, OpR.or a1 d1, fun α H μ x y dx dy Qd Q S rx ry h post => ?_⟩
  unfold oTimes at h
  split at h
  · exact .inl (a2 α H μ x y _ _ Qd Q S rx ry h post)
  · rename_i j n
    refine .inr (d2 α H μ x y (.cell j) (.int n) (fun xs μ => ∀ n, μ n = none → Qd (.cell n) (μ.upd n xs)) Q S rx ry ?_ (PostL.of post))
    show (match μ j with | some xs => _ | _ => False)
    split at h
    · exact h
    · exact h.elim
  · exact h.elim
/-- xs[lo:hi], xs a tuple or a list (a new cell) -/
def dSl (de : DTE) (d1 d2 : DTO) : DTE := fun ρ μ Q => de ρ μ fun x μ1 => d1 ρ μ1 fun lo μ2 => d2 ρ μ2 fun hi μ3 => match x with
  | .tup xs => Q (.tup (cutD xs lo hi)) μ3
  | x => (match litems μ3 x with | some xs => ∀ n, μ3 n = none → Q (.cell n) (μ3.upd n (cutD xs lo hi)) | none => False)
theorem de_slice {e : Expr} {lo hi : Option Expr} {p2 pos : Pos} {de : DTE} {d1 d2 : DTO} (he : PED X e de) (h1 : POD X lo d1) (h2 : POD X hi d2) : PED X (.Subscript e (.Slice lo hi none p2) pos) (dSl de d1 d2) := by
  obtain ⟨te, a1, a2⟩ := he.ex
  obtain ⟨t1, b1, b2⟩ := h1.ex
  obtain ⟨t2, c1, c2⟩ := h2.ex
  refine ⟨_, pe_slice (SlR.or sl_tupA sl_list) a1 b1 c1, fun α σ H ρ μ Qd Q S E h post => a2 α σ H ρ μ _ _ S E h fun v H1 α1 μ1 d g1 s1 r1 q1 =>
    b2 α1 σ H1 ρ μ1 _ _ s1 (E.mono g1) q1 fun o1 H2 α2 μ2 g2 s2 q2 => c2 α2 σ H2 ρ μ2 _ _ s2 ((E.mono g1).mono g2) q2 fun o2 H3 α3 μ3 g3 s3 q3 => ?_⟩
  have post3 := post.mono ((g1.trans g2).trans g3)
  have r3 := (r1.mono g2).mono g3
  have lists : ∀ {xs : List D}, litems μ3 d = some xs → (∀ n, μ3 n = none → Qd (.cell n) (μ3.upd n (cutD xs o1 o2))) → rSlL X.K v o1 o2 H3 Q := by
    intro xs ex q
    obtain ⟨a, vs, rfl, hq, r⟩ := s3.list r3 ex
    exact ⟨a, vs, rfl, hq, fun p hp => (PostL.of post3).here s3 (r.cut o1 o2) q hp⟩
  cases r3 with
  | @tup a vs ds q r =>
    refine .inl ⟨a, vs, rfl, q, fun w => ?_, fun _ p hp => post3.tup s3 (r.cut o1 o2) q3 hp⟩
    have e : cutD ds o1 o2 = ds := cut_all ds _ _ (by rw [← r.length]; exact w.1) (by rw [← r.length]; exact w.2)
    dsimp only at q3
    rw [e] at q3
    exact post3.here s3 (.tup q r) q3
  | frz q r =>
    dsimp only [litems] at q3
    exact .inr (lists rfl q3)
  | @cell a k q =>
    dsimp only [litems] at q3
    split at q3
    · rename_i xs ex
      exact .inr (lists ex q3)
    · exact False.elim q3
  | _ => exact False.elim q3
/-- walked: a list or a tuple -/
def diSeq (de : DTE) : DTI := fun ρ μ Q => de ρ μ fun x μ1 => match x with
  | .tup ds => Q ⟨ds, []⟩ μ1
  | x => (match lsrc μ1 x with | some s => Q s μ1 | none => False)
def iSeq (K : PySem.W.Frag) (tl : TE) : TI := fun σ H R => tl σ H fun x H1 => ∃ a, x = .ref a ∧ (((∃ xs, SqL K H1 a xs) ∧ R (Itl K a) H1) ∨ ((∃ xs, SqT K H1 a xs) ∧ R (Itt K a) H1))
theorem pi_seq {tg l : Expr} {tl : TE} (hl : PE X l tl) : PI X tg l (iSeq X.K tl) := by
  refine ⟨fun pins s σ H R I h => thn (hl.run pins s σ H _ I h) fun v s1 w => ?_⟩
  obtain ⟨x, H1, I1, r1, a, e, q⟩ := w
  subst e
  obtain rfl : v = Value.ref a := r1
  have own : ∀ b ∈ [s1.heap.objs.size], FpOk X pins H1 b := by
    intro b hb
    obtain rfl : b = s1.heap.objs.size := List.mem_singleton.mp hb
    exact I1.fpOk (Nat.le_refl _) (I1.hok.fresh (Nat.le_refl _))
  rcases q with ⟨⟨xs, hq⟩, q⟩ | ⟨⟨xs, hq⟩, q⟩
  · obtain ⟨its, _, pl, _⟩ := I1.list hq
    exact wpAny_pyIter_list pl.isList ⟨_, [s1.heap.objs.size], _, _, H1, rfl, I1.kept (t' := s1.toks) (fun b o z => Heap.get?_push_of_some _ z), turn_list a _, ⟨_, Heap.get?_push_size _ rfl, rfl, rfl⟩, own, q⟩
  · obtain ⟨its, _, pl, _⟩ := I1.tuple hq
    exact wpAny_pyIter_tuple (show s1.heap.IsTuple a its.toArray from pl) ⟨_, [s1.heap.objs.size], _, _, H1, rfl, I1.kept (t' := s1.toks) (fun b o z => Heap.get?_push_of_some _ z), turn_tuple a _, ⟨_, Heap.get?_push_size _ rfl, rfl, rfl⟩, own, q⟩
theorem di_seq {tg l : Expr} {de : DTE} (h : PED X l de) : PID X tg l (diSeq de) := by
  obtain ⟨t1, a1, a2⟩ := h.ex
  refine ⟨_, pi_seq a1, fun α σ H ρ μ Qd R S e h post => a2 α σ H ρ μ _ _ S e h fun v H1 α1 μ1 d g1 S1 r1 q1 => ?_⟩
  cases r1 with
  | tup q r => exact ⟨_, rfl, .inr ⟨⟨_, q⟩, post _ _ _ _ _ g1 S1 held_nil (itt_tup q r) q1⟩⟩
  | frz q r => exact ⟨_, rfl, .inl ⟨⟨_, q.seq⟩, post _ _ _ _ _ g1 S1 held_nil (itl_frz q r) q1⟩⟩
  | @cell a k q =>
    dsimp only [lsrc] at q1
    cases ex : μ1 k with
    | none =>
      rw [ex] at q1
      exact False.elim q1
    | some xs =>
      rw [ex] at q1
      obtain ⟨b, vs, h1, h2, h3⟩ := S1.cell k xs ex
      rw [q] at h1
      cases h1
      exact ⟨_, rfl, .inl ⟨⟨_, .of h2⟩, post _ _ _ _ _ g1 S1 (held_one ex) (itl_cell q) q1⟩⟩
  | _ => exact False.elim q1
/-- len of a text, a list, a tuple -/
def cLen : List D → Mu → DK → Prop := fun ds μ Q => match ds with
  | [.str z] => z.length ≤ sizeLine ∧ Q (.int (z.length : Nat)) μ
  | [x] => (match items μ x with | some xs => Q (.int (xs.length : Nat)) μ | none => False)
  | _ => False
theorem c_len : CallD X (.builtin "len") cLen := by
  refine ⟨_, CallR.or call_len_str call_len_seq, fun α H μ vs ds Qd Q S r h post => ?_⟩
  unfold cLen at h
  split at h
  · rename_i z
    obtain ⟨v, rfl, r1⟩ := rl1 r
    cases r1
    exact .inl ⟨z, rfl, h.1, post.here S (.int _) h.2⟩
  · rename_i x _
    obtain ⟨v, rfl, r1⟩ := rl1 r
    split at h
    · rename_i xs ex
      obtain ⟨a, us, rfl, q, r2⟩ := S.seq r1 ex
      exact .inr ⟨a, us, rfl, q, by rw [r2.length]; exact post.here S (.int _) h⟩
    · exact h.elim
  · exact h.elim
/-- list(range(lo, hi)) -/
def dlRange (d1 d2 : DTE) : DTL := fun ρ μ Q => d1 ρ μ fun x μ1 => d2 ρ μ1 fun y μ2 => match x, y with
  | .int lo, .int hi => ((Rg lo ∧ Rg hi) ∧ (hi - lo).toNat ≤ 2 ^ 24) ∧ Q (rangeD lo hi) μ2
  | _, _ => False
theorem rl_range (lo hi : Int) : RlAll K α H (rgV lo hi) (rangeD lo hi) := by
  unfold rgV rangeD
  generalize List.range (hi - lo).toNat = l
  induction l with
  | nil => exact .nil
  | cons a l ih => exact .cons (.int _) ih
theorem dl_range {a b : Expr} {d1 d2 : DTE} {p pos p2 pos2 : Pos} (hm : X.mg "list" = none) (hm2 : X.mg "range" = none) (ha : PED X a d1) (hb : PED X b d2) (hc : X.calm = true := by rfl)
    (mk : ∀ {ta tb : TE}, X.mg "list" = none → X.mg "range" = none → PE X a ta → PE X b tb → PE X (.Call (.Name "list" p) [.Call (.Name "range" p2) [a, b] [] pos2] [] pos) (tLstRg (tRg2 ta tb)) := by intro _ _ z1 z2 u v; exact pe_listRg (by rfl) (by rfl) z1 (prg_2 (by rfl) z2 u v)) :
    PLD X (.Call (.Name "list" p) [.Call (.Name "range" p2) [a, b] [] pos2] [] pos) (dlRange d1 d2) := by
  obtain ⟨t1, a1, a2⟩ := ha.ex
  obtain ⟨t2, b1, b2⟩ := hb.ex
  refine ⟨_, mk hm hm2 a1 b1, fun α σ H ρ μ Qd Q S E h post => a2 α σ H ρ μ _ _ S E h fun v1 H1 α1 μ1 x g1 s1 r1 q1 => b2 α1 σ H1 ρ μ1 _ _ s1 (E.mono g1) q1 fun v2 H2 α2 μ2 y g2 s2 r2 q2 => ?_⟩
  split at q2
  · rename_i lo hi
    cases r1; cases r2
    obtain ⟨⟨⟨k1, k2⟩, k3⟩, q2⟩ := q2
    exact ⟨lo, hi, rfl, rfl, ⟨k1.1, k1.2, k2.1, k2.2, k3⟩, fun q hq => (post.mono (g1.trans g2)).here s2 (rl_range lo hi) q2 hq⟩
  · exact False.elim q2
/-- isinstance(x, (A, B)), built-in classes -/
def cIsi2 (a b : String) (de : DTE) : DTE := fun ρ μ Q => de ρ μ fun x μ1 => match tyD μ1 x with
  | some t => (match kitB t a, kitB t b with | some u, some v => 2 ≤ sizeLine ∧ Q (.bl (u || v)) μ1 | _, _ => False)
  | none => False
/-- a, b, .. = a tuple -/
theorem dg_tup {es : List Expr} {k n : Nat} {pos : Pos} {gs : DTGs} (h : PGsD X es gs) (mk : ∀ {t : TGs}, PGs X es t → PG X (.Tuple es k pos) (gTup X.K n t) := by intro _ a; exact pg_tup (by rfl) a) : PGD X (.Tuple es k pos) (gdTup n gs) := by
  obtain ⟨t, a, b⟩ := h.ex
  refine ⟨_, mk a, fun α σ H ρ μ v d Qd Q S e r h post => ?_⟩
  unfold gdTup at h
  split at h
  · rename_i ds
    cases r with
    | tup q r => exact ⟨_, _, rfl, q, by rw [r.length]; exact h.1, b α σ H ρ μ _ _ _ _ S e r h.2 post⟩
  · exact h.elim
theorem bt_abs : bootBuiltins "abs" = some (.builtin "abs") := by decide +kernel
theorem bt_max : bootBuiltins "max" = some (.builtin "max") := by decide +kernel
theorem bt_min : bootBuiltins "min" = some (.builtin "min") := by decide +kernel
theorem bt_sum : bootBuiltins "sum" = some (.builtin "sum") := by decide +kernel
theorem bt_all : bootBuiltins "all" = some (.builtin "all") := by decide +kernel
theorem bt_any : bootBuiltins "any" = some (.builtin "any") := by decide +kernel
theorem bt_len : bootBuiltins "len" = some (.builtin "len") := by decide +kernel
theorem bt_divmod : bootBuiltins "divmod" = some (.builtin "divmod") := by decide +kernel
theorem bt_isinstance : bootBuiltins "isinstance" = some (.builtin "isinstance") := by decide +kernel
theorem bt_repr : bootBuiltins "repr" = some (.builtin "repr") := by decide +kernel
theorem bt_sorted : bootBuiltins "sorted" = some (.builtin "sorted") := by decide +kernel
theorem bt_int : bootBuiltins "int" = some (.type "int") := by decide +kernel
theorem bt_bool : bootBuiltins "bool" = some (.type "bool") := by decide +kernel
theorem bt_str : bootBuiltins "str" = some (.type "str") := by decide +kernel
theorem bt_tuple : bootBuiltins "tuple" = some (.type "tuple") := by decide +kernel
theorem bt_list : bootBuiltins "list" = some (.type "list") := by decide +kernel
theorem bt_dict : bootBuiltins "dict" = some (.type "dict") := by decide +kernel
end Dl
/-! Dat6: enumerate over a tuple, too. -/
namespace Dl
open PySem PySem.Spec PyProof.Rows L2

/-- one argument: a thing whose walk begins with the object o -/
theorem enum1_meets {v : Value} {o : Obj} {G : Heap → Prop} (B : Begins v o G) :
    Meets (Builtin.«enumerate.__new__» ⟨[.type "enumerate", v], []⟩) (fun _ R s => G s.heap ∧
      R (.ok (.ret (.ref (s.heap.push o).objs.size))) { s with heap := (s.heap.push o).push { cls := .type "enumerate", data := .fields #[.none, .bool false, .ref s.heap.objs.size, rawInt 0, .none, .none] } }) :=
  .of_wp fun prog w A R s hh => by
    obtain ⟨hp, g, d, tk, os⟩ := s
    obtain ⟨g1, hh⟩ := hh
    have hsub := sub_enumerate
    have go : ∀ {A' : Around} {E : Value → Shared → Prop} {Q : Value → Shared → Prop}, Q (.ref hp.objs.size) ⟨hp.push o, g, d, tk, os⟩ → wpAny (model prog w) A' (pyIter v) Q E ⟨hp, g, d, tk, os⟩ :=
      fun q => B.iter prog w _ _ ⟨hp, g, d, tk, os⟩ _ g1 q
    wp_walk using go
    refine wpAny_stack_any fun st => wpAny_pure ?_
    split
    · rename_i c _ _ _ _ _
      cases (c == Value.type "enumerate") <;>
      · wp_walk using go
        exact ⟨_, rfl, hh⟩
    · wp_walk using go
      exact ⟨_, rfl, hh⟩
theorem enum1_call {P : Program} {w : World} {A : Around} {E : Value → Shared → Prop} {s : Shared} {v : Value} {o : Obj} {G : Heap → Prop} {Q : Value → Shared → Prop} (B : Begins v o G) (g : G s.heap)
    (hh : ∀ h', IsEnum h' (s.heap.objs.size + 1) s.heap.objs.size 0 .none → h'.get? s.heap.objs.size = some o → (∀ b ob, s.heap.get? b = some ob → h'.get? b = some ob) → Q (.ref (s.heap.objs.size + 1)) { s with heap := h' }) :
    wpAny (model P w) A (call (.type "enumerate") [v]) Q E s := by
  refine callType_new F.called_enumerate (by decide) (F.typeCall_enumerate_1 _) (F.newCall_enumerate_1 _) (fun ob => F.args_object_init_2 ob _) F.entry_enumerate_new (enum1_meets B) ⟨g, ?_⟩
  have z : (s.heap.push o).objs.size = s.heap.objs.size + 1 := Heap.size_push ..
  show _ ∧ _
  rw [z]
  have e0 := Heap.get?_push_size (s.heap.push o) (o := { cls := .type "enumerate", data := .fields #[.none, .bool false, .ref s.heap.objs.size, rawInt 0, .none, .none] }) rfl
  rw [z] at e0
  exact ⟨⟨_, e0, rfl⟩, hh _ e0 (Heap.get?_push_of_some _ (Heap.get?_push_size _ B.free)) fun b ob q => Heap.get?_push_of_some _ (Heap.get?_push_of_some _ q)⟩
/-- the items of the tuple at a, in new pairs with their places -/
def Iet (K : PySem.W.Frag) (a : Addr) : It :=
  ⟨fun i H => ∃ (xs : List V) (x : V), SqT K H a xs ∧ xs[i]? = some x, fun i H v H' => ∃ T x, v = .ref T ∧ H T = none ∧ H' = upd H T (.tup [.int (i : Nat), x]) ∧ ∀ xs, SqT K H a xs → xs[i]? = some x, fun i H => ∃ xs : List V, SqT K H a xs ∧ xs.length ≤ i⟩
/-- a tuple's walk that is through -/
theorem draws_done {P : Program} {w : World} {A : Around} (hh : A.handled = none) {it t : Addr} (hne : t ≠ it) {xs : Array Value} {m : Nat} (hm : xs[m]? = none) :
    Draws P w A it [it, t] m (fun i v => xs[i]? = some v) (fun i h => i = m ∧ h.IsTupleIter it t i ∧ h.IsTuple t xs) where
  live := fun _ _ st => let ⟨o, ho, _⟩ := st.2.1; ⟨o, ho⟩
  frame := fun _ _ _ st hk => ⟨st.1, st.2.1.at fun o e => hk it (by simp) o e, st.2.2.at fun o e => hk t (by simp) o e⟩
  item := fun i s Q E hi st hQ => absurd hi (by rw [st.1]; exact Nat.lt_irrefl _)
  done := fun s Q E st hE => wpAny_nextOf_tuple_end hh st.2.1 st.2.2 hm hE
theorem turn_enumT {P : Program} {w : World} {K : PySem.W.Frag} {elts : List Expr} {kk : Nat} {tpos : Pos} (a e it : Addr) (hae : e ≠ a) (hai : a ≠ it) :
    Turn P w K (.Tuple elts kk tpos) (Iet K a) [e, it] e (fun i h => (∃ old, IsEnum h e it ((i : Nat) : Int) old) ∧ h.IsTupleIter it a i ∧ e ≠ it) where
  mem := by simp
  obj := fun i h st b hb => by
    obtain ⟨⟨old, he⟩, ⟨o, ho, hc, hd⟩, _⟩ := st
    rcases (show b = e ∨ b = it by simpa using hb) with rfl | rfl
    · exact ⟨_, he, fun v q => nomatch q⟩
    · exact ⟨o, ho, fun v q => by rw [hd] at q; cases q⟩
  keep := fun i h h' st k => let ⟨⟨old, he⟩, hi, hne⟩ := st; ⟨⟨old, k e (by simp) _ he⟩, hi.at fun o q => k it (by simp) o q, hne⟩
  item := by
    rintro X rfl rfl rfl hc i pins s σ H E I hf ⟨⟨old, he⟩, hit, hne⟩ ⟨xs, x, hq, hx⟩
    obtain ⟨its, rv, p, hz⟩ := I.tuple hq
    obtain ⟨u, hu, ru⟩ := rv.get hx
    have hel : e < s.heap.objs.size := Heap.lt_size he
    have hil : it < s.heap.objs.size := by obtain ⟨_, q, _⟩ := hit; exact Heap.lt_size q
    have hi : i < its.toArray.size := by
      rw [List.size_toArray]
      exact (List.getElem?_eq_some_iff.mp hu).1
    refine wpAny_pyNext_enum_itemD (Draws.tuple (A := X.A.in1) (I.ok.hd hc) it a hai its.toArray) he ⟨hit, p⟩ hi hne (by simp [hne, hae]) fun y h' tk hy ho st' hT hsz hk => ?_
    have ey : y = u := by
      have hy : its.toArray[i]? = some y := hy
      rw [List.getElem?_toArray, hu] at hy
      exact (Option.some.inj hy).symm
    subst ey
    refine ⟨_, rfl, wpAny_letOwnedTupleGo_enum (s := { s with heap := h', toks := tk + 1 }) ho fun h'' he' sb => ?_⟩
    have hT2 : h''.get? s.heap.objs.size = some { cls := .type "tuple", data := .seq #[.int i tk, y] } := (sb.2 _ (Nat.ne_of_gt hel)).trans hT
    have new : ObjOk X.prog X.w (upd H s.heap.objs.size (.tup [.int (i : Nat), x])) h'' s.heap.objs.size (.tup [.int (i : Nat), x]) :=
      ⟨by show 2 ≤ sizeLine; decide, [.int i tk, y], .cons ⟨_, rfl⟩ (.cons ru .nil), ⟨_, hT2, rfl, _, rfl⟩⟩
    have I1 : Inv X pins σ (upd H s.heap.objs.size (.tup [.int (i : Nat), x])) { s with heap := h'', toks := tk + 1 } :=
      I.turnedNew (ch := [e, it]) (fun b ob hb q => (sb.2 b (fun z => hb (by simp [z]))).trans (hk b ob (fun z => hb (by simp [z])) (fun z => hb (by simp [z])) q)) hf (Nat.le_refl _) new
    refine ⟨.ref s.heap.objs.size, _, I1, rfl, ⟨_, x, rfl, I.hok.fresh (Nat.le_refl _), rfl, fun ys hy => by rw [I.tuple_inj hy hq]; exact hx⟩, ⟨⟨y, ?_⟩, st'.1.at fun o q => (sb.2 it (Ne.symm hne)).trans q, hne⟩, fun b hb => ?_⟩
    · rw [show ((i + 1 : Nat) : Int) = (i : Int) + 1 by omega]
      exact he'
    · have hb' : b < s.heap.objs.size := by
        rcases (show b = e ∨ b = it by simpa using hb) with rfl | rfl
        · exact hel
        · exact hil
      rw [upd_ne (Nat.ne_of_lt hb')]
      exact (hf b hb).1
  done := by
    rintro X rfl rfl rfl hc i pins s σ H E I hf ⟨⟨old, he⟩, hit, hne⟩ ⟨xs, hq, hx⟩
    obtain ⟨its, rv, p, hz⟩ := I.tuple hq
    obtain ⟨f0, f1, f2, f3, f4, f5⟩ := hf it (by simp)
    have hl := rv.length
    have hm : its.toArray[i]? = none := by
      rw [List.getElem?_toArray]
      exact List.getElem?_eq_none (by omega)
    exact wpAny_pyNext_enum_endD (draws_done (A := X.A.in1) (I.ok.hd hc) hai hm) he ⟨rfl, hit, p⟩ fun h' eb => ⟨rfl, I.turned (t' := s.toks) (fun b o hb q => eb b o hb q) f0 f1 f3 f4 f5⟩
  self := fun A i s Q E st h => let ⟨⟨_, he⟩, _⟩ := st; wpAny_pyIter_enum he h
def iEnumQ (K : PySem.W.Frag) (ta : TA) : TI := fun σ H R => ta σ H fun vs H1 => ∃ a, vs = [.ref a] ∧ (((∃ xs, SqL K H1 a xs) ∧ R (Ite K a) H1) ∨ ((∃ xs, SqT K H1 a xs) ∧ R (Iet K a) H1))
theorem pi_enumQ {X : Cx} {e : Expr} {ta : TA} {p pos tpos : Pos} {elts : List Expr} {kk : Nat} (hg : Gl X "enumerate") (hm : X.mg "enumerate" = none) (ha : PA X [e] ta) (hs : starEach [e] X.env = [(false, eval e X.env)] := by rfl) :
    PI X (.Tuple elts kk tpos) (.Call (.Name "enumerate" p) [e] [] pos) (iEnumQ X.K ta) := by
  refine ⟨fun pins s σ H R I h => Call_ (ld_blt I hg hm boot_enumerate (PyProof.Rows.callWith_type1 (thn (ha.run pos pins s σ H _ I h) fun us s1 w => ?_) hs rfl))⟩
  obtain ⟨vs, H1, I1, r1, a, rfl, q⟩ := w
  obtain ⟨u, rfl, r⟩ : ∃ u, us = [u] ∧ RelV (.ref a) u := by
    cases r1 with
    | cons r rr =>
      cases rr
      exact ⟨_, rfl, r⟩
  obtain rfl : u = Value.ref a := r
  have own : ∀ b ∈ [s1.heap.objs.size + 1, s1.heap.objs.size], FpOk X pins H1 b := by
    intro b hb
    have le : s1.heap.objs.size ≤ b := by
      rcases (show b = s1.heap.objs.size + 1 ∨ b = s1.heap.objs.size by simpa using hb) with rfl | rfl
      · exact Nat.le_succ _
      · exact Nat.le_refl _
    exact I1.fpOk le (I1.hok.fresh le)
  rcases q with ⟨⟨xs, hq⟩, q⟩ | ⟨⟨xs, hq⟩, q⟩
  · obtain ⟨its, rv, pl, hz⟩ := I1.list hq
    exact enum1_call (begins_list a its.toArray) pl.isList fun h' he ho hk => wpAny_pyIter_enum he
      ⟨_, [s1.heap.objs.size + 1, s1.heap.objs.size], _, _, H1, rfl, I1.kept (t' := s1.toks) hk, turn_enum a _ _, ⟨⟨.none, he⟩, ⟨_, ho, rfl, rfl⟩, Nat.succ_ne_self _⟩, own, q⟩
  · obtain ⟨its, rv, pl, hz⟩ := I1.tuple hq
    have al : a < s1.heap.objs.size := by
      obtain ⟨o, e, _⟩ := (show s1.heap.IsTuple a its.toArray from pl)
      exact Heap.lt_size e
    exact enum1_call (begins_tuple a its.toArray) pl fun h' he ho hk => wpAny_pyIter_enum he
      ⟨_, [s1.heap.objs.size + 1, s1.heap.objs.size], _, _, H1, rfl, I1.kept (t' := s1.toks) hk, turn_enumT a _ _ (Nat.ne_of_gt (Nat.lt_succ_of_lt al)) (Nat.ne_of_lt al), ⟨⟨.none, he⟩, ⟨_, ho, rfl, rfl⟩, Nat.succ_ne_self _⟩, own, q⟩
/-- counted: a list or a tuple -/
def diEnum2 (de : DTE) : DTI := fun ρ μ Q => de ρ μ fun x μ1 => match x with
  | .tup ds => Q ⟨enumD ds, []⟩ μ1
  | x => (match lsrc μ1 x with | some s => Q ⟨enumD s.its, s.keep⟩ μ1 | none => False)
theorem ite_ok {X : Cx} {α : List Addr} {H : Hp} {a : Addr} {s : Src} (L : LOk X.K a s α H) : ItOk X.K (Ite X.K a) ⟨enumD s.its, s.keep⟩ α H := ⟨fun α' H' μ' g S' hd' => by
  obtain ⟨ws, q', r'⟩ := L.ok α' H' μ' g S' hd'
  have len : (enumD s.its).length = ws.length := by rw [enumD_len, r'.length]
  refine ⟨fun i hi => ?_, fun i hi => ?_, fun i d v H2 hg hy => ?_⟩
  · have hi : i < (enumD s.its).length := hi
    rw [len] at hi
    exact ⟨ws, ws[i], q', by simp⟩
  · have hi : (enumD s.its).length ≤ i := hi
    rw [len] at hi
    exact ⟨ws, q', hi⟩
  · obtain ⟨x, hx, rfl⟩ := enumD_get hg
    obtain ⟨T, y, rfl, hT, rfl, hy⟩ := hy
    obtain ⟨w, hw, rw'⟩ := r'.get hx
    have e2 := hy ws q'
    rw [hw] at e2
    cases e2
    exact new_pair S' (.int _) rw' hT⟩
theorem iet_ok {X : Cx} {α : List Addr} {H : Hp} {a : Addr} {vs : List V} {ds : List D} (q : SqT X.K H a vs) (r : RlAll X.K α H vs ds) : ItOk X.K (Iet X.K a) ⟨enumD ds, []⟩ α H := ⟨fun α' H' μ' g S' hd' => by
  have q' := g.ext.seqT q
  have r' := r.mono g
  have len : (enumD ds).length = vs.length := by rw [enumD_len, r'.length]
  refine ⟨fun i hi => ?_, fun i hi => ?_, fun i d v H2 hg hy => ?_⟩
  · have hi : i < (enumD ds).length := hi
    rw [len] at hi
    exact ⟨vs, vs[i], q', by simp⟩
  · have hi : (enumD ds).length ≤ i := hi
    rw [len] at hi
    exact ⟨vs, q', hi⟩
  · obtain ⟨x, hx, rfl⟩ := enumD_get hg
    obtain ⟨T, y, rfl, hT, rfl, hy⟩ := hy
    obtain ⟨w, hw, rw'⟩ := r'.get hx
    have e2 := hy vs q'
    rw [hw] at e2
    cases e2
    exact new_pair S' (.int _) rw' hT⟩
theorem di_enum2 {X : Cx} {e : Expr} {de : DTE} {p pos tpos : Pos} {elts : List Expr} {kk : Nat} (hm : X.mg "enumerate" = none) (he : PED X e de) (hg : Gl X "enumerate" := by rfl) (hs : starEach [e] X.env = [(false, eval e X.env)] := by rfl) (hs1 : starEach [e] X.env = (false, eval e X.env) :: starEach [] X.env := by rfl) :
    PID X (.Tuple elts kk tpos) (.Call (.Name "enumerate" p) [e] [] pos) (diEnum2 de) := by
  obtain ⟨t1, a1, a2⟩ := he.ex
  refine ⟨_, pi_enumQ hg hm (pa_cons a1 pa_nil hs1) hs, fun α σ H ρ μ Qd R S en h post => a2 α σ H ρ μ _ _ S en h fun v H1 α1 μ1 d g1 S1 r1 q1 => ?_⟩
  have lists : ∀ {s : Src}, lsrc μ1 d = some s → Qd ⟨enumD s.its, s.keep⟩ μ1 → ∃ a, [v] = [V.ref a] ∧ (((∃ xs, SqL X.K H1 a xs) ∧ R (Ite X.K a) H1) ∨ ((∃ xs, SqT X.K H1 a xs) ∧ R (Iet X.K a) H1)) := by
    intro s es q
    obtain ⟨hd, a, vs, rfl, q0, L⟩ := lok_of S1 r1 es
    exact ⟨a, rfl, .inl ⟨⟨vs, q0⟩, post _ _ _ _ ⟨enumD s.its, s.keep⟩ g1 S1 hd (ite_ok L) q⟩⟩
  cases r1 with
  | tup q r => exact ⟨_, rfl, .inr ⟨⟨_, q⟩, post _ _ _ _ ⟨enumD _, []⟩ g1 S1 held_nil (iet_ok q r) q1⟩⟩
  | frz q r => exact lists rfl q1
  | @cell a k q =>
    dsimp only [lsrc] at q1 lists
    cases ex : μ1 k with
    | none =>
      rw [ex] at q1
      exact False.elim q1
    | some xs =>
      rw [ex] at q1 lists
      exact lists rfl q1
  | _ => exact False.elim q1
/-- three names at once -/
def dPar3 (i j l : Nat) (da : DTA) : DTS := fun D ρ μ => da ρ μ fun ds μ1 => match ds with | [u, v, w] => D.nx (((ρ.set i (some u)).set j (some v)).set l (some w)) μ1 | _ => False
theorem ds_par3 {X : Cx} (i j l : Nat) {x y z : Str} {a b c : Expr} {da : DTA} {px py pz pt pos : Pos} {kt k2 pt2} (hN : X.N.Nodup) (ha : PAD X [a, b, c] da) (hc : X.calm = true := by rfl) (hi : X.N[i]? = some x := by rfl) (hj : X.N[j]? = some y := by rfl) (hl : X.N[l]? = some z := by rfl)
    (hij : i ≠ j := by decide) (hil : i ≠ l := by decide) (hjl : j ≠ l := by decide)
    (hx : X.env.scope.names.lookup x = some .local := by rfl) (hy : X.env.scope.names.lookup y = some .local := by rfl) (hz : X.env.scope.names.lookup z = some .local := by rfl)
    (hw : swappedStores [.Tuple [.Name x px, .Name y py, .Name z pz] kt pt] (.Tuple [a, b, c] k2 pt2) X.env = pure (some [x, y, z]) := by rfl)
    (hs : swapsWithSole [.Tuple [.Name x px, .Name y py, .Name z pz] kt pt] (.Tuple [a, b, c] k2 pt2) pos.line X.env = pure false := by rfl) :
    PSD X (.Assign [.Tuple [.Name x px, .Name y py, .Name z pz] kt pt] (.Tuple [a, b, c] k2 pt2) pos) (dPar3 i j l da) := by
  obtain ⟨t1, a1, a2⟩ := ha.ex
  refine ⟨_, ps_par3 hc hN hi hj hl hij hil hjl hx hy hz a1 hw hs, fun α σ H ρ μ D E S e h post => a2 α σ H ρ μ _ _ S e h fun vs H' α' μ' ds g S' r h' => ?_⟩
  unfold dPar3 at h
  split at h'
  · cases r with
    | cons r1 r =>
      obtain ⟨v, w, rfl, r2, r3⟩ := rl2 r
      exact ⟨_, v, w, rfl, post.nx _ _ _ _ _ g S' ((((e.mono g).set r1).set r2).set r3) h'⟩
  · exact False.elim h'
end Dl
/-! Dat7: sorted over a list of tuples of ints. -/
namespace Dl
open PySem PySem.Spec PyProof.Rows L2 PySem.W

section
variable {prog : Program} {w : World} {A : Around} {E : Value → Shared → Prop} {s : Shared}
/-- tuple.__lt__, as the sort asks it of one kind of keys -/
theorem lt_one {v u : Value} {ns ms : List Int} {Q : Bool → Shared → Prop} (hu : A.units < cLine) (hv : TS.TupInts s.heap v ns) (hw : TS.TupInts s.heap u ms) (q : Q (HT.lexLt ns ms) s) : wpAny (model prog w) A (keyLt' oneType' v u) Q E s := by
  obtain ⟨a, xs, rfl, ⟨⟨c1, d1, dt1, sl1⟩, ga, hc, n1, hd⟩, ia⟩ := hv
  obtain ⟨b, ys, rfl, ⟨⟨c2, d2, dt2, sl2⟩, gb, hc2, n2, hd2⟩, ib⟩ := hw
  simp only at hc hd hc2 hd2
  subst hc hd hc2 hd2
  rw [keyLt'_oneType, oneLt'_eq]
  simp only [if_true]
  refine wpAny_bind (wpAny_cRoomFor hu ?_)
  refine wpAny_bind (wpAny_callSpecialIfBound?_slot (T := "tuple") ⟨_, ga, rfl⟩ PySem.F.slot_tuple_lt ?_)
  exact call_meets PySem.F.slot_tuple_lt ⟨_, ga, rfl⟩ PySem.F.entry_tuple_lt (PySem.F.args_tuple_lt_2 _ _) (HT.tuple_lt_ints a b xs ys n1 n2 d1 d2 sl1 sl2 ns ms ia ib) ⟨ga, gb, wpAny_truthy_bool q⟩
/-- .. of tuples, item by item -/
theorem lt_lex {b fin : Bool} {Q : Bool → Shared → Prop} : ∀ {xs ys : List Value} {ns ms : List Int} (i : Nat), IntsAre xs ns → IntsAre ys ms → fin = decide (ns.length < ms.length) → Q (HT.lexLt ns ms) s → PySem.W.KatLex prog w A b fin Q (xs.zip ys) i s
  | _, _, _, _, i, .nil, .nil, hf, q => by
    rw [HT.lexLt_nil_nil] at q
    subst hf
    exact PySem.W.kat_nil q
  | _, _, _, _, i, .nil, .cons y t r, hf, q => by
    rw [HT.lexLt_nil_cons] at q
    subst hf
    refine PySem.W.kat_nil ?_
    rw [decide_eq_true (by rw [List.length_nil, List.length_cons]; omega)]
    exact q
  | _, _, _, _, i, .cons x t r, .nil, hf, q => by
    rw [HT.lexLt_cons_nil] at q
    subst hf
    refine PySem.W.kat_nil ?_
    rw [decide_eq_false (by rw [List.length_nil, List.length_cons]; omega)]
    exact q
  | _, _, _, _, i, .cons x t r, .cons y u r', hf, q => by
    rw [HT.lexLt_cons] at q
    refine PySem.W.kat_cons (wpAny_eqBool_int ?_)
    by_cases e : x = y
    · subst e
      rw [if_pos rfl] at q
      rw [beq_self_eq_true]
      refine PySem.W.kat_yes (lt_lex (i + 1) r r' ?_ q)
      rw [hf, List.length_cons, List.length_cons]
      exact decide_eq_decide.mpr (by omega)
    · rw [if_neg e] at q
      rw [show (x == y) = false from beq_eq_false_iff_ne.mpr e]
      exact PySem.W.kat_no (TS.oneLt_ints _ q)
theorem lt_tups {b : Bool} {v u : Value} {ns ms : List Int} {Q : Bool → Shared → Prop} (hv : TS.TupInts s.heap v ns) (hw : TS.TupInts s.heap u ms) (q : Q (HT.lexLt ns ms) s) : wpAny (model prog w) A (keyLt' (tuples' b) v u) Q (fun _ _ => False) s := by
  obtain ⟨a, xs, rfl, ⟨o, ga, hc, n1, hd⟩, ia⟩ := hv
  obtain ⟨c, ys, rfl, ⟨o2, gb, hc2, n2, hd2⟩, ib⟩ := hw
  refine PySem.W.kat_lt ga hd gb hd2 ?_
  refine lt_lex 0 ia ib ?_ q
  have l1 := ia.length
  have l2 := ib.length
  rw [Array.length_toList] at l1 l2
  exact decide_eq_decide.mpr (by omega)
/-- all keys are tuples; the first is empty -/
theorem kind_emp {vs : List Value} {k : Value → List Int} {Q : SortKind → Shared → Prop} {v : Value} {rest : List Value} (e : vs = v :: rest) (h2 : 2 ≤ vs.length) (hv : ∀ u ∈ vs, TS.TupInts s.heap u (k u)) (h0 : k v = []) (h : Q oneType' s) :
    wpAny (model prog w) A (keyKind' vs.toArray) Q E s := by
  have ty : ∀ {M : Model}, ∀ u ∈ vs, Looks M s.heap (typeOf u) (.type "tuple") := by
    intro M u hm
    obtain ⟨a, xs, rfl, ⟨o, ga, hc, n1, hd⟩, ia⟩ := hv u hm
    rw [← hc]
    exact (Looks.ld ga).andThen .now
  have firsts : ∀ (us : List Value) {Q' : List (Option Value) → Shared → Prop}, (∀ u ∈ us, u ∈ vs) → (∀ rs, rs.length = us.length → (∀ u us', us = u :: us' → k u = [] → ∃ rs', rs = none :: rs') → Q' rs s) → wpAny (model prog w) A (us.mapM firstOfTuple') Q' E s := by
    intro us
    induction us with
    | nil =>
      intro Q' _ q
      rw [List.mapM_nil]
      exact wpAny_pure (q [] rfl fun u us' z => nomatch z)
    | cons u us ih =>
      intro Q' hm q
      rw [List.mapM_cons]
      refine wpAny_bind ?_
      rw [kas_first_eq]
      refine wpAny_bind ((ty u (hm u (List.mem_cons_self ..))).here ?_)
      rw [if_neg (by decide)]
      obtain ⟨a, xs, eu, ⟨o, ga, hc, n1, hd⟩, ia⟩ := hv u (hm u (List.mem_cons_self ..))
      rw [eu]
      refine wpAny_bind (listItems_at ga hd (wpAny_pure ?_))
      refine wpAny_bind (ih (fun z hz => hm z (List.mem_cons_of_mem _ hz)) fun rs hl _ => wpAny_pure ?_)
      refine q _ (by rw [List.length_cons, List.length_cons, hl]) fun u' us' z hk => ?_
      obtain ⟨rfl, rfl⟩ := List.cons.inj z
      rw [hk] at ia
      have : xs.size = 0 := by
        have := ia.length
        rw [Array.length_toList] at this
        exact this
      exact ⟨rs, by rw [Array.getElem?_eq_none (by omega)]⟩
  rw [kat_kind_eq, List.mapM_toArray, map_eq_pure_bind]
  refine wpAny_bind (wpAny_bind (firsts vs (fun _ z => z) fun rs hl hh => wpAny_pure ?_))
  obtain ⟨rs', rfl⟩ := hh v rest e h0
  rw [if_neg (by simp), if_neg (by simp)]
  rw [oneTypeOnly'_eq, List.mapM_toArray, map_eq_pure_bind]
  refine wpAny_bind (wpAny_bind (wpAny_bind (kas_mapM (r := Value.type "tuple") _ (fun v hv Q' hq => (ty v hv).here hq) (wpAny_pure ?_))))
  have hall : ((List.map (fun _ => Value.type "tuple") vs).toArray.all fun x => x == Value.type "tuple") = true := by
    simp only [List.all_toArray, List.all_map, List.all_eq_true]
    intro _ _
    show (Value.type "tuple" == Value.type "tuple") = true
    decide +kernel
  have h0' : (List.map (fun _ => Value.type "tuple") vs).toArray[0]? = some (Value.type "tuple") := by rw [e]; simp
  rw [h0']
  simp only [hall, if_true]
  exact wpAny_pure (wpAny_pure h)
/-- which lists of tuples: all with an item at least, or the first is empty -/
def SrtMode (nss : List (List Int)) : Prop := (∀ ns ∈ nss, ns ≠ []) ∨ ∃ r, nss = [] :: r
theorem tups_sortable {a : Addr} {vs : List Value} {k : Value → List Int} (h2 : 2 ≤ vs.length) (hu : A.units < cLine) (hv : ∀ v ∈ vs, TS.TupInts s.heap v (k v)) (hm : SrtMode (vs.map k)) (ha : ∀ o, s.heap.get? a = some o → o.cls ≠ .type "tuple") :
    SrtO.SortableO prog w A s a vs fun v u => HT.lexLt (k v) (k u) := by
  intro h' keep
  have hv' : ∀ v ∈ vs, TS.TupInts h' v (k v) := fun v hm => (hv v hm).keeps fun b o e c => keep b o (fun z => by subst z; exact ha o e c) e
  rcases hm with hm | ⟨r, hm⟩
  · obtain ⟨fs, t, hl, hi⟩ : ∃ fs, PySem.W.KatTups h' vs fs ∧ fs.length = vs.length ∧ ∀ f, f ∈ fs → ∃ n t, f = Value.int n t := by
      clear h2 ha keep hv
      induction vs with
      | nil => exact ⟨[], PySem.W.KatTups.nil, rfl, fun f hf => nomatch hf⟩
      | cons v vs ih =>
        obtain ⟨fs, t, hl, hi⟩ := ih (fun u hu => hv' u (List.mem_cons_of_mem _ hu)) fun ns hn => hm ns (List.mem_cons_of_mem _ hn)
        obtain ⟨b, xs, rfl, ⟨o, gb, hc, n, hd⟩, ib⟩ := hv' v (List.mem_cons_self ..)
        have ne := hm (k (.ref b)) (List.mem_cons_self ..)
        obtain ⟨m, ms, em⟩ : ∃ m ms, k (.ref b) = m :: ms := by
          cases e : k (.ref b) with
          | nil => exact absurd e ne
          | cons m ms => exact ⟨m, ms, rfl⟩
        rw [em] at ib
        cases hx : xs.toList with
        | nil =>
          rw [hx] at ib
          cases ib
        | cons y ys =>
          rw [hx] at ib
          cases ib with
          | cons _ t2 _ =>
            refine ⟨_ :: fs, PySem.W.KatTups.cons gb hc hd (f := Value.int m t2) ?_ t, by simp [hl], fun f hf => ?_⟩
            · have z := congrArg (fun l : List Value => l[0]?) hx
              simpa using z
            · rcases List.mem_cons.mp hf with rfl | hf
              · exact ⟨_, _, rfl⟩
              · exact hi f hf
    refine ⟨tuples' true, fun Q E hq => ?_, fun p q hp hq => lt_tups (s := { s with heap := h' }) (hv' _ hp) (hv' _ hq) ⟨rfl, rfl⟩⟩
    refine PySem.W.kat_kind (T := .type "int") t (by omega) (fun f hm => ?_) (by rfl) ?_
    · obtain ⟨x, t, rfl⟩ := hi f hm
      exact PySem.W.Looks.of_pure rfl
    · have e : (Value.type "int" != Value.type "tuple") = true := by decide +kernel
      rw [e]
      exact hq
  · obtain ⟨v, rest, e⟩ : ∃ v rest, vs = v :: rest := by
      cases vs with
      | nil => simp at h2
      | cons v rest => exact ⟨v, rest, rfl⟩
    have h0 : k v = [] := by
      rw [e, List.map_cons] at hm
      exact (List.cons.inj hm).1
    exact ⟨oneType', fun Q E hq => kind_emp (s := { s with heap := h' }) e h2 hv' h0 hq, fun p q hp hq => lt_one (s := { s with heap := h' }) hu (hv' _ hp) (hv' _ hq) ⟨rfl, rfl⟩⟩
theorem sorted_tups {l : Addr} {vs : List Value} {k : Value → List Int} {Q : Value → Shared → Prop} (hu : A.units + 8 < cLine) (hl : s.heap.IsList l vs.toArray) (hz : vs.length ≤ sizeLine) (hp : ∀ v ∈ vs, TS.TupInts s.heap v (k v)) (hm : SrtMode (vs.map k))
    (h : ∀ (h' : Heap) (d : Addr) (out : List Value), out.Perm vs → out.Pairwise (fun v u => HT.lexLt (k u) (k v) = false) → (∀ b o, s.heap.get? b = some o → h'.get? b = some o) → s.heap.objs.size ≤ d → (∃ n, h'.get? d = some (seqObj "list" out.toArray n)) → Q (.ref d) { s with heap := h' }) :
    wpAny (model prog w) A (call (.builtin "sorted") [.ref l]) Q E s := by
  refine SrtO.sorted_ord (NtL.swo_lexL k) hl hz (fun h2 h₁ a ha kk => ?_) fun out hs hb => ?_
  · refine tups_sortable (s := { s with heap := h₁ }) h2 ?_ (fun v hm => (hp v hm).keeps fun b o e _ => (kk b o e).2) hm fun o e => ?_
    · show A.units + 1 + 1 < cLine
      omega
    · have e' : some o = some (seqObj "list" vs.toArray 0) := e.symm.trans ha
      cases e'
      intro c
      exact absurd (Value.type.inj c) (by decide)
  · exact h _ _ out hb.perm hs (fun b o e => sortedAll_old e) (Nat.le_succ _) (sortedAll_at s.heap vs out.toArray)
end
section
variable {X : Cx}
/-- sorted over a list of tuples of ints (with what each holds) -/
def rSortT (K : PySem.W.Frag) : List V → Hp → VK → Prop := fun vs H Q => ∃ (a : Addr) (ps : List (V × List Int)), vs = [.ref a] ∧ SqL K H a (ps.map (·.1)) ∧ (∀ p ∈ ps, ∃ t, p.1 = .ref t ∧ SqT K H t (p.2.map V.int)) ∧ SrtMode (ps.map (·.2)) ∧
  ∀ (out : List (V × List Int)) (q : Addr), out.Perm ps → out.Pairwise (fun x y => HT.lexLt y.2 x.2 = false) → H q = none → Q (.ref q) (upd H q (.lst (out.map (·.1))))
theorem cr_sortT (hu : X.A.units + 64 < cLine) : CallR X (.builtin "sorted") (rSortT X.K) := by
  intro pins s σ H vs us Q I r h
  obtain ⟨a, ps, rfl, hs, hp, hm, q⟩ := h
  obtain ⟨its, rv, hl, hz⟩ := I.list hs
  obtain ⟨u, rfl, ru⟩ := vals1 r
  obtain rfl : u = Value.ref a := ru
  -- each item's numbers are those that the heap holds
  have pair : ∀ (ps : List (V × List Int)) (its : List Value), (∀ p ∈ ps, ∃ t, p.1 = .ref t ∧ SqT X.K H t (p.2.map V.int)) → Vals (ps.map (·.1)) its →
      ps = its.map (fun u => (backV u, TS.intsOf s.heap u)) ∧ ∀ u ∈ its, TS.TupInts s.heap u (TS.intsOf s.heap u) ∧ ∃ t, u = Value.ref t := by
    intro ps
    induction ps with
    | nil =>
      intro its _ rv
      cases rv
      exact ⟨rfl, fun u hu => nomatch hu⟩
    | cons p ps ih =>
      intro its hp rv
      rw [List.map_cons] at rv
      cases rv with
      | cons r1 r2 =>
        obtain ⟨e1, e2⟩ := ih _ (fun z hz => hp z (List.mem_cons_of_mem _ hz)) r2
        obtain ⟨t, et, st⟩ := hp p (List.mem_cons_self ..)
        rw [et] at r1
        rename_i u us
        obtain rfl : u = Value.ref t := r1
        obtain ⟨its2, rv2, tp, _⟩ := I.tuple st
        have ti : TS.TupInts s.heap (.ref t) p.2 := ⟨t, its2.toArray, rfl, tp, intsAre_of rv2⟩
        have ei := ti.ints
        refine ⟨?_, fun u hu => ?_⟩
        · rw [List.map_cons, ← e1, ei]
          exact congrArg (· :: ps) (Prod.ext et rfl)
        · rcases List.mem_cons.mp hu with rfl | hu
          · rw [ei]
            exact ⟨ti, t, rfl⟩
          · exact e2 u hu
  obtain ⟨e1, e2⟩ := pair ps its hp rv
  have lz : its.length ≤ sizeLine := by rw [← rv.length]; exact hz
  refine sorted_tups (k := TS.intsOf s.heap) (by omega) hl.isList lz (fun v hv => (e2 v hv).1) ?_ fun h' d out hpm hso kp hd hn => ?_
  · rw [e1, List.map_map] at hm
    exact hm
  · obtain ⟨n, hn⟩ := hn
    have h3 : ∀ u ∈ out, ∃ a, u = Value.ref a := fun u hu => (e2 u (hpm.mem_iff.mp hu)).2
    have em : (out.map fun u => (backV u, TS.intsOf s.heap u)).map (·.1) = out.map backV := by rw [List.map_map]; rfl
    refine ⟨.ref d, upd H d (.lst ((out.map fun u => (backV u, TS.intsOf s.heap u)).map (·.1))), I.laid (t' := s.toks) kp hd ⟨?_, out, n, ?_, hn⟩, rfl, q _ d ?_ ?_ (I.hok.fresh hd)⟩
    · rw [em, List.length_map, hpm.length_eq]
      exact lz
    · rw [em]
      exact vals_back h3
    · rw [e1]
      exact hpm.map _
    · exact List.pairwise_map.mpr hso
/-! ### over data -/
def encI (ns : List Int) : D := .tup (ns.map D.int)
def sSrt : List D → Mu → (List D → Mu → Prop) → Prop := fun xs μ Q => ∃ nss : List (List Int), xs = nss.map encI ∧ SrtMode nss ∧ ∀ out : List (List Int), out.Perm nss → out.Pairwise (fun x y => HT.lexLt y x = false) → Q (out.map encI) μ
theorem rl_pairs {K : PySem.W.Frag} {α : List Addr} {H : Hp} : ∀ {out : List (V × List Int)}, (∀ p ∈ out, Rl K α H p.1 (encI p.2)) → RlAll K α H (out.map (·.1)) ((out.map (·.2)).map encI)
  | [], _ => .nil
  | p :: out, h => .cons (h p (List.mem_cons_self ..)) (rl_pairs fun z hz => h z (List.mem_cons_of_mem _ hz))
theorem pairs_rl {K : PySem.W.Frag} {α : List Addr} {H : Hp} : ∀ {nss : List (List Int)} {vs : List V}, RlAll K α H vs (nss.map encI) → ∃ ps : List (V × List Int), ps.map (·.1) = vs ∧ ps.map (·.2) = nss ∧ ∀ p ∈ ps, Rl K α H p.1 (encI p.2)
  | [], _, r => by
    cases r
    exact ⟨[], rfl, rfl, fun p hp => nomatch hp⟩
  | ns :: nss, _, r => by
    cases r with
    | cons a b =>
      obtain ⟨ps, e1, e2, h⟩ := pairs_rl b
      refine ⟨(_, ns) :: ps, by rw [List.map_cons, e1], by rw [List.map_cons, e2], fun p hp => ?_⟩
      rcases List.mem_cons.mp hp with rfl | hp
      · exact a
      · exact h p hp
theorem s_srt (hu : X.A.units + 64 < cLine) : SeqLD X (.builtin "sorted") false sSrt := ⟨_, cr_sortT hu, fun α H μ p vs xs Qd Q S q r h post => by
  obtain ⟨nss, rfl, hm, h⟩ := h
  obtain ⟨ps, e1, e2, hr⟩ := pairs_rl r
  refine ⟨p, ps, rfl, ?_, fun z hz => ?_, by rw [e2]; exact hm, fun out l hp ho hl => ?_⟩
  · rw [e1]
    exact q.resolve_right fun z => nomatch z.1
  · have rz := hr z hz
    obtain ⟨zv, zn⟩ := z
    unfold encI at rz
    cases rz with
    | tup q r => exact ⟨_, rfl, by rw [← RlAll.ints r]; exact q⟩
  · refine post.here S (rl_pairs fun z hz => hr z (hp.mem_iff.mp hz)) (h _ ?_ ?_) hl
    · rw [← e2]
      exact hp.map _
    · exact List.pairwise_map.mpr ho⟩
end
/-! ### sum over a list or a tuple -/
section
variable {X : Cx}
def rSumT (K : PySem.W.Frag) : List V → Hp → VK → Prop := fun vs H Q => ∃ (a : Addr) (ns : List Int), vs = [V.ref a] ∧ SqT K H a (ns.map V.int) ∧ Q (.int ns.sum) H
theorem cr_sumT (hc : X.calm = true) : CallR X (.builtin "sum") (rSumT X.K) := by
  intro pins s σ H vs us Q I r h
  obtain ⟨a, ns, rfl, hs, q⟩ := h
  obtain ⟨its, rv, hl, _⟩ := I.tuple hs
  rw [Vals.ref1 r]
  have hi : IntsAre its ns := rv.ints
  obtain ⟨xs, e⟩ := hi.allInts.items
  have hn : numsOf (intItems xs).toList = ns := by rw [← e]; exact hi.numsOf
  rw [nums_intItems] at hn
  rw [e] at hl
  refine PySem.W.ktm_sumG (I.ok.hd hc) hl fun h' tk t' hk => ?_
  rw [preSum_eq, List.take_of_length_le (by simp), hn]
  exact ⟨.int _, H, I.kept hk, ⟨_, rfl⟩, q⟩
theorem s_sum2 (hc : X.calm = true) : SeqD X (.builtin "sum") true sSum := ⟨_, CallR.or (cr_sum hc) (cr_sumT hc), fun α H μ p vs xs Qd Q S q r h post => by
  obtain ⟨ns, rfl, h⟩ := h
  have e := r.ints
  subst e
  rcases q with q | ⟨_, q⟩
  · exact .inl ⟨p, ns, rfl, q, post.here S (.int _) h⟩
  · exact .inr ⟨p, ns, rfl, q, post.here S (.int _) h⟩⟩
end
end Dl
/-! Se: set(tuple of ints) == set(list of ints), the same members, each once. -/
namespace Dl
open PySem PySem.Spec PyProof.Rows L2
theorem entry_set_eq : entryFor table "set.__eq__" = some Builtin.«frozenset.__eq__» := entryFor_alias (id' := "frozenset.__eq__") (by kernel_rfl) rfl (by decide +kernel) (by kernel_rfl)
theorem sub_set_frz : isSubtype (.type "set") (.type "frozenset") = pure false := by rw [isSubtype_type]; kernel_rfl
theorem forIn_same {β γ : Type} {M : Model} {A : Around} {E : Value → Shared → Prop} {s : Shared} (f : β → γ → Sem (ForInStep γ)) (c : γ) {Q : γ → Shared → Prop} : ∀ l : List β,
    (∀ e ∈ l, ∀ Q' : ForInStep γ → Shared → Prop, Q' (.yield c) s → wpAny M A (f e c) Q' E s) → Q c s → wpAny M A (ForIn.forIn l c f) Q E s
  | [], _, h => by
    rw [List.forIn_nil]
    exact wpAny_pure h
  | e :: l, hf, h => by
    rw [List.forIn_cons]
    exact wpAny_bind (hf e (List.mem_cons_self ..) _ (forIn_same f c l (fun x hx => hf x (List.mem_cons_of_mem _ hx)) h))
section
variable {P : Program} {w : World} {A : Around} {E : Value → Shared → Prop} {s : Shared} {a b : Addr} {S S2 : Int → Bool} {n m : Nat}
theorem size_of {Q : Nat → Shared → Prop} (R : s.heap.SetOf (intKind P w) a S n) (h : Q n s) : wpAny (model P w) A (Builtin.Frozenset.sizeOf a) Q E s := by
  obtain ⟨o, es, ep, t, ho, hx, hd, g, hm, hb, hf, hn⟩ := R
  unfold Builtin.Frozenset.sizeOf
  refine wpAny_bind (wpAny_setEntries_of ho hd hf (wpAny_pure ?_))
  rw [hn]
  exact h
theorem sub_at {id : String} {Q : Bool → Shared → Prop} (R : s.heap.SetOf (intKind P w) a S n) (R2 : s.heap.SetOf (intKind P w) b S2 m) (hn : n = m) (hS : ∀ k, S k = true → S2 k = true) (h : Q true s) : wpAny (model P w) A (Builtin.Frozenset.subsetOf id a b) Q E s := by
  unfold Builtin.Frozenset.subsetOf
  refine wpAny_bind (size_of R (wpAny_bind (size_of R2 ?_)))
  rw [if_neg (by omega)]
  have so := R2
  obtain ⟨o, es, ep, t, ho, hx, hd, g, hm, hb, hf, hn⟩ := R
  obtain ⟨o2, es2, ep2, t2, ho2, hx2, hd2, g2, hm2, hb2, hf2, hn2⟩ := R2
  refine wpAny_bind (wpAny_setEpoch_of ho hd hf ?_)
  unfold Builtin.Frozenset.walkUnseen
  refine wpAny_bind (wpAny_bind (wpAny_setEntries_of ho hd hf (wpAny_bind (wpAny_setEntries_of ho2 hd2 hf2 (wpAny_bind (forIn_same _ _ _ (fun e he Q' q => ?_) ?_))))))
  · have ge : e.2.scannable = true := by
      rcases List.mem_append.mp he with z | z
      · exact (g e z).2
      · exact (g2 e z).2
    obtain ⟨h0, x⟩ := e
    dsimp only at ge ⊢
    have qx : Builtin.Frozenset.quietEq x = pure true := by
      unfold Builtin.Frozenset.quietEq
      cases x <;> first | rfl | (simp [Value.scannable] at ge)
    rw [qx]
    exact wpAny_bind (wpAny_pure (wpAny_pure q))
  · refine wpAny_pure ?_
    refine wpAny_bind (forIn_same _ _ _ (fun e he Q' q => ?_) (wpAny_pure h))
    obtain ⟨⟨k, e1, e2⟩, e3⟩ := g e he
    have hk : S2 k = true := hS k ((hm k).mpr ⟨e, he, e1⟩)
    obtain ⟨h0, x⟩ := e
    dsimp only at e1 e2 e3 ⊢
    subst e2
    refine wpAny_bind (wpAny_holding (wpAny_setFind_of (knd := intKind P w) (k := k) e1 e3 so fun r hr => ?_))
    rw [hk] at hr
    have hn0 : r.isNone = false := by
      cases r with
      | none => cases hr
      | some _ => rfl
    rw [hn0]
    unfold Builtin.Frozenset.unchanged
    refine wpAny_bind (wpAny_bind (wpAny_setEpoch_of ho hd hf ?_))
    rw [if_neg (by simp)]
    exact wpAny_pure (wpAny_pure q)
theorem eq_body {Q : Value → Shared → Prop} (R : s.heap.SetOf (intKind P w) a S n) (R2 : s.heap.SetOf (intKind P w) b S2 m) (hn : n = m) (hS : ∀ k, S k = true → S2 k = true) (h : Q (.bool true) s) : wpAny (model P w) A (Builtin.«frozenset.__eq__» ⟨[.ref a, .ref b], []⟩) (fun fin s' => ∃ v, fin = .done (.ret v) ∧ Q v s') E s := by
  unfold Builtin.«frozenset.__eq__»
  have tb := R2.typeIs
  have ta := R.typeIs
  refine wpAny_bind (m := Builtin.Frozenset.slot1 _ _) (wpAny_pure ?_)
  refine wpAny_bind (m := Builtin.Frozenset.isAnySet _) ?_
  unfold Builtin.Frozenset.isAnySet orM
  refine wpAny_bind (wpAny_isInstance tb sub_set_self ?_)
  refine wpAny_pure ?_
  rw [if_neg (by decide)]
  unfold Builtin.Frozenset.addrOf
  refine wpAny_bind (m := Builtin.Frozenset.sizeOf a) (size_of R ?_)
  refine wpAny_bind (m := Builtin.Frozenset.sizeOf b) (size_of R2 ?_)
  refine wpAny_bind ?_
  rw [if_neg (by simpa using hn)]
  unfold andM
  refine wpAny_bind (wpAny_bind (wpAny_isInstance ta sub_set_frz ?_))
  refine wpAny_pure ?_
  exact sub_at R R2 hn hS (wpAny_pure ⟨_, rfl, h⟩)
theorem eq_sets {Q : Value → Shared → Prop} (R : s.heap.SetOf (intKind P w) a S n) (R2 : s.heap.SetOf (intKind P w) b S2 m) (hn : n = m) (hS : ∀ k, S k = true → S2 k = true) (hu : A.units < cLine) (h : Q (.bool true) s) : wpAny (model P w) A (compareOp .Eq (.ref a) (.ref b)) Q E s :=
  wpAny_richCompare_same_room (op := .Eq) R.typeIs R2.typeIs F.slot_set_eq (wpAny_call_entry F.slot_set_eq R.typeIs entry_set_eq (eq_body R R2 hn hS ⟨(fun e => nomatch e), h⟩) (F.args_set_eq_2 _ _)) hu
end
/-! ### over the layer -/
/-- the set at a holds just ns -/
def HoldsF (P : Program) (w : World) (h : Heap) (a : Addr) (ns : List Int) : Prop := ∃ S, h.SetOf (intKind P w) a S ns.length ∧ ∀ k, S k = true ↔ k ∈ ns
def SetF (P : Program) (w : World) (a : Addr) (ns : List Int) : HO := .ext fun h => HoldsF P w h a ns
theorem HoldsF.at {P : Program} {w : World} {h h' : Heap} {a : Addr} {ns : List Int} (R : HoldsF P w h a ns) (k : ∀ o, h.get? a = some o → h'.get? a = some o) : HoldsF P w h' a ns := by
  obtain ⟨S, ⟨o, es, ep, t, ho, r⟩, m⟩ := R
  exact ⟨S, ⟨o, es, ep, t, k o ho, r⟩, m⟩
section
variable {X : Cx}
theorem setF_new {w : World} {P : Program} {H : Hp} {h : Heap} {a : Addr} {ns : List Int} (R : HoldsF P w h a ns) : ObjOk P w H h a (SetF P w a ns) := by
  have ⟨S, ⟨o, _, _, _, ho, _⟩, _⟩ := R
  exact ⟨R, ⟨o, ho⟩, fun h1 h2 p k => HoldsF.at p k⟩
theorem setF_get {pins : List (Addr × Obj)} {σ : L2.St} {H : Hp} {s : Shared} {a : Addr} {ns : List Int} (I : Inv X pins σ H s) (ha : H a = some (SetF X.prog X.w a ns)) : HoldsF X.prog X.w s.heap a ns := (I.hok a _ ha).1
def rSetF (K : PySem.W.Frag) (P : Program) (w : World) : List V → Hp → VK → Prop := fun xs H Q => ∃ (l : Addr) (ns : List Int), xs = [.ref l] ∧ (SqL K H l (ns.map V.int) ∨ SqT K H l (ns.map V.int)) ∧ ns.Nodup ∧ ns.length ≤ 1000 ∧ ∀ p, H p = none → Q (.ref p) (upd H p (SetF P w p ns))
theorem cr_setF (hc : X.calm = true) : CallR X (.type "set") (rSetF X.K X.prog X.w) := by
  intro pins s σ H xs us Q I r h
  obtain ⟨l, ns, rfl, hq, hnd, hl, q⟩ := h
  rw [Vals.ref1 r]
  rcases hq with hq | hq
  · obtain ⟨its, rv, pl, hz⟩ := I.list hq
    have hlen : its.toArray.size = ns.length := by rw [List.size_toArray, ← rv.length, List.length_map]
    refine call_set_list (I.ok.hd hc) pl.isList (by simpa using RZ.intsAre_vals rv) (by rw [hlen]; unfold scanBound; omega) fun h' tk hS hk => ?_
    rw [hlen, RZ.firstMet_nodup hnd ns.length (Nat.le_refl _), List.take_length] at hS
    have new : HoldsF X.prog X.w h' s.heap.objs.size ns := ⟨_, hS, fun k => by
      rw [List.any_eq_true]
      exact ⟨fun ⟨y, hy, e⟩ => eq_of_beq e ▸ hy, fun z => ⟨k, z, beq_self_eq_true k⟩⟩⟩
    exact ⟨.ref _, upd H s.heap.objs.size (SetF X.prog X.w s.heap.objs.size ns), I.laid (t' := tk) (fun b u e => hk b u (Heap.lt_size e) e) (Nat.le_refl _) (setF_new new), rfl, q _ (I.hok.fresh (Nat.le_refl _))⟩
  · obtain ⟨its, rv, pt, hz⟩ := I.tuple hq
    have hi : IntsAre its.toArray.toList ns := ints_of_vals rv
    refine call_set_tupI ns (I.ok.hd hc) (show s.heap.IsTuple l its.toArray from pt) hi (by unfold scanBound; omega) fun h' tk c R1 hcn k => ?_
    have so := R1.setOf (P := X.prog)
    obtain ⟨o, es, ep, t, ho, hex, hdt, g, nd, hm2, hb, hf, hn, hr, hl2⟩ := R1
    have pm : (es.toList.map keyOf).Perm ns := (List.perm_ext_iff_of_nodup nd hnd).mpr fun j => by rw [← hm2 j, decide_eq_true_eq]
    have ec : c = ns.length := by
      have := pm.length_eq
      rw [List.length_map, Array.length_toList] at this
      omega
    subst ec
    have new : HoldsF X.prog X.w h' s.heap.objs.size ns := ⟨_, so, fun k => decide_eq_true_iff⟩
    exact ⟨.ref _, upd H s.heap.objs.size (SetF X.prog X.w s.heap.objs.size ns), I.laid (t' := tk) k (Nat.le_refl _) (setF_new new), rfl, q _ (I.hok.fresh (Nat.le_refl _))⟩
def rSetEq (P : Program) (w : World) : R2 := fun x y H Q => ∃ (a b : Addr) (ns ms : List Int), x = .ref a ∧ y = .ref b ∧ H a = some (SetF P w a ns) ∧ H b = some (SetF P w b ms) ∧ ns.length = ms.length ∧ (∀ k ∈ ns, k ∈ ms) ∧ Q (.bl true) H
theorem or_setEq (hu : X.A.units + 64 < cLine) : OpR X (compareOp .Eq) (rSetEq X.prog X.w) := by
  intro pins s σ H x y v u Q I rx ry h
  obtain ⟨a, b, ns, ms, rfl, rfl, ha, hb, hl, hs, q⟩ := h
  cases rx
  cases ry
  obtain ⟨S, so, m⟩ := setF_get I ha
  obtain ⟨S2, so2, m2⟩ := setF_get I hb
  exact eq_sets so so2 hl (fun k hk => (m2 k).mpr (hs k ((m k).mp hk))) (by omega) ⟨.bl true, H, I, rfl, q⟩
def dSetEq (d1 : DTE) (i : Nat) : DTE := fun ρ μ Q => d1 ρ μ fun x μ1 => match ρ[i]? with
  | some (some d) => ∃ ns ms : List Int, items μ1 x = some (ns.map D.int) ∧ items μ1 d = some (ms.map D.int) ∧ (ns.Nodup ∧ ms.Nodup ∧ ns.length ≤ 1000 ∧ ns.length = ms.length ∧ ∀ k ∈ ns, k ∈ ms) ∧ Q (.bl true) μ1
  | _ => False
theorem de_setEq {a : Expr} {y : Str} {d1 : DTE} {p p2 p3 q q2 pos : Pos} (i : Nat) (hc : X.calm = true) (hu : X.A.units + 64 < cLine) (hm : X.mg "set" = none) (ha : PED X a d1) (hN : X.N[i]? = some y := by rfl) (hv : Vis X.env.scope y := by first | exact Or.inl rfl | exact Or.inr (Or.inl rfl) | exact Or.inr (Or.inr rfl))
    (hd : (y == ("__debug__" : Str)) = false := by decide) (hcd : (y == ("__classdict__" : Str)) = false := by decide) (hg : Gl X "set" := by rfl) (he : starEach [a] X.env = (false, eval a X.env) :: starEach [] X.env := by rfl) (hpl : (backTo q (starEach [] X.env)).any (·.1) = false := by rfl) :
    PED X (.Compare (.Call (.Name "set" p) [a] [] q) [.Eq] [.Call (.Name "set" p2) [.Name y p3] [] q2] pos) (dSetEq d1 i) := by
  obtain ⟨ta, a1, a2⟩ := ha.ex
  refine ⟨_, pe_cmpR (or_setEq hu) (pe_callTy (cr_setF hc) hg hm PyProof.Rows.boot_set (pa_cons (hs := he) a1 pa_nil) (by decide) (by decide) he hpl) (pe_callTy (cr_setF hc) hg hm PyProof.Rows.boot_set (pa_cons (pe_var hN hv hd hcd) pa_nil)) (by first | exact nomark _ | rfl),
    fun α σ H ρ μ Qd Q S E h post => a2 α σ H ρ μ _ _ S E h fun v1 H1 α1 μ1 x1 g1 s1 r1 q1 => ?_⟩
  split at q1
  · rename_i d ed
    obtain ⟨ns, ms, i1, i2, ⟨n1, n2, l1, l2, sub⟩, q1⟩ := q1
    obtain ⟨b1, vs, rfl, sq1, ra⟩ := s1.seq r1 i1
    have ev := ra.ints
    subst ev
    refine ⟨b1, ns, rfl, sq1, n1, l1, fun p hp => ?_⟩
    obtain ⟨v, h1, h2⟩ := (E.mono g1).2 i d ed
    have gp : Gr α1 H1 α1 (upd H1 p (SetF X.prog X.w p ns)) := gr_new hp
    have sp := s1.new (o := SetF X.prog X.w p ns) hp
    refine ⟨v, h1, ?_⟩
    obtain ⟨b2, vs2, rfl, sq2, rb⟩ := sp.seq (h2.mono gp) i2
    have ev2 := rb.ints
    subst ev2
    refine ⟨b2, ms, rfl, sq2, n2, by omega, fun p2 hp2 => ?_⟩
    have ne : p ≠ p2 := fun z => by
      rw [← z, L2.upd_same] at hp2
      cases hp2
    refine ⟨p, p2, ns, ms, rfl, rfl, by rw [L2.upd_ne ne]; exact L2.upd_same, L2.upd_same, l2, sub, ?_⟩
    exact post _ _ α1 μ1 (.bl true) (g1.trans (gp.trans (gr_new hp2))) (sp.new hp2) (.bl true) q1
  · exact q1.elim
end
/-! ### zip of two tuples, or two lists -/
def diZip2 (d1 d2 : DTE) : DTI := fun ρ μ Q => d1 ρ μ fun x μ1 => d2 ρ μ1 fun y μ2 => match x with
  | .tup xs => (match y with | .tup ys => Q ⟨zipD xs ys, []⟩ μ2 | _ => False)
  | x => (match lsrc μ2 x, lsrc μ2 y with | some s, some t => Q ⟨zipD s.its t.its, s.keep ++ t.keep⟩ μ2 | _, _ => False)
theorem izt_ok {X : Cx} {α : List Addr} {H : Hp} {a b : Addr} {vs us : List V} {ds es : List D} (q : SqT X.K H a vs) (r : RlAll X.K α H vs ds) (q2 : SqT X.K H b us) (r2 : RlAll X.K α H us es) : ItOk X.K (RZ.ItzT X.K a b) ⟨zipD ds es, []⟩ α H := ⟨fun α' H' μ' g S' hd' => by
  have k1 := g.ext.seqT q
  have k2 := r.mono g
  have m1 := g.ext.seqT q2
  have m2 := r2.mono g
  have len : (zipD ds es).length = min vs.length us.length := by
    unfold zipD
    rw [List.length_zipWith, k2.length, m2.length]
  refine ⟨fun i hi => ?_, fun i hi => ?_, fun i d v H3 hg hy => ?_⟩
  · have hi : i < (zipD ds es).length := hi
    rw [len] at hi
    exact ⟨vs, us, vs[i]'(by omega), us[i]'(by omega), k1, m1, by simp, by simp⟩
  · have hi : (zipD ds es).length ≤ i := hi
    rw [len] at hi
    exact ⟨vs, us, k1, m1, by omega⟩
  · obtain ⟨x, y, hx, hz, rfl⟩ := zipD_get hg
    obtain ⟨T, x1, x2, rfl, hT, rfl, hy1, hy2⟩ := hy
    obtain ⟨w1, hw1, rw1⟩ := k2.get hx
    obtain ⟨w2, hw2, rw2⟩ := m2.get hz
    have e1 := hy1 vs k1
    have e2 := hy2 us m1
    rw [hw1] at e1
    rw [hw2] at e2
    cases e1; cases e2
    exact new_pair S' rw1 rw2 hT⟩
theorem izl_ok {X : Cx} {α : List Addr} {H : Hp} {a b : Addr} {s t : Src} (L : LOk X.K a s α H) (L' : LOk X.K b t α H) : ItOk X.K (Itz X.K a b) ⟨zipD s.its t.its, s.keep ++ t.keep⟩ α H := ⟨fun α' H' μ' g S' hd' => by
  obtain ⟨ws, k1, k2⟩ := L.ok α' H' μ' g S' (fun p hp => hd' p (List.mem_append.mpr (.inl hp)))
  obtain ⟨zs, m1, m2⟩ := L'.ok α' H' μ' g S' (fun p hp => hd' p (List.mem_append.mpr (.inr hp)))
  have len : (zipD s.its t.its).length = min ws.length zs.length := by
    unfold zipD
    rw [List.length_zipWith, k2.length, m2.length]
  refine ⟨fun i hi => ?_, fun i hi => ?_, fun i d v H3 hg hy => ?_⟩
  · have hi : i < (zipD s.its t.its).length := hi
    rw [len] at hi
    exact ⟨ws, zs, ws[i]'(by omega), zs[i]'(by omega), k1, m1, by simp, by simp⟩
  · have hi : (zipD s.its t.its).length ≤ i := hi
    rw [len] at hi
    exact ⟨ws, zs, k1, m1, by omega⟩
  · obtain ⟨x, y, hx, hz, rfl⟩ := zipD_get hg
    obtain ⟨T, x1, x2, rfl, hT, rfl, hy1, hy2⟩ := hy
    obtain ⟨w1, hw1, rw1⟩ := k2.get hx
    obtain ⟨w2, hw2, rw2⟩ := m2.get hz
    have e1 := hy1 ws k1
    have e2 := hy2 zs m1
    rw [hw1] at e1
    rw [hw2] at e2
    cases e1; cases e2
    exact new_pair S' rw1 rw2 hT⟩
theorem di_zip2 {X : Cx} {e e2 : Expr} {d1 d2 : DTE} {p pos tpos : Pos} {elts : List Expr} {kk : Nat} (hm : X.mg "zip" = none) (he : PED X e d1) (he2 : PED X e2 d2) (hg : Gl X "zip" := by rfl)
    (hs : starEach [e, e2] X.env = (false, eval e X.env) :: starEach [e2] X.env := by rfl) (hs2 : starEach [e2] X.env = (false, eval e2 X.env) :: starEach [] X.env := by rfl) (hpl : (backTo pos (starEach [e2] X.env)).any (·.1) = false := by rfl) :
    PID X (.Tuple elts kk tpos) (.Call (.Name "zip" p) [e, e2] [] pos) (diZip2 d1 d2) := by
  obtain ⟨t1, a1, a2⟩ := he.ex
  obtain ⟨t2, b1, b2⟩ := he2.ex
  refine ⟨_, RZ.pi_zipA hg hm (pa_cons a1 (pa_cons b1 pa_nil hs2) hs) hs hpl, fun α σ H ρ μ Qd R S en h post => a2 α σ H ρ μ _ _ S en h fun v H1 α1 μ1 d g1 S1 r1 q1 => b2 α1 σ H1 ρ μ1 _ _ S1 (en.mono g1) q1 fun w H2 α2 μ2 dd g2 S2 r2 q2 => ?_⟩
  have lists : ∀ {s t : Src}, lsrc μ2 d = some s → lsrc μ2 dd = some t → Qd ⟨zipD s.its t.its, s.keep ++ t.keep⟩ μ2 → ∃ a b xs ys, [v, w] = [V.ref a, V.ref b] ∧ ((SqL X.K H2 a xs ∧ SqL X.K H2 b ys ∧ R (Itz X.K a b) H2) ∨ (SqT X.K H2 a xs ∧ SqT X.K H2 b ys ∧ R (RZ.ItzT X.K a b) H2)) := by
    intro s t es et q
    obtain ⟨hd, a, vs, rfl, q0, L⟩ := lok_of S2 (r1.mono g2) es
    obtain ⟨hd2, b, us, rfl, q', L'⟩ := lok_of S2 r2 et
    refine ⟨a, b, vs, us, rfl, .inl ⟨q0, q', post _ _ _ _ _ (g1.trans g2) S2 (fun p hp => ?_) (izl_ok L L') q⟩⟩
    rcases List.mem_append.mp hp with hp | hp
    · exact hd p hp
    · exact hd2 p hp
  have rr := r1.mono g2
  have rest : (match lsrc μ2 d, lsrc μ2 dd with | some s, some t => Qd ⟨zipD s.its t.its, s.keep ++ t.keep⟩ μ2 | _, _ => False) → ∃ a b xs ys, [v, w] = [V.ref a, V.ref b] ∧ ((SqL X.K H2 a xs ∧ SqL X.K H2 b ys ∧ R (Itz X.K a b) H2) ∨ (SqT X.K H2 a xs ∧ SqT X.K H2 b ys ∧ R (RZ.ItzT X.K a b) H2)) := by
    intro q
    split at q
    · rename_i s t es et
      exact lists es et q
    · exact q.elim
  cases rr with
  | tup q r =>
    cases r2 with
    | tup q' r' => exact ⟨_, _, _, _, rfl, .inr ⟨q, q', post _ _ _ _ ⟨zipD _ _, []⟩ (g1.trans g2) S2 held_nil (izt_ok q r q' r') q2⟩⟩
    | _ => exact False.elim q2
  | _ => exact rest q2
end Dl
/-! Ev: readings over data, worked out. -/
namespace Dl
open PySem PySem.Spec PyProof.Rows L2
theorem atI_0 {β : Type} (x : β) (xs : List β) : atI (x :: xs) 0 = some x := by
  have := atI_nat (xs := x :: xs) (j := 0) (v := x) rfl
  exact this
theorem atI_1 {β : Type} (x y : β) (xs : List β) : atI (x :: y :: xs) 1 = some y := atI_nat (xs := x :: y :: xs) (j := 1) (v := y) rfl
theorem atI_2 {β : Type} (x y z : β) (xs : List β) : atI (x :: y :: z :: xs) 2 = some z := atI_nat (xs := x :: y :: z :: xs) (j := 2) (v := z) rfl
theorem atI_3 {β : Type} (x y z u : β) (xs : List β) : atI (x :: y :: z :: u :: xs) 3 = some u := atI_nat (xs := x :: y :: z :: u :: xs) (j := 3) (v := u) rfl
theorem atI_4 {β : Type} (x y z u v : β) (xs : List β) : atI (x :: y :: z :: u :: v :: xs) 4 = some v := atI_nat (xs := x :: y :: z :: u :: v :: xs) (j := 4) (v := v) rfl
theorem atI_n1 {β : Type} (xs : List β) (v : β) (h : xs.getLast? = some v) : atI xs (-1) = some v := by
  rw [List.getLast?_eq_getElem?] at h
  have hl : 0 < xs.length := by
    cases xs with
    | nil => simp at h
    | cons _ _ => simp
  unfold L2.atI L2.ixN
  rw [if_neg (by decide), if_pos (by omega)]
  show xs[(-1 + (xs.length : Int)).toNat]? = _
  rw [show (-1 + (xs.length : Int)).toNat = xs.length - 1 by omega]
  exact h
theorem ixN_20 : ixN 2 0 = some 0 := by decide
theorem ixN_21 : ixN 2 1 = some 1 := by decide
theorem ixN_nat {n j : Nat} (h : j < n) : ixN n (j : Int) = some j := by
  unfold L2.ixN
  rw [if_pos (by omega), if_pos (by omega), Int.toNat_natCast]
theorem kit_ii : kitB "int" "int" = some true := by decide +kernel
theorem kit_ib : kitB "int" "bool" = some false := by decide +kernel
theorem kit_is : kitB "int" "str" = some false := by decide +kernel
theorem kit_it : kitB "int" "tuple" = some false := by decide +kernel
theorem kit_il : kitB "int" "list" = some false := by decide +kernel
theorem kit_bi : kitB "bool" "int" = some true := by decide +kernel
theorem kit_bb : kitB "bool" "bool" = some true := by decide +kernel
theorem kit_bs : kitB "bool" "str" = some false := by decide +kernel
theorem kit_bt : kitB "bool" "tuple" = some false := by decide +kernel
theorem kit_bl : kitB "bool" "list" = some false := by decide +kernel
theorem kit_si : kitB "str" "int" = some false := by decide +kernel
theorem kit_sb : kitB "str" "bool" = some false := by decide +kernel
theorem kit_ss : kitB "str" "str" = some true := by decide +kernel
theorem kit_st : kitB "str" "tuple" = some false := by decide +kernel
theorem kit_sl : kitB "str" "list" = some false := by decide +kernel
theorem kit_ti : kitB "tuple" "int" = some false := by decide +kernel
theorem kit_tb : kitB "tuple" "bool" = some false := by decide +kernel
theorem kit_ts : kitB "tuple" "str" = some false := by decide +kernel
theorem kit_tt : kitB "tuple" "tuple" = some true := by decide +kernel
theorem kit_tl : kitB "tuple" "list" = some false := by decide +kernel
theorem kit_li : kitB "list" "int" = some false := by decide +kernel
theorem kit_lb : kitB "list" "bool" = some false := by decide +kernel
theorem kit_ls : kitB "list" "str" = some false := by decide +kernel
theorem kit_lt : kitB "list" "tuple" = some false := by decide +kernel
theorem kit_ll : kitB "list" "list" = some true := by decide +kernel
theorem kit_ni : kitB "NoneType" "int" = some false := by decide +kernel
theorem kit_nb : kitB "NoneType" "bool" = some false := by decide +kernel
theorem kit_ns : kitB "NoneType" "str" = some false := by decide +kernel
theorem kit_nt : kitB "NoneType" "tuple" = some false := by decide +kernel
theorem kit_nl : kitB "NoneType" "list" = some false := by decide +kernel
theorem sz1000 {n : Nat} (h : n ≤ 100000) : n ≤ sizeLine := Nat.le_trans h (by decide)
theorem sz_lt {n : Nat} (h : n < 100000) : n < sizeLine := Nat.lt_of_lt_of_le h (by decide)
theorem Mu.upd_at {μ : Mu} {j k : Nat} {xs : List D} : (μ.upd k xs) j = if j = k then some xs else μ j := rfl
theorem div_ok {j i : Int} (h0 : 0 < j) (h1 : j < 2 ^ 200) : DivOk i j := ⟨h0, lt_big (by omega)⟩
theorem mul_ok {i j : Int} (h0 : -(2 ^ 200) < i) (h1 : i < 2 ^ 200) (h2 : -(2 ^ 200) < j) (h3 : j < 2 ^ 200) : Dl.MulOk i j := .inr (.inr ⟨lt_big (by omega), lt_big (by omega)⟩)

/-! ### comprehensions whose turns change nothing -/
theorem held_upd {s : Src} {μ : Mu} {k : Nat} {xs : List D} (h : s.held μ) (n : μ k = none) : s.held (μ.upd k xs) := fun p hp => by
  have e := h p hp
  rw [Mu.upd_ne (Mu.ne_of e n)]
  exact e
theorem lc_fm {s : Src} {g : DTG} {tt : DTT} {de : DTE} {ρ : Rho} {Q : List D → Mu → Prop} {μ : Mu} (p : D → Bool) (f : D → D) (hh : s.held μ) (hs : s.its.length ≤ 100000)
    (hb : ∀ x, x ∈ s.its → ∀ μ' (Qy : DK) (Qn : Mu → Prop), s.held μ' → (if p x = true then Qy (f x) μ' else Qn μ') → g x ρ μ' fun ρ2 μ2 => tt ρ2 μ2 fun b μ3 => if b = true then de ρ2 μ3 Qy else Qn μ3)
    (hq : Q ((s.its.filter p).map f) μ) : lcIn s g tt de ρ Q μ := by
  intro k hk
  refine ⟨fun i μ' => μ' = μ.upd k (((s.its.take i).filter p).map f), rfl, fun i x μ' hi w => ?_, fun μ' w => ?_⟩
  · subst w
    have hx : x ∈ s.its := List.mem_of_getElem? hi
    have hl : i < s.its.length := (List.getElem?_eq_some_iff.mp hi).1
    have et : s.its.take (i + 1) = s.its.take i ++ [x] := by rw [List.take_add_one, hi]; rfl
    refine ⟨held_upd hh hk, hb x hx _ _ _ (held_upd hh hk) ?_⟩
    cases hp : p x with
    | true =>
      rw [if_pos rfl]
      refine ⟨_, Mu.upd_same, sz_lt ?_, ?_⟩
      · rw [List.length_map]
        have h1 := List.length_filter_le p (s.its.take i)
        rw [List.length_take] at h1
        omega
      · show _ = μ.upd k (((s.its.take (i + 1)).filter p).map f)
        rw [Mu.upd_upd, et, List.filter_append, List.map_append, List.filter_cons_of_pos hp]
        rfl
    | false =>
      rw [if_neg (by decide)]
      show _ = μ.upd k (((s.its.take (i + 1)).filter p).map f)
      rw [et, List.filter_append, List.filter_cons_of_neg (by rw [hp]; decide)]
      simp
  · subst w
    refine ⟨held_upd hh hk, _, μ, Mu.upd_same, hk, ?_, ?_⟩
    · exact Mu.Sub.refl _
    · rw [List.take_length]
      exact hq
theorem lc_map {s : Src} {g : DTG} {de : DTE} {ρ : Rho} {Q : List D → Mu → Prop} {μ : Mu} (f : D → D) (hh : s.held μ) (hs : s.its.length ≤ 100000)
    (hb : ∀ x, x ∈ s.its → ∀ μ' (Qy : DK), s.held μ' → Qy (f x) μ' → g x ρ μ' fun ρ2 μ2 => de ρ2 μ2 Qy)
    (hq : Q (s.its.map f) μ) : lcIn s g dYes de ρ Q μ := by
  refine lc_fm (fun _ => true) f hh hs (fun x hx μ' Qy Qn hd q => ?_) ?_
  · exact hb x hx μ' Qy hd q
  · rw [List.filter_eq_self.mpr fun _ _ => rfl]
    exact hq
/-- .. that leave new cells behind -/
theorem lc_grow {s : Src} {g : DTG} {de : DTE} {ρ : Rho} {Q : List D → Mu → Prop} {μ : Mu} (f : D → D) (hh : s.held μ) (hs : s.its.length ≤ 100000)
    (hb : ∀ x, x ∈ s.its → ∀ μ' (Qy : DK), s.held μ' → (∀ μ4, Mu.Sub μ' μ4 → Qy (f x) μ4) → g x ρ μ' fun ρ2 μ2 => de ρ2 μ2 Qy)
    (hq : Q (s.its.map f) μ) : lcIn s g dYes de ρ Q μ := by
  intro k hk
  have held : ∀ {xs : List D} {μ' : Mu}, Mu.Sub (μ.upd k xs) μ' → s.held μ' := fun {xs μ'} sb p hp => sb _ _ (held_upd hh hk p hp)
  refine ⟨fun i μ' => Mu.Sub (μ.upd k ((s.its.take i).map f)) μ', Mu.Sub.refl _, fun i x μ' hi w => ⟨held w, ?_⟩, fun μ' w => ⟨held w, s.its.map f, μ, ?_, hk, ?_, hq⟩⟩
  · have hx : x ∈ s.its := List.mem_of_getElem? hi
    have hl : i < s.its.length := (List.getElem?_eq_some_iff.mp hi).1
    refine hb x hx _ _ (held w) fun μ4 sb => ⟨_, sb _ _ (w _ _ Mu.upd_same), sz_lt ?_, ?_⟩
    · rw [List.length_map, List.length_take]
      omega
    · have h1 := (w.trans sb).upd k ((s.its.take i).map f ++ [f x])
      rw [Mu.upd_upd] at h1
      show Mu.Sub (μ.upd k ((s.its.take (i + 1)).map f)) _
      rw [List.take_add_one, hi, List.map_append]
      exact h1
  · have := w k _ Mu.upd_same
    rw [List.take_length] at this
    exact this
  · have w : Mu.Sub (μ.upd k ((s.its.take s.its.length).map f)) μ' := w
    rw [List.take_length] at w
    exact w
theorem Mu.keep {μ : Mu} {j k : Nat} {xs ys : List D} (h : μ j = some ys) (n : μ k = none) : (μ.upd k xs) j = some ys := (Mu.upd_ne (Mu.ne_of h n)).trans h
theorem sAll_map {xs : List D} {b : D → Bool} {μ : Mu} {Q : DK} (h : Q (.bl (xs.all b)) μ) : sAll (xs.map fun x => .bl (b x)) μ Q := by
  refine ⟨xs.map b, by rw [List.map_map]; rfl, ?_⟩
  rw [List.all_map]
  exact h
theorem sAny_map {xs : List D} {b : D → Bool} {μ : Mu} {Q : DK} (h : Q (.bl (xs.any b)) μ) : sAny (xs.map fun x => .bl (b x)) μ Q := by
  refine ⟨xs.map b, by rw [List.map_map]; rfl, ?_⟩
  rw [List.any_map]
  exact h
theorem atI_map {β γ : Type} (f : β → γ) (xs : List β) (i : Int) : atI (xs.map f) i = (atI xs i).map f := by
  unfold L2.atI
  rw [List.length_map]
  cases ixN xs.length i with
  | none => rfl
  | some j => exact List.getElem?_map

theorem natlit (n : Nat) : ((no_index (OfNat.ofNat n : Nat)) : Int) = (OfNat.ofNat n : Int) := rfl
theorem permG2_10 {β : Type} (a b : β) (l : List β) : permG [1, 0] l [a, b] = [b, a] := rfl
theorem permG3_210 {β : Type} (a b c : β) (l : List β) : permG [2, 1, 0] l [a, b, c] = [c, b, a] := rfl
theorem zl_0 : (0 ≤ sizeLine) = True := eq_true (sz1000 (by decide))
theorem zl_1 : (1 ≤ sizeLine) = True := eq_true (sz1000 (by decide))
theorem zl_2 : (2 ≤ sizeLine) = True := eq_true (sz1000 (by decide))
theorem zl_3 : (3 ≤ sizeLine) = True := eq_true (sz1000 (by decide))
theorem zl_4 : (4 ≤ sizeLine) = True := eq_true (sz1000 (by decide))
theorem zl_5 : (5 ≤ sizeLine) = True := eq_true (sz1000 (by decide))
theorem zl_6 : (6 ≤ sizeLine) = True := eq_true (sz1000 (by decide))
theorem zl_7 : (7 ≤ sizeLine) = True := eq_true (sz1000 (by decide))
theorem zl_8 : (8 ≤ sizeLine) = True := eq_true (sz1000 (by decide))
theorem zl_9 : (9 ≤ sizeLine) = True := eq_true (sz1000 (by decide))
theorem zl_10 : (10 ≤ sizeLine) = True := eq_true (sz1000 (by decide))
theorem zl_11 : (11 ≤ sizeLine) = True := eq_true (sz1000 (by decide))
theorem zl_12 : (12 ≤ sizeLine) = True := eq_true (sz1000 (by decide))
theorem zl_13 : (13 ≤ sizeLine) = True := eq_true (sz1000 (by decide))
theorem zl_14 : (14 ≤ sizeLine) = True := eq_true (sz1000 (by decide))
theorem zl_15 : (15 ≤ sizeLine) = True := eq_true (sz1000 (by decide))
theorem zl_16 : (16 ≤ sizeLine) = True := eq_true (sz1000 (by decide))
theorem zl_17 : (17 ≤ sizeLine) = True := eq_true (sz1000 (by decide))
theorem zl_18 : (18 ≤ sizeLine) = True := eq_true (sz1000 (by decide))
theorem zl_19 : (19 ≤ sizeLine) = True := eq_true (sz1000 (by decide))
theorem zl_20 : (20 ≤ sizeLine) = True := eq_true (sz1000 (by decide))
/-- what is still to be run: U -/
def Nx (u V : Rho → Mu → Prop) : Prop := ∀ ρ μ μ', Mu.Sub μ' μ → u ρ μ' → V ρ μ
theorem Nx.go {u V : Rho → Mu → Prop} {ρ : Rho} {μ : Mu} (h : Nx u V) (q : u ρ μ) : V ρ μ := h ρ μ μ (Mu.Sub.refl μ) q
theorem Nx.fgt {u V : Rho → Mu → Prop} {ρ : Rho} {μ μ' : Mu} (h : Nx u V) (s : Mu.Sub μ' μ) (q : u ρ μ') : V ρ μ := h ρ μ μ' s q
theorem sq {t u : DTS} {D : DEnds} {ρ : Rho} {μ : Mu} (h : ∀ U, Nx (u D) U → t ⟨U, D.rt, D.bk, D.ct⟩ ρ μ) : dSeq t u D ρ μ := h _ fun _ _ μ' s q => ⟨μ', s, q⟩
end Dl
/-! Ev2: comprehensions over a typed list. -/
namespace Dl
open PySem PySem.Spec PyProof.Rows L2
theorem lc_ty {β : Type} {l : List β} {e : β → D} {kp : List (Nat × List D)} {g : DTG} {tt : DTT} {de : DTE} {ρ : Rho} {Q : List D → Mu → Prop} {μ : Mu} (p : β → Bool) (f : β → D) (hh : (⟨l.map e, kp⟩ : Src).held μ) (hs : l.length ≤ 100000)
    (hb : ∀ b, b ∈ l → ∀ μ' (Qy : DK) (Qn : Mu → Prop), Mu.Sub μ μ' → (if p b = true then Qy (f b) μ' else Qn μ') → g (e b) ρ μ' fun ρ2 μ2 => tt ρ2 μ2 fun c μ3 => if c = true then de ρ2 μ3 Qy else Qn μ3)
    (hq : Q ((l.filter p).map f) μ) : lcIn ⟨l.map e, kp⟩ g tt de ρ Q μ := by
  intro k hk
  refine ⟨fun i μ' => μ' = μ.upd k (((l.take i).filter p).map f), rfl, fun i x μ' hi w => ?_, fun μ' w => ?_⟩
  · subst w
    have hi : (l.map e)[i]? = some x := hi
    rw [List.getElem?_map] at hi
    obtain ⟨b, hib, rfl⟩ := Option.map_eq_some_iff.mp hi
    have hx : b ∈ l := List.mem_of_getElem? hib
    have hl : i < l.length := (List.getElem?_eq_some_iff.mp hib).1
    have et : l.take (i + 1) = l.take i ++ [b] := by rw [List.take_add_one, hib]; rfl
    refine ⟨held_upd hh hk, hb b hx _ _ _ (Mu.sub_upd hk) ?_⟩
    cases hp : p b with
    | true =>
      rw [if_pos rfl]
      refine ⟨_, Mu.upd_same, sz_lt ?_, ?_⟩
      · rw [List.length_map]
        have h1 := List.length_filter_le p (l.take i)
        rw [List.length_take] at h1
        omega
      · show _ = μ.upd k (((l.take (i + 1)).filter p).map f)
        rw [Mu.upd_upd, et, List.filter_append, List.map_append, List.filter_cons_of_pos hp]
        rfl
    | false =>
      rw [if_neg (by decide)]
      show _ = μ.upd k (((l.take (i + 1)).filter p).map f)
      rw [et, List.filter_append, List.filter_cons_of_neg (by rw [hp]; decide)]
      simp
  · have w : μ' = μ.upd k (((l.take (l.map e).length).filter p).map f) := w
    subst w
    refine ⟨held_upd hh hk, _, μ, Mu.upd_same, hk, Mu.Sub.refl _, ?_⟩
    rw [List.length_map, List.take_length]
    exact hq
theorem lc_tm {β : Type} {l : List β} {e : β → D} {kp : List (Nat × List D)} {g : DTG} {de : DTE} {ρ : Rho} {Q : List D → Mu → Prop} {μ : Mu} (f : β → D) (hh : (⟨l.map e, kp⟩ : Src).held μ) (hs : l.length ≤ 100000)
    (hb : ∀ b, b ∈ l → ∀ μ' (Qy : DK), Mu.Sub μ μ' → Qy (f b) μ' → g (e b) ρ μ' fun ρ2 μ2 => de ρ2 μ2 Qy)
    (hq : Q (l.map f) μ) : lcIn ⟨l.map e, kp⟩ g dYes de ρ Q μ := by
  refine lc_ty (fun _ => true) f hh hs (fun b hb' μ' Qy Qn hd q => hb b hb' μ' Qy hd q) ?_
  rw [List.filter_eq_self.mpr fun _ _ => rfl]
  exact hq
theorem sAll_ty {β : Type} {l : List β} {b : β → Bool} {μ : Mu} {Q : DK} (h : Q (.bl (l.all b)) μ) : sAll (l.map fun x => .bl (b x)) μ Q := by
  refine ⟨l.map b, by rw [List.map_map]; rfl, ?_⟩
  rw [List.all_map]
  exact h
theorem sAny_ty {β : Type} {l : List β} {b : β → Bool} {μ : Mu} {Q : DK} (h : Q (.bl (l.any b)) μ) : sAny (l.map fun x => .bl (b x)) μ Q := by
  refine ⟨l.map b, by rw [List.map_map]; rfl, ?_⟩
  rw [List.any_map]
  exact h
theorem all_yes {β : Type} (l : List β) : l.all (fun _ => true) = true := by
  induction l with
  | nil => rfl
  | cons a l ih => exact ih
/-! ### what == looks at -/
structure EqOk (μ : Mu) (d : D) (p : PyData) (dep : Nat) : Prop where
  rs : Rs μ d p
  cl : p.canLay0 = true
  dp : p.depth ≤ dep
structure EqAll (μ : Mu) (ds : List D) (ps : List PyData) (dep : Nat) : Prop where
  rs : RsAll μ ds ps
  cl : PyData.canLayAll0 ps = true
  dp : PyData.depthAll ps ≤ dep
section
variable {μ : Mu}
theorem EqOk.int (i : Int) : EqOk μ (.int i) (.int i) 0 := ⟨.int i, rfl, by simp [PyData.depth]⟩
theorem EqOk.bl (b : Bool) : EqOk μ (.bl b) (.bool b) 0 := ⟨.bl b, rfl, by simp [PyData.depth]⟩
theorem EqOk.non : EqOk μ .non .none 0 := ⟨.non, rfl, by simp [PyData.depth]⟩
theorem EqAll.nil : EqAll μ [] [] 0 := ⟨.nil, rfl, by simp [PyData.depthAll]⟩
theorem EqAll.cons {d : D} {ds : List D} {p : PyData} {ps : List PyData} {a : Nat} (h : EqOk μ d p a) (t : EqAll μ ds ps a) : EqAll μ (d :: ds) (p :: ps) a := by
  refine ⟨.cons h.rs t.rs, ?_, ?_⟩
  · simp only [PyData.canLayAll0, h.cl, t.cl, Bool.and_self]
  · have h1 := h.dp
    have h2 := t.dp
    simp only [PyData.depthAll]
    omega
theorem EqAll.emp {a : Nat} : EqAll μ [] [] a := ⟨.nil, rfl, by simp [PyData.depthAll]⟩
theorem EqOk.mono {d : D} {p : PyData} {a b : Nat} (h : EqOk μ d p a) (hb : a ≤ b) : EqOk μ d p b := ⟨h.rs, h.cl, Nat.le_trans h.dp hb⟩
theorem EqOk.tup {ds : List D} {ps : List PyData} {a : Nat} (h : EqAll μ ds ps a) : EqOk μ (.tup ds) (.tuple ps) (a + 1) := by
  refine ⟨.tup h.rs, ?_, ?_⟩
  · simp only [PyData.canLay0, h.cl]
  · have := h.dp
    simp only [PyData.depth]
    omega
theorem EqOk.lst {k : Nat} {ds : List D} {ps : List PyData} {a : Nat} (e : μ k = some ds) (h : EqAll μ ds ps a) : EqOk μ (.cell k) (.list ps) (a + 1) := by
  refine ⟨.cell e h.rs, ?_, ?_⟩
  · simp only [PyData.canLay0, h.cl]
  · have := h.dp
    simp only [PyData.depth]
    omega
theorem EqAll.map {β : Type} {f : β → D} {g : β → PyData} {a : Nat} : ∀ {xs : List β}, (∀ x, x ∈ xs → EqOk μ (f x) (g x) a) → EqAll μ (xs.map f) (xs.map g) a
  | [], _ => .emp
  | x :: xs, h => .cons (h x (List.mem_cons_self ..)) (EqAll.map fun y hy => h y (List.mem_cons_of_mem _ hy))
theorem ask_deep {neg : Bool} {x y : D} {p q : PyData} {a b : Nat} {Q : DK} (h1 : EqOk μ x p a) (h2 : EqOk μ y q b) (ha : a ≤ 64) (hb : b ≤ 64) (k : Q (.bl (if neg = true then !PyData.eqv p q else PyData.eqv p q)) μ) : deepEq neg x y μ Q :=
  ⟨p, q, h1.rs, h2.rs, by unfold SeqAt.shaped; rw [h1.cl, decide_eq_true (Nat.le_trans h1.dp ha)]; rfl, by unfold SeqAt.shaped; rw [h2.cl, decide_eq_true (Nat.le_trans h2.dp hb)]; rfl, k⟩
theorem ask_same {x y : D} {p : PyData} {a : Nat} {Q : DK} (h1 : EqOk μ x p a) (h2 : EqOk μ y p a) (ha : a ≤ 64) (k : Q (.bl false) μ) : deepEq true x y μ Q := by
  refine ask_deep h1 h2 ha ha ?_
  rw [if_pos rfl, SeqAt.eqv_refl p h1.cl]
  exact k
end
end Dl
/-! Rp: what repr shows, by data. -/
namespace Dl
open PySem PySem.Spec PyProof.Rows L2
structure RpOk (μ : Mu) (d : D) (p : PyData) (n dep : Nat) : Prop where
  rs : Rs μ d p
  sh : p.showable = true
  nd : p.hasDict = false
  ls : p.leavesShort 24 = true
  bk : p.bulk ≤ n
  dp : p.depth ≤ dep
structure RpAll (μ : Mu) (ds : List D) (ps : List PyData) (n dep : Nat) : Prop where
  rs : RsAll μ ds ps
  sh : PyData.showableAll ps = true
  nd : PyData.hasDictAll ps = false
  ls : PyData.leavesShortAll 24 ps = true
  bk : PyData.bulkAll ps ≤ n
  dp : PyData.depthAll ps ≤ dep
section
variable {μ : Mu}
theorem RpOk.non : RpOk μ .non .none 0 0 := ⟨.non, by simp [PyData.showable], by simp [PyData.hasDict], by simp [PyData.leavesShort], by simp [PyData.bulk], by simp [PyData.depth]⟩
theorem RpOk.bl (b : Bool) : RpOk μ (.bl b) (.bool b) 0 0 := ⟨.bl b, by simp [PyData.showable], by simp [PyData.hasDict], by simp [PyData.leavesShort], by simp [PyData.bulk], by simp [PyData.depth]⟩
theorem log_of {n : Nat} (h : n < 10 ^ 22) : n.log2 < 1920 := by
  rcases Nat.eq_zero_or_pos n with rfl | h0
  · decide
  · exact (Nat.log2_lt (by omega)).mpr (Nat.lt_trans h (by decide))
theorem RpOk.int {i : Int} (h : i.natAbs < 10 ^ 22) : RpOk μ (.int i) (.int i) 0 0 := ⟨.int i, by simp only [PyData.showable]; exact decide_eq_true (log_of h), by simp [PyData.hasDict], by
  simp only [PyData.leavesShort]
  refine decide_eq_true ?_
  have := PySem.int_text_length_le10 (a := i) (k := 22) (by decide) h
  have e := PySem.ofString_length (toString i)
  show (Str.ofString (toString i)).length ≤ 24
  omega, by simp [PyData.bulk], by simp [PyData.depth]⟩
theorem RpOk.str {x : Str} (h : (x.cps.toList.all fun c => decide (c < 16 ^ 8)) = true) : RpOk μ (.str x) (.str x) x.cps.size 0 := ⟨.str x, by simp [PyData.showable], by simp [PyData.hasDict], by simp only [PyData.leavesShort]; exact h, by simp [PyData.bulk], by simp [PyData.depth]⟩
theorem RpOk.mono {d : D} {p : PyData} {n dep n' dep' : Nat} (h : RpOk μ d p n dep) (hn : n ≤ n') (hd : dep ≤ dep') : RpOk μ d p n' dep' := ⟨h.rs, h.sh, h.nd, h.ls, Nat.le_trans h.bk hn, Nat.le_trans h.dp hd⟩
theorem RpAll.nil : RpAll μ [] [] 0 0 := ⟨.nil, by simp [PyData.showableAll], by simp [PyData.hasDictAll], by simp [PyData.leavesShortAll], by simp [PyData.bulkAll], by simp [PyData.depthAll]⟩
theorem RpAll.cons {d : D} {ds : List D} {p : PyData} {ps : List PyData} {n m a b : Nat} (h : RpOk μ d p n a) (t : RpAll μ ds ps m b) : RpAll μ (d :: ds) (p :: ps) (n + 1 + m) (max a b) := by
  refine ⟨.cons h.rs t.rs, ?_, ?_, ?_, ?_, ?_⟩
  · simp only [PyData.showableAll, h.sh, t.sh, Bool.and_self]
  · simp only [PyData.hasDictAll, h.nd, t.nd, Bool.or_self]
  · simp only [PyData.leavesShortAll, h.ls, t.ls, Bool.and_self]
  · have h1 := h.bk
    have h2 := t.bk
    simp only [PyData.bulkAll]
    omega
  · have h1 := h.dp
    have h2 := t.dp
    simp only [PyData.depthAll]
    omega
theorem RpOk.tup {ds : List D} {ps : List PyData} {n dep : Nat} (h : RpAll μ ds ps n dep) : RpOk μ (.tup ds) (.tuple ps) n (dep + 1) := by
  refine ⟨.tup h.rs, ?_, ?_, ?_, ?_, ?_⟩
  · simp only [PyData.showable, h.sh]
  · simp only [PyData.hasDict, h.nd]
  · simp only [PyData.leavesShort, h.ls]
  · simp only [PyData.bulk]
    exact h.bk
  · have := h.dp
    simp only [PyData.depth]
    omega
theorem RpOk.lst {k : Nat} {ds : List D} {ps : List PyData} {n dep : Nat} (e : μ k = some ds) (h : RpAll μ ds ps n dep) : RpOk μ (.cell k) (.list ps) n (dep + 1) := by
  refine ⟨.cell e h.rs, ?_, ?_, ?_, ?_, ?_⟩
  · simp only [PyData.showable, h.sh]
  · simp only [PyData.hasDict, h.nd]
  · simp only [PyData.leavesShort, h.ls]
  · simp only [PyData.bulk]
    exact h.bk
  · have := h.dp
    simp only [PyData.depth]
    omega
theorem RpAll.map {β : Type} {f : β → D} {g : β → PyData} {c dep : Nat} : ∀ {xs : List β}, (∀ x, x ∈ xs → RpOk μ (f x) (g x) c dep) → RpAll μ (xs.map f) (xs.map g) (xs.length * (c + 1)) dep
  | [], _ => by
    have := RpAll.nil (μ := μ)
    exact ⟨this.rs, this.sh, this.nd, this.ls, Nat.le_trans this.bk (Nat.zero_le _), Nat.le_trans this.dp (Nat.zero_le _)⟩
  | x :: xs, h => by
    have h1 := RpAll.cons (h x (List.mem_cons_self ..)) (RpAll.map fun y hy => h y (List.mem_cons_of_mem _ hy))
    refine ⟨h1.rs, h1.sh, h1.nd, h1.ls, Nat.le_trans h1.bk ?_, Nat.le_trans h1.dp (by omega)⟩
    rw [List.length_cons, Nat.add_mul]
    omega
theorem ask_repr {d : D} {p : PyData} {n dep : Nat} {Q : DK} (h : RpOk μ d p n dep) (hd : isDisplay p = true) (h1 : n ≤ 500000) (h2 : dep ≤ 60) (q : Q (.str p.shown) μ) : cRepr [d] μ Q := by
  refine ⟨p, h.rs, hd, h.sh, h.nd, Nat.le_trans h.dp h2, ?_, q⟩
  have a := PyData.shown_le_bulk 24 (by decide) p h.ls
  have b := h.bk
  have e : (24 + 2) * p.bulk + 24 ≤ 13000024 := by omega
  have s : 13000024 ≤ sizeLine := by decide
  omega
end
end Dl
/-! End: a law's end, from its promise over data; the module's names off the head's facts. -/
namespace Dl
open PySem PySem.Spec PyProof.Rows L2

/-- the only thing followed is a list at a, which never changes -/
structure Lone (K : PySem.W.Frag) (a : Addr) (H : Hp) : Prop where
  off : ∀ b, b ≠ a → H b = none
  on : ∀ u, H a = some u → K.lookup a = none ∧ ∃ ob xs, u = .frz ob (.lst xs)

theorem call_end {P : Program} {w : World} {K : PySem.W.Frag} {mg mb : Str → Option Value} {k : Nat} {f a : Addr} {fd : FuncData} {x : Str} {sp : DSp} {s : Shared} {ws : List Value} {ns : List Int}
    (hK : K.In s.heap) (h1 : s.heap.Ns mainGlobals mg) (h2 : s.heap.Ns builtinsNs mb) (h3 : ∀ y : Str, y ≠ "__name__" → mb y = bootBuiltins y) (h4 : s.heap.NoLimit) (h5 : s.gens = #[])
    (at_ : s.heap.get? a = some { cls := .type "list", data := .seq ws.toArray }) (iv : IntsAre ws ns) (hr : Room k callerA) (bd : BindsTo s fd ⟨[.ref a], []⟩ [(x, .ref a)])
    (F : ∀ base : Heap, FnG P w K mg base k f fd [x] sp) (hsp : ∀ Q : DK, (∀ μ, Q (.bl true) μ) → sp [.frz (ns.map D.int)] (fun _ => none) Q)
    {H : Hp} (lone : Lone K a H) (hok : HOk P w H s.heap) (fz : FrzL K H a (ns.map V.int)) :
    codeAny (model P w) callerA (.call (.ref f) ⟨[.ref a], []⟩) (fun r s' => r = .ok (.ret (.bool true)) ∧ OldK s.heap s'.heap ∧ s'.os = s.os ∧ AllBare s'.gens) s := by
  have dict0 : ∀ b ob es ep, s.heap.get? b = some ob → ob.data = .dict es ep → H b = none := by
    intro b ob es ep e d
    by_cases q : b = a
    · rw [q, at_] at e
      rw [← Option.some.inj e] at d
      cases d
    · exact lone.off b q
  have ns_ : ∀ {b : Addr} {m : Str → Option Value}, s.heap.Ns b m → (hidT s.heap H).Ns b m := by
    rintro b m ⟨ob, es, ep, e, d, r⟩
    exact ⟨ob, es, ep, hidT_get e (dict0 b ob es ep e d), d, r⟩
  have kin : K.In (hidT s.heap H) := by
    intro b ob e
    refine hidT_get (hK b ob e) ?_
    by_cases q : b = a
    · cases hu : H b with
      | none => rfl
      | some u =>
        rw [q] at hu e
        rw [(lone.on u hu).1] at e
        cases e
    · exact lone.off b q
  have md : Mod K mg (hidT s.heap H) := by
    obtain ⟨mc, l1, l2⟩ := h4
    exact ⟨kin, ns_ h1, ⟨mb, ns_ h2, h3⟩, mc, ns_ l1, l2⟩
  have no0 : ∀ b, b ∉ frs ([] : List Env) := fun b z => by cases z
  have e0 : Env0 P w K mg (hidT s.heap H) callerA [] s H :=
    { frames := rfl, mod := md, bs := fun b ob e => of_hidT e, bsz := by rw [hidT_size]; exact Nat.le_refl _, funs := trivial, frf := fun b z => (no0 b z).elim, hok := hok, bare := .of_eq h5 }
  have sat : Sat K [] H (fun _ => none) :=
    { cell := fun k xs e => (by cases e), inj := fun j k b e => (by rw [List.getElem?_nil] at e; cases e), live := fun k b e => (by rw [List.getElem?_nil] at e; cases e) }
  have run := (F (hidT s.heap H)).run callerA [] s H ⟨[.ref a], []⟩ [.ref a] [.ref a] [] (fun _ => none) [.frz (ns.map D.int)] (fun d _ => d = .bl true) (fun v _ => v = .bl true) hr rfl e0 rfl bd (.cons rfl .nil) sat
    (.cons (.frz fz (rlInts ns)) .nil) (hsp _ fun _ => rfl) (by
      intro v H' α' μ' d _ _ r e
      subst e
      cases r
      rfl)
  refine codeAny_mono run fun r s' h => ?_
  match r, h with
  | .error e, h => exact h.elim
  | .ok (.ret u), ⟨v, H', os, bare, un, hok', rv, e⟩ =>
    subst e
    have eu : u = Value.bool true := rv
    rw [eu]
    refine ⟨rfl, OldK.of_keep fun b ob q => ?_, os, bare⟩
    cases hu : H b with
    | none => exact un.keep b ob q hu (no0 b) (fun z => by cases z)
    | some v =>
      by_cases qa : b = a
      · rw [qa] at hu q ⊢
        obtain ⟨_, oz, xs, rfl⟩ := lone.on v hu
        have p1 := (hok a _ hu).1
        have p2 := (hok' a _ (un.frzs a oz _ hu)).1
        rw [q] at p1
        rw [Option.some.inj p1]
        exact p2
      · rw [lone.off b qa] at hu
        cases hu
theorem call_law {P : Program} {w : World} {K : PySem.W.Frag} {mg mb : Str → Option Value} {k : Nat} {f a : Addr} {fd : FuncData} {x : Str} {sp : DSp} {s : Shared} {ws : List Value} {ns : List Int}
    (hK : K.In s.heap) (h1 : s.heap.Ns mainGlobals mg) (h2 : s.heap.Ns builtinsNs mb) (h3 : ∀ y : Str, y ≠ "__name__" → mb y = bootBuiltins y) (h4 : s.heap.NoLimit) (h5 : s.gens = #[])
    (at_ : s.heap.get? a = some { cls := .type "list", data := .seq ws.toArray }) (iv : IntsAre ws ns) (hl : ns.length ≤ sizeLine) (hr : Room k callerA) (bd : BindsTo s fd ⟨[.ref a], []⟩ [(x, .ref a)])
    (F : ∀ base : Heap, FnG P w K mg base k f fd [x] sp) (hsp : ∀ Q : DK, (∀ μ, Q (.bl true) μ) → sp [.frz (ns.map D.int)] (fun _ => none) Q) :
    codeAny (model P w) callerA (.call (.ref f) ⟨[.ref a], []⟩) (fun r s' => r = .ok (.ret (.bool true)) ∧ OldK s.heap s'.heap ∧ s'.os = s.os ∧ AllBare s'.gens) s := by
  have rv := vals_ints iv
  cases hk : K.lookup a with
  | some ob =>
    have e := hK a ob hk
    rw [at_] at e
    cases e
    refine call_end hK h1 h2 h3 h4 h5 at_ iv hr bd F hsp (H := fun _ => none) ⟨fun _ _ => rfl, fun u z => by cases z⟩ (fun b u z => by cases z) (.inr (.inr ⟨_, ws.toArray, _, hk, rfl, rfl, rfl, ?_, ?_⟩))
    · rw [List.size_toArray, iv.length]
      exact hl
    · simpa using rv
  | none =>
    refine call_end hK h1 h2 h3 h4 h5 at_ iv hr bd F hsp (H := upd (fun _ => none) a (.frz { cls := .type "list", data := .seq ws.toArray } (.lst (ns.map V.int)))) ⟨fun b q => L2.upd_ne q, fun u z => ?_⟩ (fun b u z => ?_) (.inl ⟨_, L2.upd_same⟩)
    · rw [L2.upd_same] at z
      exact ⟨hk, _, _, (Option.some.inj z).symm⟩
    · by_cases q : b = a
      · subst q
        rw [L2.upd_same] at z
        cases z
        exact ⟨at_, by rw [List.length_map]; exact hl, ws, _, rv, at_⟩
      · rw [L2.upd_ne q] at z
        cases z

/-! ### the head's facts -/
/-- a def of the top, of no default -/
def mkD (p : Str × Stmt) : He.DefD := ⟨(p.1, none), p.1, p.1, defArgs p.2, defBody p.2, defScope p.2, [], []⟩
theorem txt_of {K : PySem.W.Frag} {h : Heap} {mg : Str → Option Value} (X : K.In h) (G : h.Ns mainGlobals mg) {fa : List He.Fa} {fn : List He.DefD} (c : He.SaysD fa fn K) {x : Str} {st : Stmt} (i j : Nat)
    (hi : fn[i]? = some (mkD (x, st))) (hj : fa[j]? = some (.glo x)) : Txt K mg x st := by
  obtain ⟨fd, F⟩ := c.def_ i hi
  have g := He.glo_ok X G (c.fact j hj)
  obtain ⟨oc, od, dV, kV, doc, pm, an, cdv, ct, osl, e, lk, hcd, hD, hKw⟩ := F.ex
  have e0 : dV = .none := by
    rcases hD with ⟨_, q⟩ | ⟨q, _⟩
    · exact q
    · exact (q rfl).elim
  subst e0
  exact ⟨_, fd, g, ⟨oc, od, kV, doc, pm, an, cdv, ct, osl, e, lk, hcd⟩, F.kp⟩
theorem gc_int {K : PySem.W.Frag} {h : Heap} {mg : Str → Option Value} (X : K.In h) (G : h.Ns mainGlobals mg) {fa : List He.Fa} {fn : List He.DefD} (c : He.SaysD fa fn K) {x : Str} {n : Int} (j : Nat) (hj : fa[j]? = some (.int x n)) : Gc K mg x (.int n) := by
  obtain ⟨t, e⟩ := He.int_ok X G (c.fact j hj)
  exact ⟨.int n, _, e, ⟨t, rfl⟩, fun _ _ => .int n⟩
theorem gc_str {K : PySem.W.Frag} {h : Heap} {mg : Str → Option Value} (X : K.In h) (G : h.Ns mainGlobals mg) {fa : List He.Fa} {fn : List He.DefD} (c : He.SaysD fa fn K) {x z : Str} (j : Nat) (hj : fa[j]? = some (.str x z)) : Gc K mg x (.str z) := by
  obtain ⟨t, e⟩ := He.str_ok X G (c.fact j hj)
  exact ⟨.str z, _, e, ⟨t, rfl⟩, fun _ _ => .str z⟩
theorem walk_ofD {l : PySem.W.OpenLaw} {n k : Nat} {q : Program} {loose : List Str} {XP : (Str → Option Value) → Heap → Prop} {YP : World → Heap → Prop} {d : DefRec} {x : Str} {st : Stmt} {sp : DSp}
    (hn : l.most = some n) (hn2 : n ≤ sizeLine) (hdf : d.params.defaults = []) (hr : Room k callerA)
    (F : ∀ (w : World) (mg : Str → Option Value) (h : Heap), YP w h → h.Ns mainGlobals mg →
      ∃ K : PySem.W.Frag, K.In h ∧ ∀ base, Has l.prog w K mg base k d.name st [x] sp)
    (bd : ∀ (kV doc pm : Value) (an : Option Addr) (cdv ct u : Value), bindArgs (PySem.W.fnOf d.name d.name (defArgs st) (defBody st) (defScope st) .none kV doc pm an cdv ct) ⟨[u], []⟩ = pure [(x, u)])
    (hsp : ∀ (ns : List Int) (Q : DK), ns.length ≤ n → (∀ μ, Q (.bl true) μ) → sp [.frz (ns.map D.int)] (fun _ => none) Q) :
    PySem.W.WalkO q loose XP YP l.row.toRowW d [] (fun f vs => PySem.call f vs) := by
  refine Att.attach_call hn hdf fun w s₀ s₁ mg mb fa o pm cd doc a vs ns G Y ho hd hcd hmg hobj hints hlen hg => ?_
  obtain ⟨K, X, hF⟩ := F w mg _ Y G.T.g
  obtain ⟨f0, fd0, m0, Fn0, _⟩ := (hF s₁.heap).ex
  have ef : f0 = fa := by
    rw [hmg] at m0
    cases m0
    rfl
  subst ef
  have all : ∀ base, FnG l.prog w K mg base k f0 fd0 [x] sp := by
    intro base
    obtain ⟨f1, fd1, m1, Fn1, R1⟩ := (hF base).ex
    rw [m0] at m1
    cases m1
    obtain ⟨oc, od, kV, doc, pm, an, cdv, ct, osl, rfl, lk, _⟩ := Fn0.ex
    obtain ⟨oc1, od1, kV1, doc1, pm1, an1, cdv1, ct1, osl1, rfl, lk1, _⟩ := Fn1.ex
    rw [lk] at lk1
    cases lk1
    exact R1
  have b0 : BindsTo s₁ fd0 ⟨[.ref a], []⟩ [(x, .ref a)] := by
    obtain ⟨oc, od, kV, doc, pm, an, cdv, ct, osl, rfl, lk, _⟩ := Fn0.ex
    exact .of_eq (bd kV doc pm an cdv ct (.ref a))
  exact call_law X G.T.g G.T.b G.T.builtins G.T.nolimit hg hobj hints (Nat.le_trans hlen hn2) hr b0 all fun Q hQ => hsp ns Q hlen hQ
end Dl
namespace K93
open PySem PySem.Spec PyProof.Rows L2 Dl
local macro_rules | `(tactic| walk_at "ev") => `(tactic| try simp -dsimp only [↓dSeq_at, dRet, dRetN, dNext, dIfS, dAsg, dDrop, dPar, dNever, dVar, dC, dOp, dUn, dTest, dChain, dAnd, dOr, dNot, dIf, dtAnd, dtOr, dtNot, dTup, daNil, daCons, dCall, dFn, dFnK, dNew, dLst, dOf,
  gdName, gdTup, gdCons, gdNil, gdSub, rdI, rdI0, oPlus, oSub, oTimes, oDiv, oMod, oPow, oLt, oLe, oGt, oGe, oIx, oEq, oNe, uNeg, oIsN, oNotN, D.isNon, cAbs, cMax, cMin, cInt, cDivmod, cLen, cIsi, tyD, items, litems, retD, sTup, mApp, dYes,
  atI_0, atI_1, atI_2, atI_3, atI_4, ixN_20, ixN_21, kit_ii, kit_ib, kit_is, kit_it, kit_il, kit_bi, kit_bb, kit_bs, kit_bt, kit_bl, kit_si, kit_sb, kit_ss, kit_st, kit_sl, kit_ti, kit_tb, kit_ts, kit_tt, kit_tl, kit_li, kit_lb, kit_ls, kit_lt, kit_ll,
  List.getElem?_cons_zero, List.getElem?_cons_succ, List.set_cons_zero, List.set_cons_succ, List.length_cons, List.length_nil, Mu.upd_same, Mu.upd_upd, Nat.zero_add, Nat.reduceAdd, Nat.reduceLeDiff, natlit, Int.reduceEq, Int.reduceLT, Int.reduceLE, Int.reduceAdd, Int.reduceSub, Int.reduceMul, Int.reducePow, Int.reduceNeg, permG2_10, permG3_210, zl_0, zl_1, zl_2, zl_3, zl_4, zl_5, zl_6, zl_7, zl_8, zl_9, zl_10, zl_11, zl_12, zl_13, zl_14, zl_15, zl_16, zl_17, zl_18, zl_19, zl_20, true_and, and_true, eq_self, not_true_eq_false, not_false_eq_true, decide_true, decide_false, if_true, Bool.false_eq_true, if_false, Bool.not_true, Bool.not_false, decide_eq_true_eq, Bool.not_eq_true', decide_eq_false_iff_not, Option.isSome, Option.map])
/-! ## kinds -/
def sp_is_integer : DSp := fun ds μ Q => match ds with | [.int _] => Q (.bl true) μ | _ => False
theorem len_is_integer : ∀ ds μ Q, sp_is_integer ds μ Q → ds.length = (["value"] : List Str).length := by
  intro ds μ Q h
  unfold sp_is_integer at h
  split at h <;> first | rfl | exact h.elim
def db_is_integer : DTS := (dRet (dAnd (dCall cIsi (daCons (dVar 0) (daCons (dC (.ty "int")) daNil))) (dNot (dCall cIsi (daCons (dVar 0) (daCons (dC (.ty "bool")) daNil))))))
theorem pf_is_integer : ∀ ds μ Q, sp_is_integer ds μ Q → db_is_integer (retD Q) (startD ["value"] ds) μ := by
  intro ds μ Q h
  unfold sp_is_integer at h
  split at h
  · rename_i t
    show db_is_integer (retD Q) [some (.int t)] μ
    unfold db_is_integer
    walk_at "ev"
    exact ⟨μ, Mu.Sub.refl _, h⟩
  · exact h.elim
def sp_is_tuple : DSp := fun ds μ Q => match ds with | [.tup xs, .int n] => Q (.bl (decide ((xs.length : Int) = n))) μ | _ => False
theorem len_is_tuple : ∀ ds μ Q, sp_is_tuple ds μ Q → ds.length = (["value", "many"] : List Str).length := by
  intro ds μ Q h
  unfold sp_is_tuple at h
  split at h <;> first | rfl | exact h.elim
def db_is_tuple : DTS := (dRet (dAnd (dCall cIsi (daCons (dVar 0) (daCons (dC (.ty "tuple")) daNil))) (dOp oEq (dCall cLen (daCons (dVar 0) daNil)) (dVar 1))))
theorem pf_is_tuple : ∀ ds μ Q, sp_is_tuple ds μ Q → db_is_tuple (retD Q) (startD ["value", "many"] ds) μ := by
  intro ds μ Q h
  unfold sp_is_tuple at h
  split at h
  · rename_i xs n
    show db_is_tuple (retD Q) [some (.tup xs), some (.int n)] μ
    unfold db_is_tuple
    walk_at "ev"
    exact ⟨μ, Mu.Sub.refl _, h⟩
  · exact h.elim
def sp_is_within : DSp := fun ds μ Q => match ds with | [.int v, .int l, .int m] => Q (.bl (decide (l ≤ v ∧ v ≤ m))) μ | _ => False
theorem len_is_within : ∀ ds μ Q, sp_is_within ds μ Q → ds.length = (["value", "least", "most"] : List Str).length := by
  intro ds μ Q h
  unfold sp_is_within at h
  split at h <;> first | rfl | exact h.elim
def db_is_within : DTS := (dRet (dAnd (dFn sp_is_integer (daCons (dVar 0) daNil)) (dChain oLe oLe (dVar 1) (dVar 0) (dVar 2))))
theorem pf_is_within : ∀ ds μ Q, sp_is_within ds μ Q → db_is_within (retD Q) (startD ["value", "least", "most"] ds) μ := by
  intro ds μ Q h
  unfold sp_is_within at h
  split at h
  · rename_i v l m
    show db_is_within (retD Q) [some (.int v), some (.int l), some (.int m)] μ
    unfold db_is_within
    walk_at "ev"
    simp -dsimp only [sp_is_integer, if_true]
    by_cases h1 : l ≤ v
    · rw [if_pos h1]
      refine ⟨μ, Mu.Sub.refl _, ?_⟩
      rw [show decide (v ≤ m) = decide (l ≤ v ∧ v ≤ m) by simp [h1]]
      exact h
    · rw [if_neg h1]
      refine ⟨μ, Mu.Sub.refl _, ?_⟩
      rw [show decide (l ≤ v ∧ v ≤ m) = false by simp [h1]] at h
      exact h
  · exact h.elim
end K93
namespace K93
open PySem PySem.Spec PyProof.Rows L2 Dl
local macro_rules | `(tactic| walk_at "ev") => `(tactic| try simp -dsimp only [↓dSeq_at, dRet, dRetN, dNext, dIfS, dAsg, dDrop, dPar, dNever, dVar, dC, dOp, dUn, dTest, dChain, dAnd, dOr, dNot, dIf, dtAnd, dtOr, dtNot, dTup, daNil, daCons, dCall, dFn, dFnK, dNew, dLst, dOf,
  gdName, gdTup, gdCons, gdNil, gdSub, rdI, rdI0, oPlus, oSub, oTimes, oDiv, oMod, oPow, oLt, oLe, oGt, oGe, oIx, oEq, oNe, uNeg, oIsN, oNotN, D.isNon, cAbs, cMax, cMin, cInt, cDivmod, cLen, cIsi, tyD, items, litems, retD, sTup, mApp, dYes,
  atI_0, atI_1, atI_2, atI_3, atI_4, ixN_20, ixN_21, kit_ii, kit_ib, kit_is, kit_it, kit_il, kit_bi, kit_bb, kit_bs, kit_bt, kit_bl, kit_si, kit_sb, kit_ss, kit_st, kit_sl, kit_ti, kit_tb, kit_ts, kit_tt, kit_tl, kit_li, kit_lb, kit_ls, kit_lt, kit_ll,
  List.getElem?_cons_zero, List.getElem?_cons_succ, List.set_cons_zero, List.set_cons_succ, List.length_cons, List.length_nil, Mu.upd_same, Mu.upd_upd, Nat.zero_add, Nat.reduceAdd, Nat.reduceLeDiff, natlit, Int.reduceEq, Int.reduceLT, Int.reduceLE, Int.reduceAdd, Int.reduceSub, Int.reduceMul, Int.reducePow, Int.reduceNeg, permG2_10, permG3_210, zl_0, zl_1, zl_2, zl_3, zl_4, zl_5, zl_6, zl_7, zl_8, zl_9, zl_10, zl_11, zl_12, zl_13, zl_14, zl_15, zl_16, zl_17, zl_18, zl_19, zl_20, true_and, and_true, eq_self, not_true_eq_false, not_false_eq_true, decide_true, decide_false, if_true, Bool.false_eq_true, if_false, Bool.not_true, Bool.not_false, decide_eq_true_eq, Bool.not_eq_true', decide_eq_false_iff_not, Option.isSome, Option.map])
/-! ## the pot -/
def PB (a b : Int) : Prop := 0 ≤ a ∧ 0 ≤ b ∧ b ≤ 2147483587
def Pot (μ : Mu) (c : Nat) : Prop := ∃ a b : Int, μ c = some [.int a, .int b] ∧ PB a b
/-- the pot is turned -/
def Turn (c : Nat) (μ : Mu) (Q : Mu → Prop) : Prop := ∀ a b, PB a b → Q (μ.upd c [.int a, .int b])
theorem mulL {i j : Int} (h0 : -(2 ^ 64) < i) (h1 : i < 2 ^ 64) : Dl.MulOk i j := .inl ⟨h0, h1⟩
theorem mulR {i j : Int} (h0 : -(2 ^ 64) < j) (h1 : j < 2 ^ 64) : Dl.MulOk i j := .inr (.inl ⟨h0, h1⟩)
theorem cut_ints (ns : List Int) (lo hi : Option Int) : Dl.cutD (ns.map D.int) lo hi = ((ns.drop (HT.sIx (ns.map D.int).length 0 lo)).take (HT.sIx (ns.map D.int).length (ns.map D.int).length hi - HT.sIx (ns.map D.int).length 0 lo)).map D.int := by
  unfold Dl.cutD
  rw [List.map_take, List.map_drop]
def sp_law_pot : DSp := fun ds μ Q => ∃ (ns : List Int) (k : Int), ds = [.frz (ns.map D.int), .int k] ∧ (0 ≤ k ∧ k ≤ 100) ∧ ∀ c, μ c = none → Turn c μ fun μ' => Q (.cell c) μ'
theorem len_law_pot : ∀ ds μ Q, sp_law_pot ds μ Q → ds.length = (["script", "k"] : List Str).length := by
  rintro ds μ Q ⟨ns, k, rfl, _⟩
  rfl
def db_law_pot : DTS := (dSeq (dAsg (dIf (dTest (dOp oLt (dVar 1) (dCall cLen (daCons (dVar 0) daNil)))) (dCall cAbs (daCons (dOp oIx (dVar 0) (dVar 1)) daNil)) (dOp oPlus (dOp oPlus (dOp oTimes (dC (.int 2423)) (dVar 1)) (dC (.int 1669))) (dOp oMod (dCall cInt (daCons (dCall (dSeq1 true sSum) (daCons (dSl (dVar 0) doNone (doSome (dC (.int 1)))) daNil)) daNil)) (dC (.int 1000003))))) (gdName 2)) (dRet (dNew (dLst (daCons (dCall cMax (daCons (dC (.int 0)) (daCons (dOp oSub (dVar 2) (dOp oPow (dC (.int 10)) (dC (.int 18)))) daNil))) (daCons (dOp oPlus (dOp oMod (dCall cInt (daCons (dOp oPlus (dOp oPlus (dOp oTimes (dOp oMod (dCall cInt (daCons (dVar 2) daNil)) (dC (.int 2147483549))) (dC (.int 40253))) (dOp oTimes (dC (.int 8737)) (dVar 1))) (dC (.int 71))) daNil)) (dC (.int 2147483563))) (dC (.int 1))) daNil))))))
theorem pf_law_pot : ∀ ds μ Q, sp_law_pot ds μ Q → db_law_pot (retD Q) (startD ["script", "k", "cell"] ds) μ := by
  rintro ds μ Q ⟨ns, k, rfl, ⟨h0, h1⟩, h⟩
  show db_law_pot (retD Q) [some (.frz (ns.map D.int)), some (.int k), none] μ
  unfold db_law_pot
  refine sq fun U hU => ?_
  walk_at "ev"
  have rest : ∀ (cell : Int) (μ' : Mu), Mu.Sub μ μ' → U [some (.frz (ns.map D.int)), some (.int k), some (.int cell)] μ' := by
    intro cell μ' sb
    refine hU.fgt sb ?_
    walk_at "ev"
    have m0 := Int.emod_nonneg cell (show (2147483549 : Int) ≠ 0 by decide)
    have m1 := Int.emod_lt_of_pos cell (show (0 : Int) < 2147483549 by decide)
    refine ⟨⟨by decide, by decide, by decide⟩, mulR (by decide) (by decide), mulL (by decide) (by decide), ?_⟩
    intro c hc
    refine ⟨_, Mu.Sub.refl _, h c hc _ _ ⟨by omega, ?_, ?_⟩⟩
    · have := Int.emod_nonneg (cell % 2147483549 * 40253 + 8737 * k + 71) (show (2147483563 : Int) ≠ 0 by decide)
      omega
    · have := Int.emod_lt_of_pos (cell % 2147483549 * 40253 + 8737 * k + 71) (show (0 : Int) < 2147483563 by decide)
      omega
  rw [List.length_map]
  by_cases e : k < ns.length
  · rw [if_pos e]
    have hl : k.toNat < ns.length := by omega
    have ha := atI_nat (xs := ns) (j := k.toNat) (List.getElem?_eq_getElem hl)
    rw [show ((k.toNat : Nat) : Int) = k by omega] at ha
    rw [atI_map, ha]
    exact rest _ _ (Mu.Sub.refl _)
  · rw [if_neg e]
    refine ⟨mulL (by decide) (by decide), ?_⟩
    simp -dsimp only [dSl, doNone, doSome, lsrc]
    walk_at "ev"
    intro n hn
    simp -dsimp only [dSeq1, sitems]
    walk_at "ev"
    refine ⟨_, cut_ints ns _ _, ?_⟩
    walk_at "ev"
    exact rest _ _ (Mu.sub_upd hn)
def sp_law_draw : DSp := fun ds μ Q => match ds with | [.cell c, .int m] => (Pot μ c ∧ 0 < m ∧ m < 2 ^ 30) ∧ ∀ r, 0 ≤ r → r < m → Turn c μ fun μ' => Q (.int r) μ' | _ => False
theorem len_law_draw : ∀ ds μ Q, sp_law_draw ds μ Q → ds.length = (["pot", "many"] : List Str).length := by
  intro ds μ Q h
  unfold sp_law_draw at h
  split at h <;> first | rfl | exact h.elim
def db_law_draw : DTS := (dSeq (dIfS (dTest (dOp oGt (dOp oIx (dVar 0) (dC (.int 0))) (dC (.int 0)))) (dSeq (dAsg (dCall cDivmod (daCons (dOp oIx (dVar 0) (dC (.int 0))) (daCons (dVar 1) daNil))) (gdTup 2 (gdCons (gdSub (dVar 0) (dC (.int 0))) (gdCons (gdName 2) gdNil)))) (dRet (dVar 2))) dNext) (dSeq (dAsg (dOp oMod (dCall cInt (daCons (dOp oPlus (dOp oTimes (dOp oIx (dVar 0) (dC (.int 1))) (dC (.int 40692))) (dC (.int 8737))) daNil)) (dC (.int 2147483587))) (gdSub (dVar 0) (dC (.int 1)))) (dRet (dOp oMod (dCall cInt (daCons (dOp oDiv (dOp oMod (dCall cInt (daCons (dOp oTimes (dOp oIx (dVar 0) (dC (.int 1))) (dOp oIx (dVar 0) (dC (.int 1)))) daNil)) (dC (.int 2147483549))) (dC (.int 43))) daNil)) (dVar 1)))))
theorem pf_law_draw : ∀ ds μ Q, sp_law_draw ds μ Q → db_law_draw (retD Q) (startD ["pot", "many", "digit"] ds) μ := by
  intro ds μ Q h
  unfold sp_law_draw at h
  split at h
  · rename_i c m
    obtain ⟨⟨⟨a, b, hc, hp⟩, hm0, hm1⟩, h⟩ := h
    obtain ⟨p1, p2, p3⟩ := hp
    show db_law_draw (retD Q) [some (.cell c), some (.int m), none] μ
    unfold db_law_draw
    refine sq fun U hU => ?_
    walk_at "ev"
    rw [hc]
    simp -dsimp only [atI_0]
    walk_at "ev"
    have r0 := Int.emod_nonneg a (show m ≠ 0 by omega)
    have r1 := Int.emod_lt_of_pos a hm0
    by_cases e : 0 < a
    · rw [if_pos e]
      refine sq fun V hV => ?_
      walk_at "ev"
      rw [hc]
      simp -dsimp only [atI_0]
      walk_at "ev"
      refine ⟨⟨hm0, by omega⟩, ?_⟩
      refine hV.go ?_
      walk_at "ev"
      exact ⟨_, Mu.Sub.refl _, h _ r0 r1 _ _ ⟨Int.ediv_nonneg p1 (by omega), p2, p3⟩⟩
    · rw [if_neg e]
      refine hU.go ?_
      refine sq fun V hV => ?_
      walk_at "ev"
      rw [hc]
      simp -dsimp only [atI_1]
      walk_at "ev"
      refine ⟨mulL (by omega) (by omega), ?_⟩
      generalize hb : (b * 40692 + 8737) % 2147483587 = b'
      have b0 : 0 ≤ b' := by rw [← hb]; exact Int.emod_nonneg _ (by decide)
      have b1 : b' < 2147483587 := by rw [← hb]; exact Int.emod_lt_of_pos _ (by decide)
      refine hV.go ?_
      walk_at "ev"
      refine ⟨mulL (by omega) (by omega), div_ok (by decide) (by decide), hm0, ?_⟩
      exact ⟨_, Mu.Sub.refl _, h _ (Int.emod_nonneg _ (by omega)) (Int.emod_lt_of_pos _ hm0) _ _ ⟨p1, b0, by omega⟩⟩
  · exact h.elim
theorem ask_draw {c : Nat} {m : Int} {μ : Mu} {Q : DK} (hp : Pot μ c) (h0 : 0 < m) (h1 : m < 2 ^ 30) (h : ∀ r, 0 ≤ r → r < m → Turn c μ fun μ' => Q (.int r) μ') : sp_law_draw [.cell c, .int m] μ Q := ⟨⟨hp, h0, h1⟩, h⟩
theorem pot_turn {μ : Mu} {c : Nat} {a b : Int} (h : PB a b) : Pot (μ.upd c [.int a, .int b]) c := ⟨a, b, Mu.upd_same, h⟩
def sp_law_pick : DSp := fun ds μ Q => match ds with | [.cell c, .cell s] => (Pot μ c ∧ s ≠ c) ∧ ∃ xs, μ s = some xs ∧ (0 < xs.length ∧ xs.length < 2 ^ 30) ∧ ∀ x, x ∈ xs → Turn c μ fun μ' => Q x μ' | _ => False
theorem len_law_pick : ∀ ds μ Q, sp_law_pick ds μ Q → ds.length = (["pot", "some"] : List Str).length := by
  intro ds μ Q h
  unfold sp_law_pick at h
  split at h <;> first | rfl | exact h.elim
def db_law_pick : DTS := (dRet (dOp oIx (dVar 1) (dFn sp_law_draw (daCons (dVar 0) (daCons (dCall cLen (daCons (dVar 1) daNil)) daNil)))))
theorem pf_law_pick : ∀ ds μ Q, sp_law_pick ds μ Q → db_law_pick (retD Q) (startD ["pot", "some"] ds) μ := by
  intro ds μ Q h
  unfold sp_law_pick at h
  split at h
  · rename_i c s
    obtain ⟨⟨hp, hne⟩, xs, hs, ⟨hl0, hl1⟩, h⟩ := h
    show db_law_pick (retD Q) [some (.cell c), some (.cell s)] μ
    unfold db_law_pick
    walk_at "ev"
    rw [hs]
    walk_at "ev"
    refine ask_draw hp (by omega) (by omega) fun r h0 h1 a b hb => ?_
    walk_at "ev"
    rw [Mu.upd_ne hne, hs]
    have hl : r.toNat < xs.length := by omega
    have ha := atI_nat (xs := xs) (j := r.toNat) (List.getElem?_eq_getElem hl)
    rw [show ((r.toNat : Nat) : Int) = r by omega] at ha
    walk_at "ev"
    rw [ha]
    exact ⟨_, Mu.Sub.refl _, h _ (List.getElem_mem hl) a b hb⟩
  · exact h.elim
/-- one of a fresh list, told at once -/
theorem ask_pick {c s : Nat} {xs : List D} {μ : Mu} {Q : DK} (hp : Pot μ c) (hs : μ s = none) (hl : 0 < xs.length ∧ xs.length < 2 ^ 30) (h : ∀ x, x ∈ xs → Turn c (μ.upd s xs) fun μ' => Q x μ') : sp_law_pick [.cell c, .cell s] (μ.upd s xs) Q := by
  obtain ⟨a, b, hc, hb⟩ := hp
  have hne : c ≠ s := Mu.ne_of hc hs
  exact ⟨⟨⟨a, b, (Mu.upd_ne hne).trans hc, hb⟩, fun z => hne z.symm⟩, xs, Mu.upd_same, hl, h⟩
theorem sub_turn {μ μ' : Mu} (s : Mu.Sub μ' μ) (c : Nat) (xs : List D) : Mu.Sub (μ'.upd c xs) (μ.upd c xs) := s.upd c xs
end K93
namespace K93
open PySem PySem.Spec PyProof.Rows L2 Dl
local macro_rules | `(tactic| walk_at "ev") => `(tactic| try simp -dsimp only [↓dSeq_at, sp_is_within, sp_is_tuple, dRet, dRetN, dNext, dIfS, dAsg, dDrop, dPar, dNever, dVar, dC, dOp, dUn, dTest, dChain, dAnd, dOr, dNot, dIf, dtAnd, dtOr, dtNot, dTup, daNil, daCons, dCall, dFn, dFnK, dNew, dLst, dOf,
  gdName, gdTup, gdCons, gdNil, gdSub, rdI, rdI0, oPlus, oSub, oTimes, oDiv, oMod, oPow, oLt, oLe, oGt, oGe, oIx, oEq, oNe, uNeg, oIsN, oNotN, D.isNon, cAbs, cMax, cMin, cInt, cDivmod, cLen, cIsi, tyD, items, litems, retD, sTup, mApp, dYes,
  atI_0, atI_1, atI_2, atI_3, atI_4, ixN_20, ixN_21, kit_ii, kit_ib, kit_is, kit_it, kit_il, kit_bi, kit_bb, kit_bs, kit_bt, kit_bl, kit_si, kit_sb, kit_ss, kit_st, kit_sl, kit_ti, kit_tb, kit_ts, kit_tt, kit_tl, kit_li, kit_lb, kit_ls, kit_lt, kit_ll,
  List.getElem?_cons_zero, List.getElem?_cons_succ, List.set_cons_zero, List.set_cons_succ, List.length_cons, List.length_nil, Mu.upd_same, Mu.upd_upd, Nat.zero_add, Nat.reduceAdd, Nat.reduceLeDiff, natlit, Int.reduceEq, Int.reduceLT, Int.reduceLE, Int.reduceAdd, Int.reduceSub, Int.reduceMul, Int.reducePow, Int.reduceNeg, permG2_10, permG3_210, zl_0, zl_1, zl_2, zl_3, zl_4, zl_5, zl_6, zl_7, zl_8, zl_9, zl_10, zl_11, zl_12, zl_13, zl_14, zl_15, zl_16, zl_17, zl_18, zl_19, zl_20, true_and, and_true, eq_self, not_true_eq_false, not_false_eq_true, decide_true, decide_false, if_true, Bool.false_eq_true, if_false, Bool.not_true, Bool.not_false, decide_eq_true_eq, Bool.not_eq_true', decide_eq_false_iff_not, Option.isSome, Option.map])
def New (xs : List D) (μ : Mu) (Q : DK) : Prop := ∀ k, μ k = none → Q (.cell k) (μ.upd k xs)
theorem sub_cell {μ ν : Mu} {f : Nat} {xs : List D} (h : Mu.Sub μ ν) (n : μ f = none) (e : ν f = some xs) : Mu.Sub (μ.upd f xs) ν := fun j ys q => by
  by_cases z : j = f
  · subst z
    rw [Mu.upd_same] at q
    cases q
    exact e
  · rw [Mu.upd_ne z] at q
    exact h j ys q
theorem none_of {μ ν : Mu} {t : Nat} (h : Mu.Sub μ ν) (n : ν t = none) : μ t = none := by
  cases e : μ t with
  | none => rfl
  | some xs =>
    rw [h t xs e] at n
    cases n
theorem range0_at {n : Int} {i : Nat} {x : D} (h : (rangeD 0 n)[i]? = some x) : x = .int (i : Int) ∧ (i : Int) < n := by
  have hl := (List.getElem?_eq_some_iff.mp h).1
  rw [rangeD_len] at hl
  unfold rangeD at h
  rw [List.getElem?_map, List.getElem?_range hl] at h
  cases h
  exact ⟨congrArg D.int (Int.zero_add _), by omega⟩
/-! ## all lots -/
def P : Nat → List (List Int)
  | 0 => [[]]
  | k + 1 => P k ++ (P k).map (· ++ [(k : Int)])
theorem P_len : ∀ k, (P k).length = 2 ^ k
  | 0 => rfl
  | k + 1 => by
    show (P k ++ (P k).map _).length = _
    rw [List.length_append, List.length_map, P_len k, Nat.pow_succ]
    omega
theorem P_mem : ∀ (k : Nat) (L : List Int), L ∈ P k → L.length ≤ k ∧ L.Nodup ∧ ∀ i ∈ L, 0 ≤ i ∧ i < k
  | 0, L, h => by
    cases h with
    | head => exact ⟨Nat.le_refl _, List.nodup_nil, fun i hi => nomatch hi⟩
    | tail _ h => cases h
  | k + 1, L, h => by
    rcases List.mem_append.mp h with h | h
    · obtain ⟨a, b, c⟩ := P_mem k L h
      exact ⟨by omega, b, fun i hi => by have := c i hi; omega⟩
    · obtain ⟨M, hM, rfl⟩ := List.mem_map.mp h
      obtain ⟨a, b, c⟩ := P_mem k M hM
      refine ⟨by rw [List.length_append]; show M.length + 1 ≤ _; omega, ?_, fun i hi => ?_⟩
      · refine List.nodup_append.mpr ⟨b, List.nodup_cons.mpr ⟨(fun z => nomatch z), List.nodup_nil⟩, fun x hx y hy e => ?_⟩
        cases hy with
        | head =>
          have := c x hx
          omega
        | tail _ hy => cases hy
      · rcases List.mem_append.mp hi with hi | hi
        · have := c i hi
          omega
        · cases hi with
          | head => omega
          | tail _ hi => cases hi
theorem P_head : ∀ k, ∃ r, P k = [] :: r
  | 0 => ⟨[], rfl⟩
  | k + 1 => by
    obtain ⟨r, e⟩ := P_head k
    exact ⟨r ++ (P k).map (· ++ [(k : Int)]), by show P k ++ _ = _; rw [e]; rfl⟩
def Srt (out : List (List Int)) : Prop := out.Pairwise (fun x y => HT.lexLt y x = false)
theorem lex_antis : ∀ x y : List Int, HT.lexLt y x = false → HT.lexLt x y = false → x = y
  | [], [], _, _ => rfl
  | [], b :: y, _, h => by cases h
  | a :: x, [], h, _ => by cases h
  | a :: x, b :: y, h1, h2 => by
    rw [HT.lexLt_cons] at h1 h2
    by_cases e : a = b
    · subst e
      rw [if_pos rfl] at h1 h2
      rw [lex_antis x y h1 h2]
    · rw [if_neg (fun z => e z.symm), decide_eq_false_iff_not] at h1
      rw [if_neg e, decide_eq_false_iff_not] at h2
      omega
theorem srt_uniq {l m p : List (List Int)} (h1 : l.Perm p) (h2 : m.Perm p) (s1 : Srt l) (s2 : Srt m) : l = m :=
  List.Perm.eq_of_pairwise (fun x y _ _ a b => lex_antis x y a b) s1 s2 (h1.trans h2.symm)
def sp_all_lots : DSp := fun ds μ Q => match ds with | [.int n] => (0 ≤ n ∧ n ≤ 8) ∧ ∀ out : List (List Int), out.Perm (P n.toNat) → Srt out → New (out.map encI) μ Q | _ => False
theorem len_all_lots : ∀ ds μ Q, sp_all_lots ds μ Q → ds.length = (["many"] : List Str).length := by
  intro ds μ Q h
  unfold sp_all_lots at h
  split at h <;> first | rfl | exact h.elim
def db_all_lots : DTS := (dSeq (dAsg (dNew (dLst (daCons (dTup daNil) daNil))) (gdName 1)) (dSeq (dFor (diR1 (daCons (dVar 0) daNil)) (gdName 2) (dAsg (dOp oPlus (dVar 1) (dNew (dLc (diSeq (dVar 1)) (gdName 3) dYes (dOp oPlus (dVar 3) (dTup (daCons (dVar 2) daNil))) [3]))) (gdName 1))) (dRet (dNew (dCallF (dSeqL1 false sSrt) (daCons (dVar 1) daNil))))))
theorem pf_all_lots : ∀ ds μ Q, sp_all_lots ds μ Q → db_all_lots (retD Q) (startD ["many", "found", "one", "lot"] ds) μ := by
  intro ds μ Q h
  unfold sp_all_lots at h
  split at h
  · rename_i n
    obtain ⟨⟨h0, h1⟩, h⟩ := h
    show db_all_lots (retD Q) [some (.int n), none, none, none] μ
    unfold db_all_lots
    refine sq fun U hU => ?_
    walk_at "ev"
    intro k hk
    refine hU.go ?_
    clear hU
    refine sq fun U hU => ?_
    simp -dsimp only [dFor, diR1]
    walk_at "ev"
    refine ⟨⟨by omega, by omega⟩, ?_⟩
    refine ⟨fun i ρ' μ' => ∃ p w2, ρ' = [some (.int n), some (.cell p), w2, none] ∧ Mu.Sub μ μ' ∧ μ' p = some ((P i).map encI), ⟨k, none, rfl, Mu.sub_upd hk, Mu.upd_same⟩, fun i x ρ' μ' hi w => ⟨held_nil, ?_⟩, fun ρ' μ' w => ⟨held_nil, ?_⟩⟩
    · obtain ⟨p, w2, rfl, sb, hp⟩ := w
      have hi : (rangeD 0 n)[i]? = some x := hi
      obtain ⟨rfl, il⟩ := range0_at hi
      clear hi
      walk_at "ev"
      simp -dsimp only [dLc, diSeq]
      walk_at "ev"
      simp -dsimp only [lsrc]
      rw [hp]
      walk_at "ev"
      have pl := P_len i
      have p8 : 2 ^ i ≤ 2 ^ 8 := Nat.pow_le_pow_right (by decide) (by omega)
      refine lc_tm (fun L => encI (L ++ [(i : Int)])) (held_one hp) (by omega) (fun L hL μ2 Qy sb2 q => ?_) ?_
      · have lm := P_mem i L hL
        simp -dsimp only [wipeD, encI]
        walk_at "ev"
        refine ⟨?_, ?_⟩
        · rw [List.length_map]
          exact sz1000 (by omega)
        · unfold encI at q
          rw [List.map_append] at q
          exact q
      · intro m hm
        have e1 := Mu.keep (xs := (P i).map fun L => encI (L ++ [(i : Int)])) hp hm
        rw [e1]
        simp -dsimp only []
        refine ⟨?_, fun m2 hm2 => ?_⟩
        · rw [List.length_map, List.length_map]
          exact sz1000 (by omega)
        · refine ⟨m2, _, rfl, (sb.trans (Mu.sub_upd hm)).trans (Mu.sub_upd hm2), ?_⟩
          rw [Mu.upd_same]
          show some _ = some ((P i ++ (P i).map (· ++ [(i : Int)])).map encI)
          rw [List.map_append, List.map_map]
          rfl
    · obtain ⟨p, w2, rfl, sb, hp⟩ := w
      have hp : μ' p = some ((P (rangeD 0 n).length).map encI) := hp
      rw [rangeD_len, Int.sub_zero] at hp
      refine hU.go ?_
      walk_at "ev"
      simp -dsimp only [dCallF, dSeqL1, sitems]
      walk_at "ev"
      rw [hp]
      refine ⟨P n.toNat, rfl, .inr (P_head _), fun out ho hs => ?_⟩
      intro m hm
      have mm := none_of sb hm
      exact ⟨_, sub_cell (sb.trans (Mu.sub_upd hm)) mm Mu.upd_same, h out ho hs m mm⟩
  · exact h.elim
def sp_law_lots : DSp := fun ds μ Q => match ds with | [.int n] => (0 ≤ n ∧ n ≤ 8) ∧ ∀ out : List (List Int), out.Perm (P n.toNat) → Srt out → New (out.map encI) μ Q | _ => False
theorem len_law_lots : ∀ ds μ Q, sp_law_lots ds μ Q → ds.length = (["many"] : List Str).length := by
  intro ds μ Q h
  unfold sp_law_lots at h
  split at h <;> first | rfl | exact h.elim
def db_law_lots : DTS := (dSeq (dAsg (dNew (dLst (daCons (dTup daNil) daNil))) (gdName 1)) (dSeq (dFor (diR1 (daCons (dVar 0) daNil)) (gdName 2) (dAsg (dOp oPlus (dVar 1) (dNew (dLc (diSeq (dVar 1)) (gdName 3) dYes (dOp oPlus (dVar 3) (dTup (daCons (dVar 2) daNil))) [3]))) (gdName 1))) (dRet (dNew (dCallF (dSeqL1 false sSrt) (daCons (dVar 1) daNil))))))
theorem pf_law_lots : ∀ ds μ Q, sp_law_lots ds μ Q → db_law_lots (retD Q) (startD ["many", "found", "one", "lot"] ds) μ := by
  intro ds μ Q h
  unfold sp_law_lots at h
  split at h
  · rename_i n
    obtain ⟨⟨h0, h1⟩, h⟩ := h
    show db_law_lots (retD Q) [some (.int n), none, none, none] μ
    unfold db_law_lots
    refine sq fun U hU => ?_
    walk_at "ev"
    intro k hk
    refine hU.go ?_
    clear hU
    refine sq fun U hU => ?_
    simp -dsimp only [dFor, diR1]
    walk_at "ev"
    refine ⟨⟨by omega, by omega⟩, ?_⟩
    refine ⟨fun i ρ' μ' => ∃ p w2, ρ' = [some (.int n), some (.cell p), w2, none] ∧ Mu.Sub μ μ' ∧ μ' p = some ((P i).map encI), ⟨k, none, rfl, Mu.sub_upd hk, Mu.upd_same⟩, fun i x ρ' μ' hi w => ⟨held_nil, ?_⟩, fun ρ' μ' w => ⟨held_nil, ?_⟩⟩
    · obtain ⟨p, w2, rfl, sb, hp⟩ := w
      have hi : (rangeD 0 n)[i]? = some x := hi
      obtain ⟨rfl, il⟩ := range0_at hi
      clear hi
      walk_at "ev"
      simp -dsimp only [dLc, diSeq]
      walk_at "ev"
      simp -dsimp only [lsrc]
      rw [hp]
      walk_at "ev"
      have pl := P_len i
      have p8 : 2 ^ i ≤ 2 ^ 8 := Nat.pow_le_pow_right (by decide) (by omega)
      refine lc_tm (fun L => encI (L ++ [(i : Int)])) (held_one hp) (by omega) (fun L hL μ2 Qy sb2 q => ?_) ?_
      · have lm := P_mem i L hL
        simp -dsimp only [wipeD, encI]
        walk_at "ev"
        refine ⟨?_, ?_⟩
        · rw [List.length_map]
          exact sz1000 (by omega)
        · unfold encI at q
          rw [List.map_append] at q
          exact q
      · intro m hm
        have e1 := Mu.keep (xs := (P i).map fun L => encI (L ++ [(i : Int)])) hp hm
        rw [e1]
        simp -dsimp only []
        refine ⟨?_, fun m2 hm2 => ?_⟩
        · rw [List.length_map, List.length_map]
          exact sz1000 (by omega)
        · refine ⟨m2, _, rfl, (sb.trans (Mu.sub_upd hm)).trans (Mu.sub_upd hm2), ?_⟩
          rw [Mu.upd_same]
          show some _ = some ((P i ++ (P i).map (· ++ [(i : Int)])).map encI)
          rw [List.map_append, List.map_map]
          rfl
    · obtain ⟨p, w2, rfl, sb, hp⟩ := w
      have hp : μ' p = some ((P (rangeD 0 n).length).map encI) := hp
      rw [rangeD_len, Int.sub_zero] at hp
      refine hU.go ?_
      walk_at "ev"
      simp -dsimp only [dCallF, dSeqL1, sitems]
      walk_at "ev"
      rw [hp]
      refine ⟨P n.toNat, rfl, .inr (P_head _), fun out ho hs => ?_⟩
      intro m hm
      have mm := none_of sb hm
      exact ⟨_, sub_cell (sb.trans (Mu.sub_upd hm)) mm Mu.upd_same, h out ho hs m mm⟩
  · exact h.elim
end K93
namespace K93
open PySem PySem.Spec PyProof.Rows L2 Dl
def vt (ss : List Int) (i : Int) : Int := ss.getD i.toNat 0
def sm (ss L : List Int) : Int := (L.map (vt ss)).sum
def wn (ss : List Int) (q : Int) (L : List Int) : Bool := decide (q ≤ sm ss L)
def encC (ss : List Int) (q : Int) : D := .tup [.str "council", .tup (ss.map D.int), .int q]
local macro_rules | `(tactic| walk_at "ev") => `(tactic| try simp -dsimp only [↓dSeq_at, sp_is_within, sp_is_tuple, encI, encC, dRet, dRetN, dNext, dIfS, dAsg, dDrop, dPar, dNever, dVar, dC, dOp, dUn, dTest, dChain, dAnd, dOr, dNot, dIf, dtAnd, dtOr, dtNot, dTup, daNil, daCons, dCall, dFn, dFnK, dNew, dLst, dOf,
  gdName, gdTup, gdCons, gdNil, gdSub, rdI, rdI0, oPlus, oSub, oTimes, oDiv, oMod, oPow, oLt, oLe, oGt, oGe, oIx, oEq, oNe, uNeg, oIsN, oNotN, D.isNon, cAbs, cMax, cMin, cInt, cDivmod, cLen, cIsi, tyD, items, litems, retD, sTup, mApp, dYes,
  atI_0, atI_1, atI_2, atI_3, atI_4, ixN_20, ixN_21, kit_ii, kit_ib, kit_is, kit_it, kit_il, kit_bi, kit_bb, kit_bs, kit_bt, kit_bl, kit_si, kit_sb, kit_ss, kit_st, kit_sl, kit_ti, kit_tb, kit_ts, kit_tt, kit_tl, kit_li, kit_lb, kit_ls, kit_lt, kit_ll,
  List.getElem?_cons_zero, List.getElem?_cons_succ, List.set_cons_zero, List.set_cons_succ, List.length_cons, List.length_nil, Mu.upd_same, Mu.upd_upd, Nat.zero_add, Nat.reduceAdd, Nat.reduceLeDiff, natlit, Int.reduceEq, Int.reduceLT, Int.reduceLE, Int.reduceAdd, Int.reduceSub, Int.reduceMul, Int.reducePow, Int.reduceNeg, permG2_10, permG3_210, zl_0, zl_1, zl_2, zl_3, zl_4, zl_5, zl_6, zl_7, zl_8, zl_9, zl_10, zl_11, zl_12, zl_13, zl_14, zl_15, zl_16, zl_17, zl_18, zl_19, zl_20, true_and, and_true, eq_self, not_true_eq_false, not_false_eq_true, decide_true, decide_false, if_true, Bool.false_eq_true, if_false, Bool.not_true, Bool.not_false, decide_eq_true_eq, Bool.not_eq_true', decide_eq_false_iff_not, Option.isSome, Option.map])
structure Cok (ss : List Int) (q : Int) : Prop where
  len : 1 ≤ ss.length ∧ ss.length ≤ 8
  v : ∀ s ∈ ss, 0 ≤ s ∧ s ≤ 200
  q : 1 ≤ q ∧ q ≤ ss.sum
def inL (ss L : List Int) : Prop := L.length ≤ 100 ∧ ∀ i ∈ L, 0 ≤ i ∧ i < ss.length
theorem inL_P {ss L : List Int} (h : L ∈ P ss.length) (hl : ss.length ≤ 8) : inL ss L := by
  obtain ⟨a, b, c⟩ := P_mem _ _ h
  exact ⟨by omega, c⟩
theorem at_v {ss : List Int} {i : Int} (h0 : 0 ≤ i) (h1 : i < ss.length) : atI (ss.map D.int) i = some (.int (vt ss i)) := by
  have hl : i.toNat < ss.length := by omega
  have e : (ss.map D.int)[i.toNat]? = some (.int (vt ss i)) := by
    unfold vt
    rw [List.getElem?_map, List.getD_eq_getElem?_getD, List.getElem?_eq_getElem hl]
    rfl
  have := atI_nat e
  rw [show ((i.toNat : Nat) : Int) = i by omega] at this
  exact this
def sp_seats_of : DSp := fun ds μ Q => ∃ ss q L, ds = [encC ss q, encI L] ∧ inL ss L ∧ Q (.int (sm ss L)) μ
theorem len_seats_of : ∀ ds μ Q, sp_seats_of ds μ Q → ds.length = (["council", "lot"] : List Str).length := by
  rintro ds μ Q ⟨ss, q, L, rfl, _⟩
  rfl
def db_seats_of : DTS := (dRet (dOf sSum (dLc (diSeq (dVar 1)) (gdName 2) dYes (dOp oIx (dOp oIx (dVar 0) (dC (.int 1))) (dVar 2)) [2])))
theorem pf_seats_of : ∀ ds μ Q, sp_seats_of ds μ Q → db_seats_of (retD Q) (startD ["council", "lot", "one"] ds) μ := by
  rintro ds μ Q ⟨ss, q, L, rfl, hi, h⟩
  show db_seats_of (retD Q) [some (encC ss q), some (encI L), none] μ
  unfold db_seats_of
  walk_at "ev"
  simp -dsimp only [dLc, diSeq]
  walk_at "ev"
  refine lc_tm (fun i => .int (vt ss i)) held_nil (by have := hi.1; omega) (fun i hiL μ' Qy sb q => ?_) ?_
  · have b := hi.2 i hiL
    simp -dsimp only [wipeD]
    walk_at "ev"
    rw [at_v b.1 b.2]
    exact q
  · exact ⟨L.map (vt ss), by rw [List.map_map]; rfl, _, Mu.Sub.refl _, h⟩
def sp_is_won : DSp := fun ds μ Q => ∃ ss q L, ds = [encC ss q, encI L] ∧ inL ss L ∧ Q (.bl (wn ss q L)) μ
theorem len_is_won : ∀ ds μ Q, sp_is_won ds μ Q → ds.length = (["council", "lot"] : List Str).length := by
  rintro ds μ Q ⟨ss, q, L, rfl, _⟩
  rfl
def db_is_won : DTS := (dRet (dOp oGe (dFn sp_seats_of (daCons (dVar 0) (daCons (dVar 1) daNil))) (dOp oIx (dVar 0) (dC (.int 2)))))
theorem pf_is_won : ∀ ds μ Q, sp_is_won ds μ Q → db_is_won (retD Q) (startD ["council", "lot"] ds) μ := by
  rintro ds μ Q ⟨ss, q, L, rfl, hi, h⟩
  show db_is_won (retD Q) [some (encC ss q), some (encI L)] μ
  unfold db_is_won
  walk_at "ev"
  refine ⟨ss, q, L, rfl, hi, ?_⟩
  walk_at "ev"
  exact ⟨_, Mu.Sub.refl _, h⟩
def sp_law_wins : DSp := fun ds μ Q => ∃ ss q L, ds = [encC ss q, encI L] ∧ inL ss L ∧ Q (.bl (wn ss q L)) μ
theorem len_law_wins : ∀ ds μ Q, sp_law_wins ds μ Q → ds.length = (["council", "lot"] : List Str).length := by
  rintro ds μ Q ⟨ss, q, L, rfl, _⟩
  rfl
def db_law_wins : DTS := (dRet (dOp oGe (dOf sSum (dLc (diSeq (dVar 1)) (gdName 2) dYes (dOp oIx (dOp oIx (dVar 0) (dC (.int 1))) (dVar 2)) [2])) (dOp oIx (dVar 0) (dC (.int 2)))))
theorem pf_law_wins : ∀ ds μ Q, sp_law_wins ds μ Q → db_law_wins (retD Q) (startD ["council", "lot", "one"] ds) μ := by
  rintro ds μ Q ⟨ss, q, L, rfl, hi, h⟩
  show db_law_wins (retD Q) [some (encC ss q), some (encI L), none] μ
  unfold db_law_wins
  walk_at "ev"
  simp -dsimp only [dLc, diSeq]
  walk_at "ev"
  refine lc_tm (fun i => .int (vt ss i)) held_nil (by have := hi.1; omega) (fun i hiL μ' Qy sb q => ?_) ?_
  · have b := hi.2 i hiL
    simp -dsimp only [wipeD]
    walk_at "ev"
    rw [at_v b.1 b.2]
    exact q
  · refine ⟨L.map (vt ss), by rw [List.map_map]; rfl, ?_⟩
    walk_at "ev"
    exact ⟨_, Mu.Sub.refl _, h⟩
def sp_won_lots : DSp := fun ds μ Q => ∃ ss q, ds = [encC ss q] ∧ Cok ss q ∧ ∀ out : List (List Int), out.Perm (P ss.length) → Srt out → New ((out.filter (wn ss q)).map encI) μ Q
theorem len_won_lots : ∀ ds μ Q, sp_won_lots ds μ Q → ds.length = (["council"] : List Str).length := by
  rintro ds μ Q ⟨ss, q, rfl, _⟩
  rfl
def db_won_lots : DTS := (dRet (dNew (dLc (diSeq (dFn sp_all_lots (daCons (dCall cLen (daCons (dOp oIx (dVar 0) (dC (.int 1))) daNil)) daNil))) (gdName 1) (dTest (dFn sp_is_won (daCons (dVar 0) (daCons (dVar 1) daNil)))) (dVar 1) [1])))
theorem pf_won_lots : ∀ ds μ Q, sp_won_lots ds μ Q → db_won_lots (retD Q) (startD ["council", "lot"] ds) μ := by
  rintro ds μ Q ⟨ss, q, rfl, hc, h⟩
  show db_won_lots (retD Q) [some (encC ss q), none] μ
  have hl := hc.len
  unfold db_won_lots
  walk_at "ev"
  simp -dsimp only [dLc, diSeq]
  walk_at "ev"
  rw [List.length_map]
  refine ⟨⟨by omega, by omega⟩, fun out ho hs k hk => ?_⟩
  simp -dsimp only [lsrc]
  walk_at "ev"
  have ol : out.length = 2 ^ ss.length := by
    rw [ho.length_eq]
    exact P_len _
  have p8 : 2 ^ ss.length ≤ 2 ^ 8 := Nat.pow_le_pow_right (by decide) (by omega)
  refine lc_ty (l := out) (wn ss q) encI (held_one Mu.upd_same) (by omega) (fun L hL μ' Qy Qn sb q2 => ?_) ?_
  · have li := inL_P (ss := ss) (ho.mem_iff.mp hL) (by omega)
    simp -dsimp only [wipeD]
    walk_at "ev"
    refine ⟨ss, q, L, rfl, li, ?_⟩
    walk_at "ev"
    exact q2
  · intro m hm
    have mm := none_of (Mu.sub_upd hk) hm
    exact ⟨_, sub_cell ((Mu.sub_upd hk).trans (Mu.sub_upd hm)) mm Mu.upd_same, h out ho hs m mm⟩
end K93
namespace K93
open PySem PySem.Spec PyProof.Rows L2 Dl
local macro_rules | `(tactic| walk_at "ev") => `(tactic| try simp -dsimp only [↓dSeq_at, sp_is_within, sp_is_tuple, encI, encC, dRet, dRetN, dNext, dIfS, dAsg, dDrop, dPar, dNever, dVar, dC, dOp, dUn, dTest, dChain, dAnd, dOr, dNot, dIf, dtAnd, dtOr, dtNot, dTup, daNil, daCons, dCall, dFn, dFnK, dNew, dLst, dOf,
  gdName, gdTup, gdCons, gdNil, gdSub, rdI, rdI0, oPlus, oSub, oTimes, oDiv, oMod, oPow, oLt, oLe, oGt, oGe, oIx, oEq, oNe, uNeg, oIsN, oNotN, D.isNon, cAbs, cMax, cMin, cInt, cDivmod, cLen, cIsi, tyD, items, litems, retD, sTup, mApp, dYes,
  atI_0, atI_1, atI_2, atI_3, atI_4, ixN_20, ixN_21, kit_ii, kit_ib, kit_is, kit_it, kit_il, kit_bi, kit_bb, kit_bs, kit_bt, kit_bl, kit_si, kit_sb, kit_ss, kit_st, kit_sl, kit_ti, kit_tb, kit_ts, kit_tt, kit_tl, kit_li, kit_lb, kit_ls, kit_lt, kit_ll,
  List.getElem?_cons_zero, List.getElem?_cons_succ, List.set_cons_zero, List.set_cons_succ, List.length_cons, List.length_nil, Mu.upd_same, Mu.upd_upd, Nat.zero_add, Nat.reduceAdd, Nat.reduceLeDiff, natlit, Int.reduceEq, Int.reduceLT, Int.reduceLE, Int.reduceAdd, Int.reduceSub, Int.reduceMul, Int.reducePow, Int.reduceNeg, permG2_10, permG3_210, zl_0, zl_1, zl_2, zl_3, zl_4, zl_5, zl_6, zl_7, zl_8, zl_9, zl_10, zl_11, zl_12, zl_13, zl_14, zl_15, zl_16, zl_17, zl_18, zl_19, zl_20, true_and, and_true, eq_self, not_true_eq_false, not_false_eq_true, decide_true, decide_false, if_true, Bool.false_eq_true, if_false, Bool.not_true, Bool.not_false, decide_eq_true_eq, Bool.not_eq_true', decide_eq_false_iff_not, Option.isSome, Option.map])
/-! ## counts by places -/
def accD (n : Nat) (f : Int → Int) : List D := (List.range n).map fun (a : Nat) => .int (f (a : Int))
theorem acc_len (n : Nat) (f : Int → Int) : (accD n f).length = n := by
  unfold accD
  rw [List.length_map, List.length_range]
theorem acc_get {n : Nat} {f : Int → Int} {a : Nat} (h : a < n) : (accD n f)[a]? = some (.int (f a)) := by
  unfold accD
  rw [List.getElem?_map, List.getElem?_range h]
  rfl
theorem acc_at {n : Nat} {f : Int → Int} {i : Int} (h0 : 0 ≤ i) (h1 : i < n) : atI (accD n f) i = some (.int (f i)) ∧ ixN (accD n f).length i = some i.toNat := by
  have e : ((i.toNat : Nat) : Int) = i := by omega
  have a := atI_nat (acc_get (f := f) (n := n) (a := i.toNat) (by omega))
  have b := ixN_nat (n := (accD n f).length) (j := i.toNat) (by rw [acc_len]; omega)
  rw [e] at a b
  exact ⟨a, b⟩
theorem acc_set {n : Nat} {f : Int → Int} {i v : Int} (h0 : 0 ≤ i) (h1 : i < n) : (accD n f).set i.toNat (.int v) = accD n fun a => if a = i then v else f a := by
  refine List.ext_getElem? fun j => ?_
  rw [List.getElem?_set]
  by_cases hj : j < n
  · rw [acc_get hj, acc_get hj]
    by_cases e : i.toNat = j
    · rw [if_pos e, if_pos (by rw [acc_len]; omega), if_pos (show ((j : Nat) : Int) = i by omega)]
    · rw [if_neg e, if_neg (show ¬ ((j : Nat) : Int) = i by omega)]
  · rw [List.getElem?_eq_none (by rw [acc_len]; omega), List.getElem?_eq_none (by rw [acc_len]; omega), if_neg (show ¬ i.toNat = j by omega)]
theorem acc_congr {n : Nat} {f g : Int → Int} (h : ∀ i : Int, 0 ≤ i → i < n → f i = g i) : accD n f = accD n g := by
  unfold accD
  refine List.map_congr_left fun a ha => ?_
  rw [h a (by omega) (by have := List.mem_range.mp ha; omega)]
theorem zerosA (n : Nat) : (List.replicate n [D.int 0]).flatten = accD n fun _ => 0 := by
  unfold accD
  induction n with
  | zero => rfl
  | succ n ih =>
    rw [List.replicate_succ', List.flatten_append, ih, List.range_succ, List.map_append]
    rfl
def hit (ss : List Int) (q : Int) (L : List Int) (i : Int) : Bool := decide (i ∈ L) && (decide (q ≤ sm ss L) && decide (sm ss L - vt ss i < q))
def S (ss : List Int) (q : Int) (wt : List Int → Int) (ls : List (List Int)) (i : Int) : Int := (ls.map fun L => if hit ss q L i = true then wt L else 0).sum
theorem S_app (ss : List Int) (q : Int) (wt : List Int → Int) (l m : List (List Int)) (i : Int) : S ss q wt (l ++ m) i = S ss q wt l i + S ss q wt m i := by
  unfold S
  rw [List.map_append, List.sum_append]
theorem S_one (ss : List Int) (q : Int) (wt : List Int → Int) (L : List Int) (i : Int) : S ss q wt [L] i = if hit ss q L i = true then wt L else 0 := by
  unfold S
  rw [List.map_cons, List.map_nil, List.sum_cons]
  exact Int.add_zero _
theorem sum_perm {l m : List Int} (h : l.Perm m) : l.sum = m.sum := by
  induction h with
  | nil => rfl
  | cons a _ ih => rw [List.sum_cons, List.sum_cons, ih]
  | swap a b l => rw [List.sum_cons, List.sum_cons, List.sum_cons, List.sum_cons]; omega
  | trans _ _ h1 h2 => exact h1.trans h2
theorem S_perm (ss : List Int) (q : Int) (wt : List Int → Int) {l m : List (List Int)} (h : l.Perm m) (i : Int) : S ss q wt l i = S ss q wt m i := sum_perm (h.map _)
theorem S_won (ss : List Int) (q : Int) (wt : List Int → Int) (i : Int) : ∀ l : List (List Int), S ss q wt (l.filter (wn ss q)) i = S ss q wt l i
  | [] => rfl
  | L :: l => by
    have ih := S_won ss q wt i l
    rw [List.filter_cons]
    by_cases e : wn ss q L = true
    · rw [if_pos e]
      show S ss q wt ([L] ++ _) i = S ss q wt ([L] ++ l) i
      rw [S_app, S_app, ih]
    · rw [if_neg e, ih]
      show _ = S ss q wt ([L] ++ l) i
      rw [S_app, S_one, if_neg, Int.zero_add]
      intro z
      unfold hit at z
      have z2 := (Bool.and_eq_true_iff.mp (Bool.and_eq_true_iff.mp z).2).1
      exact e z2
/-- the first t of a lot's lists told -/
def upto (ss : List Int) (q : Int) (L : List Int) (wt : Int) (t : Nat) (f : Int → Int) : Int → Int := fun i => if i ∈ L.take t ∧ hit ss q L i = true then f i + wt else f i
theorem upto_0 (ss : List Int) (q : Int) (L : List Int) (wt : Int) (f : Int → Int) : upto ss q L wt 0 f = f := by
  funext i
  unfold upto
  rw [if_neg (by simp)]
theorem upto_all (ss : List Int) (q : Int) (L : List Int) (wt : Int) (f : Int → Int) : upto ss q L wt L.length f = fun i => f i + if hit ss q L i = true then wt else 0 := by
  funext i
  unfold upto
  rw [List.take_length]
  by_cases h : hit ss q L i = true
  · have hi : i ∈ L := of_decide_eq_true (Bool.and_eq_true_iff.mp h).1
    rw [if_pos ⟨hi, h⟩, if_pos h]
  · rw [if_neg fun z => h z.2, if_neg h, Int.add_zero]
theorem upto_step {ss : List Int} {q : Int} {L : List Int} {wt : Int} {t : Nat} {f : Int → Int} {a : Int} (nd : L.Nodup) (h : L[t]? = some a) :
    upto ss q L wt t f a = f a ∧ (upto ss q L wt (t + 1) f = fun i => if i = a then (if hit ss q L a = true then f a + wt else f a) else upto ss q L wt t f i) := by
  have et : L.take (t + 1) = L.take t ++ [a] := by rw [List.take_add_one, h]; rfl
  have no : a ∉ L.take t := by
    intro z
    have nd2 : (L.take (t + 1)).Nodup := nd.sublist (List.take_sublist _ _)
    rw [et] at nd2
    exact (List.nodup_append.mp nd2).2.2 a z a (List.mem_cons_self ..) rfl
  refine ⟨if_neg fun z => no z.1, ?_⟩
  funext i
  unfold upto
  rw [et]
  by_cases e : i = a
  · subst e
    rw [if_pos rfl]
    by_cases g : hit ss q L i = true
    · rw [if_pos g, if_pos ⟨by simp, g⟩]
    · rw [if_neg g, if_neg fun z => g z.2]
  · rw [if_neg e]
    by_cases m : i ∈ L.take t ∧ hit ss q L i = true
    · rw [if_pos m, if_pos ⟨List.mem_append_left _ m.1, m.2⟩]
    · rw [if_neg m, if_neg]
      intro z
      rcases List.mem_append.mp z.1 with z1 | z1
      · exact m ⟨z1, z.2⟩
      · cases z1 with
        | head => exact e rfl
        | tail _ z1 => cases z1
end K93
namespace K93
open PySem PySem.Spec PyProof.Rows L2 Dl
local macro_rules | `(tactic| walk_at "ev") => `(tactic| try simp -dsimp only [↓dSeq_at, sp_is_within, sp_is_tuple, encI, encC, dRet, dRetN, dNext, dIfS, dAsg, dDrop, dPar, dNever, dVar, dC, dOp, dUn, dTest, dChain, dAnd, dOr, dNot, dIf, dtAnd, dtOr, dtNot, dTup, daNil, daCons, dCall, dFn, dFnK, dNew, dLst, dOf,
  gdName, gdTup, gdCons, gdNil, gdSub, rdI, rdI0, oPlus, oSub, oTimes, oDiv, oMod, oPow, oLt, oLe, oGt, oGe, oIx, oEq, oNe, uNeg, oIsN, oNotN, D.isNon, cAbs, cMax, cMin, cInt, cDivmod, cLen, cIsi, tyD, items, litems, retD, sTup, mApp, dYes,
  atI_0, atI_1, atI_2, atI_3, atI_4, ixN_20, ixN_21, kit_ii, kit_ib, kit_is, kit_it, kit_il, kit_bi, kit_bb, kit_bs, kit_bt, kit_bl, kit_si, kit_sb, kit_ss, kit_st, kit_sl, kit_ti, kit_tb, kit_ts, kit_tt, kit_tl, kit_li, kit_lb, kit_ls, kit_lt, kit_ll,
  List.getElem?_cons_zero, List.getElem?_cons_succ, List.set_cons_zero, List.set_cons_succ, List.length_cons, List.length_nil, Mu.upd_same, Mu.upd_upd, Nat.zero_add, Nat.reduceAdd, Nat.reduceLeDiff, natlit, Int.reduceEq, Int.reduceLT, Int.reduceLE, Int.reduceAdd, Int.reduceSub, Int.reduceMul, Int.reducePow, Int.reduceNeg, permG2_10, permG3_210, zl_0, zl_1, zl_2, zl_3, zl_4, zl_5, zl_6, zl_7, zl_8, zl_9, zl_10, zl_11, zl_12, zl_13, zl_14, zl_15, zl_16, zl_17, zl_18, zl_19, zl_20, true_and, and_true, eq_self, not_true_eq_false, not_false_eq_true, decide_true, decide_false, if_true, Bool.false_eq_true, if_false, Bool.not_true, Bool.not_false, decide_eq_true_eq, Bool.not_eq_true', decide_eq_false_iff_not, Option.isSome, Option.map])
theorem cut_lo {xs : List D} {t : Nat} (h : t ≤ xs.length) : Dl.cutD xs none (some (t : Int)) = xs.take t := by
  unfold Dl.cutD
  rw [HT.sIx_nat, HT.sIx_none, List.drop_zero, Nat.sub_zero, Nat.min_eq_left h]
theorem cut_hi {xs : List D} {t : Nat} (h : t ≤ xs.length) : Dl.cutD xs (some (t : Int)) none = xs.drop t := by
  unfold Dl.cutD
  rw [HT.sIx_nat, HT.sIx_none, Nat.min_eq_left h, List.take_of_length_le]
  rw [List.length_drop]
  omega
theorem sm_app (ss L M : List Int) : sm ss (L ++ M) = sm ss L + sm ss M := by
  unfold sm
  rw [List.map_append, List.sum_append]
theorem sm_cut {ss L : List Int} {t : Nat} {a : Int} (h : L[t]? = some a) : sm ss (L.take t ++ L.drop (t + 1)) = sm ss L - vt ss a := by
  have ht := (List.getElem?_eq_some_iff.mp h).1
  have e : L = L.take t ++ (a :: L.drop (t + 1)) := by
    have := List.getElem_cons_drop (as := L) (i := t) ht
    rw [(List.getElem?_eq_some_iff.mp h).2] at this
    rw [this, List.take_append_drop]
  have e2 : sm ss L = sm ss (L.take t) + (vt ss a + sm ss (L.drop (t + 1))) := by
    rw (config := { occs := .pos [1] }) [e]
    rw [sm_app]
    rfl
  rw [sm_app, e2]
  omega
theorem cut_enc {L : List Int} {t : Nat} (h : t < L.length) : Dl.cutD (L.map D.int) none (some (t : Int)) ++ Dl.cutD (L.map D.int) (some ((t : Int) + 1)) none = (L.take t ++ L.drop (t + 1)).map D.int := by
  rw [show ((t : Int) + 1) = ((t + 1 : Nat) : Int) by omega, cut_lo (by rw [List.length_map]; omega), cut_hi (by rw [List.length_map]; omega), List.map_append, List.map_take, List.map_drop]
theorem inL_cut {ss L : List Int} (h : inL ss L) (t : Nat) : inL ss (L.take t ++ L.drop (t + 1)) := by
  refine ⟨?_, fun i hi => ?_⟩
  · rw [List.length_append, List.length_take, List.length_drop]
    have := h.1
    omega
  · rcases List.mem_append.mp hi with z | z
    · exact h.2 i (List.mem_of_mem_take z)
    · exact h.2 i (List.mem_of_mem_drop z)
theorem put {μ ν : Mu} {t : Nat} {xs : List D} (h : Mu.Sub μ ν) (n : μ t = none) : Mu.Sub μ (ν.upd t xs) := fun j ys e => by
  rw [Mu.upd_ne (Mu.ne_of e n)]
  exact h j ys e
def sp_swings_of : DSp := fun ds μ Q => ∃ ss q, ds = [encC ss q] ∧ Cok ss q ∧ New (accD ss.length (S ss q (fun _ => 1) (P ss.length))) μ Q
theorem len_swings_of : ∀ ds μ Q, sp_swings_of ds μ Q → ds.length = (["council"] : List Str).length := by
  rintro ds μ Q ⟨ss, q, rfl, _⟩
  rfl
def db_swings_of : DTS := (dSeq (dAsg (dOp oTimes (dNew (dLst (daCons (dC (.int 0)) daNil))) (dCall cLen (daCons (dOp oIx (dVar 0) (dC (.int 1))) daNil))) (gdName 1)) (dSeq (dFor (diSeq (dFn sp_won_lots (daCons (dVar 0) daNil))) (gdName 2) (dFor (diEnum2 (dVar 2)) (gdTup 2 (gdCons (gdName 3) (gdCons (gdName 4) gdNil))) (dAsg (dOp oPlus (dOp oIx (dVar 1) (dVar 4)) (dIf (dTest (dFn sp_is_won (daCons (dVar 0) (daCons (dOp oPlus (dSl (dVar 2) doNone (doSome (dVar 3))) (dSl (dVar 2) (doSome (dOp oPlus (dVar 3) (dC (.int 1)))) doNone)) daNil)))) (dC (.int 0)) (dC (.int 1)))) (gdSub (dVar 1) (dVar 4))))) (dRet (dVar 1))))
theorem pf_swings_of : ∀ ds μ Q, sp_swings_of ds μ Q → db_swings_of (retD Q) (startD ["council", "found", "lot", "at", "one"] ds) μ := by
  rintro ds μ Q ⟨ss, q, rfl, hc, h⟩
  show db_swings_of (retD Q) [some (encC ss q), none, none, none, none] μ
  have hl := hc.len
  unfold db_swings_of
  refine sq fun U hU => ?_
  walk_at "ev"
  intro z1 hz1
  have sz : (1 : Nat) * (((ss.map D.int).length : Nat) : Int).toNat ≤ sizeLine := by
    rw [List.length_map]
    exact sz1000 (by omega)
  have ln : (((ss.map D.int).length : Nat) : Int) < 9223372036854775808 := by
    rw [List.length_map]
    omega
  refine ⟨⟨by omega, ln, sz⟩, ?_⟩
  intro f hf
  rw [show (List.replicate (((ss.map D.int).length : Nat) : Int).toNat [D.int 0]).flatten = accD ss.length (S ss q (fun _ => 1) []) by rw [List.length_map, Int.toNat_natCast]; exact zerosA _]
  have sb0 : Mu.Sub μ ((μ.upd z1 [.int 0]).upd f (accD ss.length (S ss q (fun _ => 1) []))) := (Mu.sub_upd hz1).trans (Mu.sub_upd hf)
  have f0 : ((μ.upd z1 [.int 0]).upd f (accD ss.length (S ss q (fun _ => 1) []))) f = some (accD ss.length (S ss q (fun _ => 1) [])) := Mu.upd_same
  have mf : μ f = none := none_of (Mu.sub_upd hz1) hf
  generalize (μ.upd z1 [.int 0]).upd f (accD ss.length (S ss q (fun _ => 1) [])) = ν at sb0 f0 ⊢
  refine hU.go ?_
  clear hU hz1 hf
  refine sq fun U hU => ?_
  simp -dsimp only [dFor, diSeq]
  walk_at "ev"
  refine ⟨ss, q, rfl, hc, fun out ho hs w hw => ?_⟩
  simp -dsimp only [lsrc]
  walk_at "ev"
  have fw : f ≠ w := Mu.ne_of f0 hw
  refine ⟨fun i ρ' μ' => ∃ u2 u3 u4, ρ' = [some (encC ss q), some (.cell f), u2, u3, u4] ∧ Mu.Sub μ μ' ∧ μ' w = some ((out.filter (wn ss q)).map encI) ∧ μ' f = some (accD ss.length (S ss q (fun _ => 1) ((out.filter (wn ss q)).take i))),
    ⟨none, none, none, rfl, sb0.trans (Mu.sub_upd hw), Mu.upd_same, Mu.keep f0 hw⟩, fun i x ρ' μ' hi w2 => ?_, fun ρ' μ' w2 => ?_⟩
  · obtain ⟨u2, u3, u4, rfl, sb, ew, ef⟩ := w2
    refine ⟨held_one ew, ?_⟩
    have hi : ((out.filter (wn ss q)).map encI)[i]? = some x := hi
    rw [List.getElem?_map] at hi
    obtain ⟨L, hiL, rfl⟩ := Option.map_eq_some_iff.mp hi
    have hLm := List.mem_of_getElem? hiL
    have won : q ≤ sm ss L := of_decide_eq_true (List.mem_filter.mp hLm).2
    have lP : L ∈ P ss.length := ho.mem_iff.mp (List.mem_filter.mp hLm).1
    have li := inL_P (ss := ss) lP (by omega)
    have nd := (P_mem _ _ lP).2.1
    have et : (out.filter (wn ss q)).take (i + 1) = (out.filter (wn ss q)).take i ++ [L] := by rw [List.take_add_one, hiL]; rfl
    walk_at "ev"
    simp -dsimp only [dFor, diEnum2]
    walk_at "ev"
    rw [et]
    generalize (out.filter (wn ss q)).take i = done at ef ⊢
    refine ⟨fun t ρ3 μ3 => ∃ u3 u4, ρ3 = [some (encC ss q), some (.cell f), some (encI L), u3, u4] ∧ Mu.Sub μ μ3 ∧ μ3 w = some ((out.filter (wn ss q)).map encI) ∧ μ3 f = some (accD ss.length (upto ss q L 1 t (S ss q (fun _ => 1) done))),
      ⟨u3, u4, rfl, sb, ew, by rw [upto_0]; exact ef⟩, fun t x ρ3 μ3 ht w3 => ⟨held_nil, ?_⟩, fun ρ3 μ3 w3 => ⟨held_nil, ?_⟩⟩
    · obtain ⟨v3, v4, rfl, sb3, ew3, ef3⟩ := w3
      obtain ⟨y, hy, rfl⟩ := enumD_get ht
      have hy : (L.map D.int)[t]? = some y := hy
      rw [List.getElem?_map] at hy
      obtain ⟨a, ha, rfl⟩ := Option.map_eq_some_iff.mp hy
      have tl := (List.getElem?_eq_some_iff.mp ha).1
      have ab := li.2 a (List.mem_of_getElem? ha)
      have st := upto_step (q := q) (ss := ss) (wt := 1) (f := S ss q (fun _ => 1) done) nd ha
      have aa := acc_at (f := upto ss q L 1 t (S ss q (fun _ => 1) done)) ab.1 ab.2
      walk_at "ev"
      rw [ef3]
      walk_at "ev"
      rw [aa.1]
      walk_at "ev"
      simp -dsimp only [dSl, doNone, doSome]
      walk_at "ev"
      have ci := inL_cut li t
      have cs := sm_cut (ss := ss) ha
      refine ⟨?_, ?_⟩
      · rw [← List.length_append, cut_enc tl, List.length_map]
        exact sz1000 (by have := ci.1; omega)
      rw [cut_enc tl]
      have hh : hit ss q L a = !wn ss q (L.take t ++ L.drop (t + 1)) := by
        unfold hit wn
        rw [cs, decide_eq_true (List.mem_of_getElem? ha), decide_eq_true won, Bool.true_and, Bool.true_and, ← decide_not]
        exact decide_eq_decide.mpr (by omega)
      refine ⟨ss, q, L.take t ++ L.drop (t + 1), rfl, ci, ?_⟩
      walk_at "ev"
      rw [ef3]
      walk_at "ev"
      rw [aa.2]
      walk_at "ev"
      by_cases e : wn ss q (L.take t ++ L.drop (t + 1)) = true
      · rw [if_pos e]
        refine ⟨_, _, rfl, put sb3 mf, (Mu.upd_ne fw.symm).trans ew3, congrArg some ?_⟩
        rw [acc_set ab.1 ab.2, st.2, st.1]
        refine acc_congr fun i _ _ => ?_
        rw [hh, e, if_neg (show ¬ (!true) = true by decide), Int.add_zero]
      · rw [if_neg e]
        refine ⟨_, _, rfl, put sb3 mf, (Mu.upd_ne fw.symm).trans ew3, congrArg some ?_⟩
        rw [acc_set ab.1 ab.2, st.2, st.1]
        refine acc_congr fun i _ _ => ?_
        rw [hh, Bool.eq_false_iff.mpr e, if_pos (show (!false) = true by decide)]
    · obtain ⟨v3, v4, rfl, sb3, ew3, ef3⟩ := w3
      have ef3 : μ3 f = some (accD ss.length (upto ss q L 1 (enumD (L.map D.int)).length (S ss q (fun _ => 1) done))) := ef3
      rw [enumD_len, List.length_map, upto_all] at ef3
      refine ⟨_, _, _, rfl, sb3, ew3, ?_⟩
      rw [ef3]
      refine congrArg some (acc_congr fun i _ _ => ?_)
      rw [S_app, S_one]
  · obtain ⟨u2, u3, u4, rfl, sb, ew, ef⟩ := w2
    refine ⟨held_one ew, ?_⟩
    have ef : μ' f = some (accD ss.length (S ss q (fun _ => 1) ((out.filter (wn ss q)).take ((out.filter (wn ss q)).map encI).length))) := ef
    rw [List.length_map, List.take_length] at ef
    refine hU.go ?_
    walk_at "ev"
    refine ⟨_, sub_cell sb mf ?_, h f mf⟩
    rw [ef]
    refine congrArg some (acc_congr fun i _ _ => ?_)
    rw [S_won, S_perm _ _ _ ho]
end K93
namespace K93
open PySem PySem.Spec PyProof.Rows L2 Dl
local macro_rules | `(tactic| walk_at "ev") => `(tactic| try simp -dsimp only [↓dSeq_at, sp_is_within, sp_is_tuple, encI, encC, dRet, dRetN, dNext, dIfS, dAsg, dDrop, dPar, dNever, dVar, dC, dOp, dUn, dTest, dChain, dAnd, dOr, dNot, dIf, dtAnd, dtOr, dtNot, dTup, daNil, daCons, dCall, dFn, dFnK, dNew, dLst, dOf,
  gdName, gdTup, gdCons, gdNil, gdSub, rdI, rdI0, oPlus, oSub, oTimes, oDiv, oMod, oPow, oLt, oLe, oGt, oGe, oIx, oEq, oNe, uNeg, oIsN, oNotN, D.isNon, cAbs, cMax, cMin, cInt, cDivmod, cLen, cIsi, tyD, items, litems, retD, sTup, mApp, dYes,
  atI_0, atI_1, atI_2, atI_3, atI_4, ixN_20, ixN_21, kit_ii, kit_ib, kit_is, kit_it, kit_il, kit_bi, kit_bb, kit_bs, kit_bt, kit_bl, kit_si, kit_sb, kit_ss, kit_st, kit_sl, kit_ti, kit_tb, kit_ts, kit_tt, kit_tl, kit_li, kit_lb, kit_ls, kit_lt, kit_ll,
  List.getElem?_cons_zero, List.getElem?_cons_succ, List.set_cons_zero, List.set_cons_succ, List.length_cons, List.length_nil, Mu.upd_same, Mu.upd_upd, Nat.zero_add, Nat.reduceAdd, Nat.reduceLeDiff, natlit, Int.reduceEq, Int.reduceLT, Int.reduceLE, Int.reduceAdd, Int.reduceSub, Int.reduceMul, Int.reducePow, Int.reduceNeg, permG2_10, permG3_210, zl_0, zl_1, zl_2, zl_3, zl_4, zl_5, zl_6, zl_7, zl_8, zl_9, zl_10, zl_11, zl_12, zl_13, zl_14, zl_15, zl_16, zl_17, zl_18, zl_19, zl_20, true_and, and_true, eq_self, not_true_eq_false, not_false_eq_true, decide_true, decide_false, if_true, Bool.false_eq_true, if_false, Bool.not_true, Bool.not_false, decide_eq_true_eq, Bool.not_eq_true', decide_eq_false_iff_not, Option.isSome, Option.map])
def sp_is_council_any : DSp := fun ds μ Q => ∃ ss q, ds = [encC ss q] ∧ Cok ss q ∧ Q (.bl true) μ
theorem len_is_council_any : ∀ ds μ Q, sp_is_council_any ds μ Q → ds.length = (["value"] : List Str).length := by
  rintro ds μ Q ⟨ss, q, rfl, _⟩
  rfl
def db_is_council_any : DTS := (dSeq (dIfS (dtOr (dtNot (dTest (dFn sp_is_tuple (daCons (dVar 0) (daCons (dC (.int 3)) daNil))))) (dtOr (dtNot (dTest (dCall cIsi (daCons (dOp oIx (dVar 0) (dC (.int 0))) (daCons (dC (.ty "str")) daNil))))) (dTest (dOp oNe (dOp oIx (dVar 0) (dC (.int 0))) (dC (.str "council")))))) (dRet (dC (.bl false))) dNext) (dSeq (dIfS (dtOr (dtNot (dTest (dCall cIsi (daCons (dOp oIx (dVar 0) (dC (.int 1))) (daCons (dC (.ty "tuple")) daNil))))) (dtNot (dTest (dChain oLe oLe (dC (.int 1)) (dCall cLen (daCons (dOp oIx (dVar 0) (dC (.int 1))) daNil)) (dC (.int 8)))))) (dRet (dC (.bl false))) dNext) (dSeq (dIfS (dtNot (dTest (dOf sAll (dLc (diSeq (dOp oIx (dVar 0) (dC (.int 1)))) (gdName 1) dYes (dFn sp_is_within (daCons (dVar 1) (daCons (dC (.int 0)) (daCons (dC (.int 200)) daNil)))) [1])))) (dRet (dC (.bl false))) dNext) (dRet (dFn sp_is_within (daCons (dOp oIx (dVar 0) (dC (.int 2))) (daCons (dC (.int 1)) (daCons (dCall (dSeq1 true sSum) (daCons (dOp oIx (dVar 0) (dC (.int 1))) daNil)) daNil))))))))
theorem pf_is_council_any : ∀ ds μ Q, sp_is_council_any ds μ Q → db_is_council_any (retD Q) (startD ["value", "one"] ds) μ := by
  rintro ds μ Q ⟨ss, q, rfl, hc, h⟩
  show db_is_council_any (retD Q) [some (encC ss q), none] μ
  have hl := hc.len
  have hq := hc.q
  unfold db_is_council_any
  refine sq fun U hU => ?_
  walk_at "ev"
  refine hU.go ?_
  clear hU
  refine sq fun U hU => ?_
  walk_at "ev"
  rw [List.length_map, if_pos (by omega), if_neg (by omega)]
  refine hU.go ?_
  clear hU
  refine sq fun U hU => ?_
  walk_at "ev"
  simp -dsimp only [dLc, diSeq]
  walk_at "ev"
  refine lc_tm (fun _ => .bl true) held_nil (by omega) (fun v hv' μ' Qy hd q => ?_) ?_
  · simp -dsimp only [wipeD]
    walk_at "ev"
    have := hc.v v hv'
    show Qy (.bl (decide (0 ≤ v ∧ v ≤ 200))) μ'
    rw [decide_eq_true (by omega)]
    exact q
  · refine sAll_ty (b := fun _ => true) ?_
    rw [all_yes]
    walk_at "ev"
    refine hU.go ?_
    walk_at "ev"
    simp -dsimp only [dSeq1, sitems]
    walk_at "ev"
    refine ⟨ss, rfl, ?_⟩
    walk_at "ev"
    refine ⟨_, Mu.Sub.refl _, ?_⟩
    rw [decide_eq_true (by omega)]
    exact h
def sp_want_council : DSp := fun ds μ Q => ∃ ss q, ds = [encC ss q] ∧ Cok ss q ∧ Q .non μ
theorem len_want_council : ∀ ds μ Q, sp_want_council ds μ Q → ds.length = (["council"] : List Str).length := by
  rintro ds μ Q ⟨ss, q, rfl, _⟩
  rfl
def db_want_council : DTS := (dIfS (dtNot (dTest (dFn sp_is_council_any (daCons (dVar 0) daNil)))) dNever dNext)
theorem pf_want_council : ∀ ds μ Q, sp_want_council ds μ Q → db_want_council (retD Q) (startD ["council"] ds) μ := by
  rintro ds μ Q ⟨ss, q, rfl, hc, h⟩
  show db_want_council (retD Q) [some (encC ss q)] μ
  unfold db_want_council
  walk_at "ev"
  refine ⟨ss, q, rfl, hc, ?_⟩
  walk_at "ev"
  exact ⟨_, Mu.Sub.refl _, h⟩
end K93
namespace K93
open PySem PySem.Spec PyProof.Rows L2 Dl
local macro_rules | `(tactic| walk_at "ev") => `(tactic| try simp -dsimp only [↓dSeq_at, sp_is_within, sp_is_tuple, encI, encC, dRet, dRetN, dNext, dIfS, dAsg, dDrop, dPar, dNever, dVar, dC, dOp, dUn, dTest, dChain, dAnd, dOr, dNot, dIf, dtAnd, dtOr, dtNot, dTup, daNil, daCons, dCall, dFn, dFnK, dNew, dLst, dOf,
  gdName, gdTup, gdCons, gdNil, gdSub, rdI, rdI0, oPlus, oSub, oTimes, oDiv, oMod, oPow, oLt, oLe, oGt, oGe, oIx, oEq, oNe, uNeg, oIsN, oNotN, D.isNon, cAbs, cMax, cMin, cInt, cDivmod, cLen, cIsi, tyD, items, litems, retD, sTup, mApp, dYes,
  atI_0, atI_1, atI_2, atI_3, atI_4, ixN_20, ixN_21, kit_ii, kit_ib, kit_is, kit_it, kit_il, kit_bi, kit_bb, kit_bs, kit_bt, kit_bl, kit_si, kit_sb, kit_ss, kit_st, kit_sl, kit_ti, kit_tb, kit_ts, kit_tt, kit_tl, kit_li, kit_lb, kit_ls, kit_lt, kit_ll,
  List.getElem?_cons_zero, List.getElem?_cons_succ, List.set_cons_zero, List.set_cons_succ, List.length_cons, List.length_nil, Mu.upd_same, Mu.upd_upd, Nat.zero_add, Nat.reduceAdd, Nat.reduceLeDiff, natlit, Int.reduceEq, Int.reduceLT, Int.reduceLE, Int.reduceAdd, Int.reduceSub, Int.reduceMul, Int.reducePow, Int.reduceNeg, permG2_10, permG3_210, zl_0, zl_1, zl_2, zl_3, zl_4, zl_5, zl_6, zl_7, zl_8, zl_9, zl_10, zl_11, zl_12, zl_13, zl_14, zl_15, zl_16, zl_17, zl_18, zl_19, zl_20, true_and, and_true, eq_self, not_true_eq_false, not_false_eq_true, decide_true, decide_false, if_true, Bool.false_eq_true, if_false, Bool.not_true, Bool.not_false, decide_eq_true_eq, Bool.not_eq_true', decide_eq_false_iff_not, Option.isSome, Option.map])
/-- what is kept while the law runs: the pot stands somewhere, all else of the caller's is as it was -/
def Good (μ : Mu) (c : Nat) (ν : Mu) : Prop := ∃ a b : Int, PB a b ∧ Mu.Sub (μ.upd c [.int a, .int b]) ν
theorem Good.pot {μ ν : Mu} {c : Nat} (h : Good μ c ν) : Pot ν c := by
  obtain ⟨a, b, h1, h2⟩ := h
  exact ⟨a, b, h2 _ _ Mu.upd_same, h1⟩
theorem Good.sub {μ ν ν' : Mu} {c : Nat} (h : Good μ c ν) (n : Mu.Sub ν ν') : Good μ c ν' := by
  obtain ⟨a, b, h1, h2⟩ := h
  exact ⟨a, b, h1, h2.trans n⟩
theorem Good.new {μ ν : Mu} {c k : Nat} {xs : List D} (h : Good μ c ν) (n : ν k = none) : Good μ c (ν.upd k xs) := h.sub (Mu.sub_upd n)
theorem Good.turn {μ ν : Mu} {c : Nat} {a b : Int} (h : Good μ c ν) (hp : PB a b) : Good μ c (ν.upd c [.int a, .int b]) := by
  obtain ⟨a1, b1, h1, h2⟩ := h
  refine ⟨a, b, hp, ?_⟩
  have := h2.upd c [.int a, .int b]
  rw [Mu.upd_upd] at this
  exact this
theorem Good.start {μ : Mu} {c : Nat} (h : Pot μ c) : Good μ c μ := by
  obtain ⟨a, b, h1, h2⟩ := h
  refine ⟨a, b, h2, fun j ys e => ?_⟩
  by_cases z : j = c
  · subst z
    rw [Mu.upd_same] at e
    cases e
    exact h1
  · rw [Mu.upd_ne z] at e
    exact e
theorem upd_comm {μ : Mu} {j k : Nat} {xs ys : List D} (h : j ≠ k) : (μ.upd j xs).upd k ys = (μ.upd k ys).upd j xs := by
  funext i
  by_cases a : i = k
  · subst a
    rw [Mu.upd_same, Mu.upd_ne h.symm, Mu.upd_same]
  · rw [Mu.upd_ne a]
    by_cases b : i = j
    · subst b
      rw [Mu.upd_same, Mu.upd_same]
    · rw [Mu.upd_ne b, Mu.upd_ne b, Mu.upd_ne a]
theorem lc_pot {its : List D} {g : DTG} {de : DTE} {ρ : Rho} {Q : List D → Mu → Prop} {μ : Mu} {c : Nat} (P : D → Prop) (hp : Pot μ c) (hl : its.length ≤ 1000)
    (hb : ∀ x, x ∈ its → ∀ μ' (Qy : DK), Pot μ' c → (∀ y a b μ4, P y → PB a b → Mu.Sub (μ'.upd c [.int a, .int b]) μ4 → Qy y μ4) → g x ρ μ' fun ρ2 μ2 => de ρ2 μ2 Qy)
    (hq : ∀ xs : List D, xs.length = its.length → (∀ y ∈ xs, P y) → Turn c μ fun μ' => Q xs μ') : lcIn ⟨its, []⟩ g dYes de ρ Q μ := by
  intro k hk
  obtain ⟨a0, b0, hc, hpb⟩ := hp
  have ck : c ≠ k := Mu.ne_of hc hk
  refine ⟨fun i μ' => ∃ a b xs, PB a b ∧ xs.length = i ∧ (∀ y ∈ xs, P y) ∧ Mu.Sub ((μ.upd c [.int a, .int b]).upd k xs) μ', ⟨a0, b0, [], hpb, rfl, (fun _ hy => nomatch hy), ?_⟩, fun i x μ' hi w => ⟨held_nil, ?_⟩, fun μ' w => ⟨held_nil, ?_⟩⟩
  · rw [upd_comm ck]
    refine fun j ys e => ?_
    by_cases z : j = c
    · subst z
      rw [Mu.upd_same] at e
      cases e
      exact (Mu.upd_ne ck).trans hc
    · rw [Mu.upd_ne z] at e
      exact e
  · obtain ⟨a, b, xs, pb, len, all, sb⟩ := w
    have hi : its[i]? = some x := hi
    have li := (List.getElem?_eq_some_iff.mp hi).1
    have pot : Pot μ' c := ⟨a, b, sb _ _ ((Mu.upd_ne ck).trans Mu.upd_same), pb⟩
    refine hb x (List.mem_of_getElem? hi) μ' _ pot fun y a2 b2 μ4 hy pb2 s4 => ?_
    have s5 := (sb.upd c [.int a2, .int b2]).trans s4
    rw [← upd_comm ck, Mu.upd_upd] at s5
    refine ⟨xs, s5 _ _ Mu.upd_same, sz_lt (by omega), a2, b2, xs ++ [y], pb2, by rw [List.length_append, len]; rfl, fun z hz => ?_, ?_⟩
    · rcases List.mem_append.mp hz with hz | hz
      · exact all z hz
      · cases hz with
        | head => exact hy
        | tail _ hz => cases hz
    · have := s5.upd k (xs ++ [y])
      rw [Mu.upd_upd] at this
      exact this
  · obtain ⟨a, b, xs, pb, len, all, sb⟩ := w
    exact ⟨xs, μ.upd c [.int a, .int b], sb _ _ Mu.upd_same, (Mu.upd_ne ck.symm).trans hk, sb, hq xs len all a b pb⟩
end K93
namespace K93
open PySem PySem.Spec PyProof.Rows L2 Dl
local macro_rules | `(tactic| walk_at "ev") => `(tactic| try simp -dsimp only [↓dSeq_at, sp_is_within, sp_is_tuple, encI, encC, dRet, dRetN, dNext, dIfS, dAsg, dDrop, dPar, dNever, dVar, dC, dOp, dUn, dTest, dChain, dAnd, dOr, dNot, dIf, dtAnd, dtOr, dtNot, dTup, daNil, daCons, dCall, dFn, dFnK, dNew, dLst, dOf,
  gdName, gdTup, gdCons, gdNil, gdSub, rdI, rdI0, oPlus, oSub, oTimes, oDiv, oMod, oPow, oLt, oLe, oGt, oGe, oIx, oEq, oNe, uNeg, oIsN, oNotN, D.isNon, cAbs, cMax, cMin, cInt, cDivmod, cLen, cIsi, tyD, items, litems, retD, sTup, mApp, dYes,
  atI_0, atI_1, atI_2, atI_3, atI_4, ixN_20, ixN_21, kit_ii, kit_ib, kit_is, kit_it, kit_il, kit_bi, kit_bb, kit_bs, kit_bt, kit_bl, kit_si, kit_sb, kit_ss, kit_st, kit_sl, kit_ti, kit_tb, kit_ts, kit_tt, kit_tl, kit_li, kit_lb, kit_ls, kit_lt, kit_ll,
  List.getElem?_cons_zero, List.getElem?_cons_succ, List.set_cons_zero, List.set_cons_succ, List.length_cons, List.length_nil, Mu.upd_same, Mu.upd_upd, Nat.zero_add, Nat.reduceAdd, Nat.reduceLeDiff, natlit, Int.reduceEq, Int.reduceLT, Int.reduceLE, Int.reduceAdd, Int.reduceSub, Int.reduceMul, Int.reducePow, Int.reduceNeg, permG2_10, permG3_210, zl_0, zl_1, zl_2, zl_3, zl_4, zl_5, zl_6, zl_7, zl_8, zl_9, zl_10, zl_11, zl_12, zl_13, zl_14, zl_15, zl_16, zl_17, zl_18, zl_19, zl_20, true_and, and_true, eq_self, not_true_eq_false, not_false_eq_true, decide_true, decide_false, if_true, Bool.false_eq_true, if_false, Bool.not_true, Bool.not_false, decide_eq_true_eq, Bool.not_eq_true', decide_eq_false_iff_not, Option.isSome, Option.map])
def St (y : D) : Prop := ∃ v : Int, y = .int v ∧ 0 ≤ v ∧ v ≤ 59
theorem sts : ∀ (xs : List D), (∀ y ∈ xs, St y) → ∃ vs : List Int, xs = vs.map D.int ∧ ∀ v ∈ vs, 0 ≤ v ∧ v ≤ 59
  | [], _ => ⟨[], rfl, (fun _ h => nomatch h)⟩
  | y :: xs, h => by
    obtain ⟨v, rfl, hv⟩ := h y (List.mem_cons_self ..)
    obtain ⟨vs, rfl, hs⟩ := sts xs fun z hz => h z (List.mem_cons_of_mem _ hz)
    refine ⟨v :: vs, rfl, fun w hw => ?_⟩
    cases hw with
    | head => exact hv
    | tail _ hw => exact hs w hw
theorem sum_nn : ∀ l : List Int, (∀ v ∈ l, 0 ≤ v ∧ v ≤ 200) → 0 ≤ l.sum ∧ l.sum ≤ 200 * (l.length : Int)
  | [], _ => ⟨Int.le_refl _, Int.le_refl _⟩
  | v :: l, h => by
    have a := sum_nn l fun w hw => h w (List.mem_cons_of_mem _ hw)
    have b := h v (List.mem_cons_self ..)
    rw [List.sum_cons, List.length_cons]
    omega
theorem sum_put : ∀ (l : List Int) (j : Nat) (v : Int), (∀ x ∈ l, 0 ≤ x ∧ x ≤ 200) → j < l.length → v ≤ (l.set j v).sum
  | [], j, v, _, hj => nomatch hj
  | x :: l, 0, v, h, _ => by
    have := sum_nn l fun y hy => h y (List.mem_cons_of_mem _ hy)
    show v ≤ (v :: l).sum
    rw [List.sum_cons]
    omega
  | x :: l, j + 1, v, h, hj => by
    have a := sum_put l j v (fun y hy => h y (List.mem_cons_of_mem _ hy)) (by rw [List.length_cons] at hj; omega)
    have b := h x (List.mem_cons_self ..)
    show v ≤ (x :: l.set j v).sum
    rw [List.sum_cons]
    omega
def sp_law_council : DSp := fun ds μ Q => ∃ c m, ds = [.cell c, .int m] ∧ (Pot μ c ∧ 1 ≤ m ∧ m ≤ 7) ∧ ∀ ss q, Cok ss q → (ss.length : Int) ≤ m → Turn c μ fun μ' => Q (encC ss q) μ'
theorem len_law_council : ∀ ds μ Q, sp_law_council ds μ Q → ds.length = (["pot", "most"] : List Str).length := by
  rintro ds μ Q ⟨c, m, rfl, _⟩
  rfl
def db_law_council : DTS := (dSeq (dAsg (dTup (daCons (dOp oPlus (dC (.int 1)) (dFn sp_law_draw (daCons (dVar 0) (daCons (dVar 1) daNil)))) (daCons (dFn sp_law_pick (daCons (dVar 0) (daCons (dNew (dLst (daCons (dC (.int 2)) (daCons (dC (.int 4)) (daCons (dC (.int 6)) (daCons (dC (.int 60)) daNil)))))) daNil))) daNil))) (gdTup 2 (gdCons (gdName 2) (gdCons (gdName 3) gdNil)))) (dSeq (dAsg (dNew (dLc (diR1 (daCons (dVar 2) daNil)) (gdName 5) dYes (dFn sp_law_draw (daCons (dVar 0) (daCons (dVar 3) daNil))) [5])) (gdName 4)) (dSeq (dIfS (dTest (dOp oEq (dCall (dSeq1 true sSum) (daCons (dVar 4) daNil)) (dC (.int 0)))) (dAsg (dOp oPlus (dC (.int 1)) (dFn sp_law_draw (daCons (dVar 0) (daCons (dC (.int 200)) daNil)))) (gdSub (dVar 4) (dFn sp_law_draw (daCons (dVar 0) (daCons (dVar 2) daNil))))) dNext) (dSeq (dAsg (dCall (dSeq1 true sSum) (daCons (dVar 4) daNil)) (gdName 6)) (dSeq (dAsg (dFn sp_law_pick (daCons (dVar 0) (daCons (dNew (dLst (daCons (dOp oPlus (dOp oDiv (dVar 6) (dC (.int 2))) (dC (.int 1))) (daCons (dOp oPlus (dC (.int 1)) (dFn sp_law_draw (daCons (dVar 0) (daCons (dVar 6) daNil)))) (daCons (dVar 6) (daCons (dOp oPlus (dC (.int 1)) (dOp oDiv (dOp oTimes (dC (.int 2)) (dVar 6)) (dC (.int 3)))) daNil)))))) daNil))) (gdName 7)) (dRet (dTup (daCons (dC (.str "council")) (daCons (dCall (dSeq1 true sTup) (daCons (dVar 4) daNil)) (daCons (dCall cMin (daCons (dVar 6) (daCons (dVar 7) daNil))) daNil))))))))))
theorem pf_law_council : ∀ ds μ Q, sp_law_council ds μ Q → db_law_council (retD Q) (startD ["pot", "most", "many", "size", "seats", "turn", "whole", "quota"] ds) μ := by
  rintro ds μ Q ⟨c, m, rfl, ⟨hp, m0, m1⟩, q⟩
  show db_law_council (retD Q) [some (.cell c), some (.int m), none, none, none, none, none, none] μ
  unfold db_law_council
  refine sq fun U hU => ?_
  walk_at "ev"
  refine ask_draw hp (by omega) (by omega) fun d d0 d1 a1 b1 hp1 => ?_
  have good := (Good.start hp).turn hp1
  generalize μ.upd c [.int a1, .int b1] = ν at good ⊢
  walk_at "ev"
  intro s hs
  refine ask_pick good.pot hs ⟨by decide, by decide⟩ fun x hx a2 b2 hp2 => ?_
  replace good := (good.new (xs := [.int 2, .int 4, .int 6, .int 60]) hs).turn hp2
  generalize (ν.upd s [.int 2, .int 4, .int 6, .int 60]).upd c [.int a2, .int b2] = ν at good ⊢
  obtain ⟨z, rfl, z0, z1⟩ : ∃ z : Int, x = .int z ∧ 2 ≤ z ∧ z ≤ 60 := by
    have hx : x ∈ ([2, 4, 6, 60] : List Int).map D.int := hx
    obtain ⟨z, hz, rfl⟩ := List.mem_map.mp hx
    have : ∀ z ∈ ([2, 4, 6, 60] : List Int), 2 ≤ z ∧ z ≤ 60 := by decide
    exact ⟨z, rfl, this z hz⟩
  walk_at "ev"
  refine hU.go ?_
  clear hU hs hx
  refine sq fun U hU => ?_
  walk_at "ev"
  simp -dsimp only [dLc, diR1]
  walk_at "ev"
  refine ⟨⟨by omega, by omega⟩, ?_⟩
  refine lc_pot St good.pot (by rw [rangeD_len]; omega) (fun x hx μ' Qy pot qy => ?_) fun xs hx hy => ?_
  · simp -dsimp only [wipeD]
    walk_at "ev"
    refine ask_draw pot (by omega) (by omega) fun e e0 e1 a3 b3 hp3 => ?_
    exact qy _ a3 b3 _ ⟨e, rfl, e0, by omega⟩ hp3 (Mu.Sub.refl _)
  intro a3 b3 hp3
  obtain ⟨vs, rfl, hv⟩ := sts xs hy
  rw [List.length_map, rangeD_len] at hx
  replace good := good.turn hp3
  generalize ν.upd c [.int a3, .int b3] = ν at good ⊢
  walk_at "ev"
  intro k hk
  have good2 := good.new (xs := vs.map D.int) hk
  have mk : μ k = none := by
    obtain ⟨a, b, _, sb⟩ := good
    have n := none_of sb hk
    by_cases e : k = c
    · rw [e, Mu.upd_same] at n
      cases n
    · rw [Mu.upd_ne e] at n
      exact n
  have ck : c ≠ k := by
    obtain ⟨_, _, e, _⟩ := good.pot
    exact Mu.ne_of e hk
  have ek : (ν.upd k (vs.map D.int)) k = some (vs.map D.int) := Mu.upd_same
  generalize ν.upd k (vs.map D.int) = ν at good2 ek ⊢
  refine hU.go ?_
  clear hU
  refine sq fun U hU => ?_
  -- the rest, at any seats
  have rest : ∀ {vs : List Int} {ν : Mu}, Good μ c ν → ν k = some (vs.map D.int) → 0 < vs.sum → (∀ v ∈ vs, 0 ≤ v ∧ v ≤ 200) → vs.length = (1 + d - 0).toNat →
      U [some (.cell c), some (.int m), some (.int (1 + d)), some (.int z), some (.cell k), none, none, none] ν := by
    intro vs ν good ek pos hv len
    have sn := sum_nn vs hv
    refine hU.go ?_
    clear hU
    refine sq fun U hU => ?_
    walk_at "ev"
    simp -dsimp only [dSeq1, sitems]
    walk_at "ev"
    rw [ek]
    refine ⟨vs, rfl, ?_⟩
    walk_at "ev"
    refine hU.go ?_
    clear hU
    refine sq fun U hU => ?_
    walk_at "ev"
    refine ⟨div_ok (by decide) (by decide), ?_⟩
    refine ask_draw good.pot (by omega) (by omega) fun e e0 e1 a4 b4 hp4 => ?_
    replace ek := (Mu.upd_ne (xs := [.int a4, .int b4]) ck.symm).trans ek
    replace good := good.turn hp4
    generalize ν.upd c [.int a4, .int b4] = ν at good ek ⊢
    walk_at "ev"
    refine ⟨mulL (by decide) (by decide), div_ok (by decide) (by decide), ?_⟩
    intro s hs
    refine ask_pick good.pot hs ⟨Nat.zero_lt_succ _, by show 4 < 2 ^ 30; decide⟩ fun x hx a5 b5 hp5 => ?_
    replace ek := (Mu.upd_ne (xs := [.int a5, .int b5]) ck.symm).trans (Mu.keep (xs := [.int (vs.sum / 2 + 1), .int (1 + e), .int vs.sum, .int (1 + 2 * vs.sum / 3)]) ek hs)
    replace good := (good.new (xs := [.int (vs.sum / 2 + 1), .int (1 + e), .int vs.sum, .int (1 + 2 * vs.sum / 3)]) hs).turn hp5
    generalize (ν.upd s [.int (vs.sum / 2 + 1), .int (1 + e), .int vs.sum, .int (1 + 2 * vs.sum / 3)]).upd c [.int a5, .int b5] = ν at good ek ⊢
    obtain ⟨y, rfl, y0⟩ : ∃ y : Int, x = .int y ∧ 1 ≤ y := by
      have hx : x ∈ ([vs.sum / 2 + 1, 1 + e, vs.sum, 1 + 2 * vs.sum / 3] : List Int).map D.int := hx
      obtain ⟨y, hy, rfl⟩ := List.mem_map.mp hx
      refine ⟨y, rfl, ?_⟩
      simp only [List.mem_cons, List.not_mem_nil, or_false] at hy
      omega
    refine hU.go ?_
    walk_at "ev"
    simp -dsimp only [dSeq1, sitems, sTup]
    walk_at "ev"
    rw [ek]
    obtain ⟨a, b, pb, sb⟩ := good
    exact ⟨_, sb, q vs (min vs.sum y) ⟨⟨by omega, by omega⟩, hv, by omega, by omega⟩ (by omega) a b pb⟩
  walk_at "ev"
  simp -dsimp only [dSeq1, sitems]
  walk_at "ev"
  rw [ek]
  refine ⟨vs, rfl, ?_⟩
  walk_at "ev"
  have v200 : ∀ v ∈ vs, 0 ≤ v ∧ v ≤ 200 := fun v hh => by
    have := hv v hh
    omega
  have sn := sum_nn vs v200
  by_cases e0 : vs.sum = 0
  · rw [if_pos e0]
    refine ask_draw good2.pot (by decide) (by decide) fun y y0 y1 a4 b4 hp4 => ?_
    replace ek := (Mu.upd_ne (xs := [.int a4, .int b4]) ck.symm).trans ek
    replace good2 := good2.turn hp4
    generalize ν.upd c [.int a4, .int b4] = ν at good2 ek ⊢
    walk_at "ev"
    refine ask_draw good2.pot (by omega) (by omega) fun j j0 j1 a5 b5 hp5 => ?_
    replace ek := (Mu.upd_ne (xs := [.int a5, .int b5]) ck.symm).trans ek
    replace good2 := good2.turn hp5
    generalize ν.upd c [.int a5, .int b5] = ν at good2 ek ⊢
    walk_at "ev"
    rw [ek]
    have jl : j.toNat < vs.length := by omega
    have ix := ixN_nat (n := (vs.map D.int).length) (j := j.toNat) (by rw [List.length_map]; omega)
    rw [show ((j.toNat : Nat) : Int) = j by omega] at ix
    walk_at "ev"
    rw [ix]
    walk_at "ev"
    have es : (vs.map D.int).set j.toNat (.int (1 + y)) = (vs.set j.toNat (1 + y)).map D.int := (List.map_set ..).symm
    rw [es]
    have sp := sum_put vs j.toNat (1 + y) v200 jl
    obtain ⟨a6, b6, pb6, sb6⟩ := good2
    refine rest ⟨a6, b6, pb6, ?_⟩ Mu.upd_same (by omega) (fun v hh => ?_) (by rw [List.length_set]; exact hx)
    · exact put sb6 ((Mu.upd_ne ck.symm).trans mk)
    · rcases List.mem_or_eq_of_mem_set hh with z | z
      · exact v200 v z
      · omega
  · rw [if_neg e0]
    exact rest good2 ek (by omega) v200 hx
end K93
namespace K93
open PySem PySem.Spec PyProof.Rows L2 Dl
/-! ## lots -/
def ran (n : Nat) : List Int := (List.range n).map fun (a : Nat) => (a : Int)
theorem mem_ran {n : Nat} {i : Int} : i ∈ ran n ↔ 0 ≤ i ∧ i < n := by
  unfold ran
  rw [List.mem_map]
  constructor
  · rintro ⟨a, ha, rfl⟩
    have := List.mem_range.mp ha
    omega
  · rintro ⟨h0, h1⟩
    exact ⟨i.toNat, List.mem_range.mpr (by omega), by omega⟩
theorem ran_nd (n : Nat) : (ran n).Nodup := List.pairwise_map.mpr (List.nodup_range.imp fun h e => h (by omega))
theorem P_filter (p : Int → Bool) : ∀ (n : Nat) (L : List Int), L ∈ P n → L.filter p ∈ P n
  | 0, L, h => by
    cases h with
    | head => exact List.mem_cons_self ..
    | tail _ h => cases h
  | n + 1, L, h => by
    rcases List.mem_append.mp h with h | h
    · exact List.mem_append_left _ (P_filter p n L h)
    · obtain ⟨M, hM, rfl⟩ := List.mem_map.mp h
      have ih := P_filter p n M hM
      rw [List.filter_append]
      by_cases e : p (n : Int) = true
      · rw [show [(n : Int)].filter p = [(n : Int)] by rw [List.filter_cons, if_pos e]; rfl]
        exact List.mem_append_right _ (List.mem_map.mpr ⟨_, ih, rfl⟩)
      · rw [show [(n : Int)].filter p = [] by rw [List.filter_cons, if_neg e]; rfl, List.append_nil]
        exact List.mem_append_left _ ih
theorem ran_in : ∀ n : Nat, ran n ∈ P n
  | 0 => List.mem_cons_self ..
  | n + 1 => by
    have e : ran (n + 1) = ran n ++ [(n : Int)] := by
      unfold ran
      rw [List.range_succ, List.map_append]
      rfl
    rw [e]
    exact List.mem_append_right _ (List.mem_map.mpr ⟨_, ran_in n, rfl⟩)
theorem P_inc : ∀ (n : Nat) (L : List Int), L ∈ P n → L.Pairwise (· < ·)
  | 0, L, h => by
    cases h with
    | head => exact List.Pairwise.nil
    | tail _ h => cases h
  | n + 1, L, h => by
    rcases List.mem_append.mp h with h | h
    · exact P_inc n L h
    · obtain ⟨M, hM, rfl⟩ := List.mem_map.mp h
      refine List.pairwise_append.mpr ⟨P_inc n M hM, List.pairwise_singleton _ _, fun a ha b hb => ?_⟩
      have := (P_mem n M hM).2.2 a ha
      have := List.mem_singleton.mp hb
      omega
theorem P_nd : ∀ n : Nat, (P n).Nodup
  | 0 => List.nodup_cons.mpr ⟨(fun h => nomatch h), List.nodup_nil⟩
  | n + 1 => by
    have two : ((P n).map (· ++ [(n : Int)])).Nodup := List.pairwise_map.mpr ((P_nd n).imp fun h e => h (List.append_cancel_right e))
    refine List.nodup_append.mpr ⟨P_nd n, two, fun a ha b hb e => ?_⟩
    obtain ⟨M, hM, rfl⟩ := List.mem_map.mp hb
    have := (P_mem n a ha).2.2 (n : Int) (by rw [e]; simp)
    omega
theorem sm_ran {ss : List Int} : sm ss (ran ss.length) = ss.sum := by
  unfold sm ran
  rw [List.map_map]
  refine congrArg List.sum (List.ext_getElem? fun i => ?_)
  rw [List.getElem?_map]
  by_cases h : i < ss.length
  · rw [List.getElem?_range h, List.getElem?_eq_getElem h]
    show some (vt ss ((i : Nat) : Int)) = _
    unfold vt
    rw [Int.toNat_natCast, List.getD_eq_getElem?_getD, List.getElem?_eq_getElem h]
    rfl
  · rw [List.getElem?_eq_none (by rw [List.length_range]; omega), List.getElem?_eq_none (by omega)]
    rfl
def off (i : Int) (L : List Int) : List Int := L.filter fun b => !decide (b = i)
theorem off_id {i : Int} {L : List Int} (h : i ∉ L) : off i L = L := List.filter_eq_self.mpr fun b hb => by
  have : ¬ b = i := fun e => h (e ▸ hb)
  simp [this]
theorem sum_filter {β : Type} (p : β → Bool) (f : β → Int) : ∀ l : List β, ((l.filter p).map f).sum = (l.map fun b => if p b = true then f b else 0).sum
  | [] => rfl
  | b :: l => by
    rw [List.filter_cons, List.map_cons, List.sum_cons, ← sum_filter p f l]
    by_cases h : p b = true
    · rw [if_pos h, if_pos h, List.map_cons, List.sum_cons]
    · rw [if_neg h, if_neg h, Int.zero_add]
theorem sm_filt (ss : List Int) (a : Int) : ∀ L : List Int, L.Nodup → sm ss (off a L) = sm ss L - if a ∈ L then vt ss a else 0
  | [], _ => by
    rw [if_neg (by simp)]
    rfl
  | b :: L, nd => by
    have ih := sm_filt ss a L (List.nodup_cons.mp nd).2
    have nb := (List.nodup_cons.mp nd).1
    have e1 : sm ss (b :: L) = vt ss b + sm ss L := rfl
    unfold off at ih ⊢
    rw [List.filter_cons, e1]
    by_cases e : b = a
    · subst e
      rw [if_neg (by simp), ih, if_neg nb, if_pos (List.mem_cons_self ..)]
      omega
    · rw [if_pos (by simpa using e)]
      have e2 : sm ss (b :: L.filter fun b => !decide (b = a)) = vt ss b + sm ss (L.filter fun b => !decide (b = a)) := rfl
      rw [e2, ih]
      by_cases m : a ∈ L
      · rw [if_pos m, if_pos (List.mem_cons_of_mem _ m)]
        omega
      · rw [if_neg m, if_neg]
        · omega
        · intro z
          cases z with
          | head => exact e rfl
          | tail _ z => exact m z
theorem sm_off {ss L : List Int} {i : Int} (nd : L.Nodup) (m : i ∈ L) : sm ss (off i L) = sm ss L - vt ss i := by
  have s := sm_filt ss i L nd
  rw [if_pos m] at s
  exact s
theorem vt_pos {ss : List Int} {q : Int} (hc : Cok ss q) (i : Int) : 0 ≤ vt ss i ∧ vt ss i ≤ 200 := by
  unfold vt
  rw [List.getD_eq_getElem?_getD]
  cases e : ss[i.toNat]? with
  | none => exact ⟨Int.le_refl _, by decide⟩
  | some x => exact hc.v x (List.mem_of_getElem? e)
theorem sm_nn {ss : List Int} {q : Int} (hc : Cok ss q) : ∀ L : List Int, 0 ≤ sm ss L
  | [] => Int.le_refl _
  | i :: L => by
    have a := sm_nn hc L
    have b := (vt_pos hc i).1
    show 0 ≤ vt ss i + sm ss L
    omega
/-! ## least winning lots -/
def lst (ss : List Int) (q : Int) (L : List Int) : Bool := wn ss q L && L.all fun a => decide (sm ss L - vt ss a < q)
theorem lst_wn {ss : List Int} {q : Int} {L : List Int} (h : lst ss q L = true) : wn ss q L = true := (Bool.and_eq_true_iff.mp h).1
theorem off_len (i : Int) (L : List Int) (h : i ∈ L) : (off i L).length < L.length := by
  refine Nat.lt_of_le_of_ne (List.length_filter_le _ _) fun e => ?_
  have := List.length_filter_eq_length_iff.mp e i h
  simp at this
theorem ex_least {ss : List Int} {q : Int} : ∀ (k : Nat) (L : List Int), L.length ≤ k → L ∈ P ss.length → wn ss q L = true → ∃ M, M ∈ P ss.length ∧ lst ss q M = true ∧ ∀ b ∈ M, b ∈ L
  | 0, L, hk, hL, w => by
    have e : L = [] := List.length_eq_zero_iff.mp (by omega)
    subst e
    exact ⟨[], hL, by unfold lst; rw [w]; rfl, fun b hb => hb⟩
  | k + 1, L, hk, hL, w => by
    by_cases h : lst ss q L = true
    · exact ⟨L, hL, h, fun b hb => hb⟩
    · unfold lst at h
      rw [w, Bool.true_and, List.all_eq_true] at h
      obtain ⟨a, ha, h⟩ : ∃ a, a ∈ L ∧ ¬ sm ss L - vt ss a < q := by
        refine Classical.byContradiction fun z => h fun a ha => decide_eq_true (Classical.byContradiction fun y => z ⟨a, ha, y⟩)
      have nd := (P_mem _ _ hL).2.1
      have hw : wn ss q (off a L) = true := by
        unfold wn
        rw [sm_off nd ha]
        exact decide_eq_true (by omega)
      have hlen := off_len a L ha
      obtain ⟨M, m1, m2, m3⟩ := ex_least k (off a L) (by omega) (P_filter _ _ _ hL) hw
      exact ⟨M, m1, m2, fun b hb => (List.mem_filter.mp (m3 b hb)).1⟩
/-! ## idle -/
def cnt (ss : List Int) (q : Int) : Int → Int := S ss q (fun _ => 1) (P ss.length)
def idq (ss : List Int) (q : Int) : List Int := (ran ss.length).filter fun i => decide (cnt ss q i = 0)
theorem S_nn (ss : List Int) (q : Int) (i : Int) : ∀ ls : List (List Int), 0 ≤ S ss q (fun _ => 1) ls i
  | [] => Int.le_refl _
  | L :: ls => by
    have ih := S_nn ss q i ls
    have e : S ss q (fun _ => 1) (L :: ls) i = S ss q (fun _ => 1) [L] i + S ss q (fun _ => 1) ls i := S_app ss q _ [L] ls i
    rw [e, S_one]
    split <;> omega
theorem S_zero (ss : List Int) (q : Int) (i : Int) : ∀ ls : List (List Int), S ss q (fun _ => 1) ls i = 0 ↔ ∀ L ∈ ls, hit ss q L i = false
  | [] => ⟨fun _ L h => (nomatch h), fun _ => rfl⟩
  | L :: ls => by
    have ih := S_zero ss q i ls
    have nn := S_nn ss q i ls
    have e : S ss q (fun _ => 1) (L :: ls) i = S ss q (fun _ => 1) [L] i + S ss q (fun _ => 1) ls i := S_app ss q _ [L] ls i
    rw [e, S_one]
    cases h : hit ss q L i with
    | true =>
      rw [if_pos rfl]
      refine ⟨fun z => by omega, fun z => ?_⟩
      have := z L (List.mem_cons_self ..)
      rw [h] at this
      cases this
    | false =>
      rw [if_neg (by decide), Int.zero_add, ih]
      refine ⟨fun z M hM => ?_, fun z M hM => z M (List.mem_cons_of_mem _ hM)⟩
      cases hM with
      | head => exact h
      | tail _ hM => exact z M hM
theorem idle_off {ss : List Int} {q : Int} (hc : Cok ss q) {i : Int} (hi : cnt ss q i = 0) {M : List Int} (hM : M ∈ P ss.length) : wn ss q (off i M) = wn ss q M := by
  by_cases m : i ∈ M
  · have h := (S_zero ss q i _).mp hi M hM
    have s := sm_off (ss := ss) (P_mem _ _ hM).2.1 m
    have v := (vt_pos hc i).1
    unfold hit at h
    rw [decide_eq_true m, Bool.true_and, Bool.and_eq_false_iff, decide_eq_false_iff_not, decide_eq_false_iff_not] at h
    unfold wn
    rw [s]
    exact decide_eq_decide.mpr (by omega)
  · rw [off_id m]
theorem idle_all {ss : List Int} {q : Int} (hc : Cok ss q) {L : List Int} (hL : L ∈ P ss.length) : ∀ js : List Int, (∀ j ∈ js, cnt ss q j = 0) → wn ss q (L.filter fun b => !decide (b ∈ js)) = wn ss q L
  | [], _ => by
    rw [List.filter_eq_self.mpr fun b _ => by simp]
  | j :: js, h => by
    have ih := idle_all hc hL js fun k hk => h k (List.mem_cons_of_mem _ hk)
    have e : (L.filter fun b => !decide (b ∈ j :: js)) = off j (L.filter fun b => !decide (b ∈ js)) := by
      unfold off
      rw [List.filter_filter]
      refine List.filter_congr fun b _ => ?_
      by_cases z : b = j
      · simp [z]
      · simp [z]
    rw [e, idle_off hc (h j (List.mem_cons_self ..)) (P_filter _ _ _ hL), ih]
/-- the seats without those of idle lists -/
def less (ss : List Int) (q : Int) : List Int := (ran ss.length).map fun i => if i ∈ idq ss q then 0 else vt ss i
theorem less_len (ss : List Int) (q : Int) : (less ss q).length = ss.length := by
  unfold less ran
  rw [List.length_map, List.length_map, List.length_range]
theorem less_vt {ss : List Int} {q : Int} {i : Int} (h0 : 0 ≤ i) (h1 : i < ss.length) : vt (less ss q) i = if i ∈ idq ss q then 0 else vt ss i := by
  unfold less ran
  rw [List.map_map]
  unfold vt
  rw [List.getD_eq_getElem?_getD, List.getElem?_map, List.getElem?_range (by omega)]
  show (if ((i.toNat : Nat) : Int) ∈ idq ss q then (0 : Int) else vt ss ((i.toNat : Nat) : Int)) = _
  rw [show ((i.toNat : Nat) : Int) = i by omega]
  rfl
theorem less_sm {ss : List Int} {q : Int} {L : List Int} (hL : L ∈ P ss.length) : sm (less ss q) L = sm ss (L.filter fun b => !decide (b ∈ idq ss q)) := by
  unfold sm
  rw [sum_filter]
  refine congrArg List.sum (List.map_congr_left fun i hi => ?_)
  have b := (P_mem _ _ hL).2.2 i hi
  rw [less_vt b.1 b.2]
  by_cases m : i ∈ idq ss q
  · rw [if_pos m, decide_eq_true m, if_neg (by decide)]
  · rw [if_neg m, decide_eq_false m, if_pos (by decide)]
theorem less_key {ss : List Int} {q : Int} (hc : Cok ss q) {L : List Int} (hL : L ∈ P ss.length) : wn ss q L = decide (q ≤ sm (less ss q) L) := by
  rw [less_sm hL, ← idle_all hc hL (idq ss q) fun j hj => of_decide_eq_true (List.mem_filter.mp hj).2]
  rfl
/-- the least seats of a winning lot then -/
structure Quo (ss : List Int) (q r : Int) : Prop where
  ex : ∃ L, L ∈ P ss.length ∧ wn ss q L = true ∧ r = sm (less ss q) L
  le : ∀ L, L ∈ P ss.length → wn ss q L = true → r ≤ sm (less ss q) L
section
variable {ss : List Int} {q r : Int} (hc : Cok ss q) (hr : Quo ss q r)
include hc hr
theorem quo_q : q ≤ r := by
  obtain ⟨L, h1, h2, rfl⟩ := hr.ex
  rw [less_key hc h1] at h2
  exact of_decide_eq_true h2
theorem less_wn {L : List Int} (hL : L ∈ P ss.length) : wn (less ss q) r L = wn ss q L := by
  have k := less_key hc hL
  have qr := quo_q hc hr
  cases h : wn ss q L with
  | true => exact decide_eq_true (hr.le L hL h)
  | false =>
    rw [h] at k
    have := of_decide_eq_false k.symm
    exact decide_eq_false (by omega)
theorem less_cok : Cok (less ss q) r := by
  have len := less_len ss q
  refine ⟨by rw [len]; exact hc.len, fun s hs => ?_, by have := quo_q hc hr; have := hc.q; omega, ?_⟩
  · obtain ⟨i, _, rfl⟩ := List.mem_map.mp hs
    have := vt_pos hc i
    split <;> omega
  · have w : wn ss q (ran ss.length) = true := by
      unfold wn
      rw [sm_ran]
      exact decide_eq_true hc.q.2
    have := hr.le _ (ran_in _) w
    rw [← len, sm_ran] at this
    exact this
theorem less_lst {L : List Int} (hL : L ∈ P ss.length) : lst (less ss q) r L = lst ss q L := by
  unfold lst
  rw [less_wn hc hr hL]
  refine congrArg _ ?_
  rw [Bool.eq_iff_iff, List.all_eq_true, List.all_eq_true]
  have nd := (P_mem _ _ hL).2.1
  have k : ∀ a ∈ L, (sm (less ss q) L - vt (less ss q) a < r ↔ sm ss L - vt ss a < q) := fun a ha => by
    have e := less_wn hc hr (P_filter (fun b => !decide (b = a)) _ _ hL)
    have s1 := sm_off (ss := less ss q) nd ha
    have s2 := sm_off (ss := ss) nd ha
    unfold off at s1 s2
    unfold wn at e
    rw [s1, s2] at e
    have := decide_eq_decide.mp e
    omega
  exact ⟨fun z a ha => decide_eq_true ((k a ha).mp (of_decide_eq_true (z a ha))), fun z a ha => decide_eq_true ((k a ha).mpr (of_decide_eq_true (z a ha)))⟩
theorem less_hit {L : List Int} (hL : L ∈ P ss.length) (i : Int) : hit (less ss q) r L i = hit ss q L i := by
  unfold hit
  by_cases m : i ∈ L
  · have nd := (P_mem _ _ hL).2.1
    have e0 := less_wn hc hr hL
    have e := less_wn hc hr (P_filter (fun b => !decide (b = i)) _ _ hL)
    have s1 := sm_off (ss := less ss q) nd m
    have s2 := sm_off (ss := ss) nd m
    unfold off at s1 s2
    unfold wn at e e0
    rw [s1, s2] at e
    rw [decide_eq_true m, Bool.true_and, Bool.true_and, e0]
    refine congrArg _ (decide_eq_decide.mpr ?_)
    have := decide_eq_decide.mp e
    omega
  · rw [decide_eq_false m, Bool.false_and, Bool.false_and]
theorem less_idq : idq (less ss q) r = idq ss q := by
  unfold idq
  rw [less_len]
  refine List.filter_congr fun i _ => ?_
  have e : cnt (less ss q) r i = cnt ss q i := by
    unfold cnt S
    rw [less_len]
    refine congrArg List.sum (List.map_congr_left fun L hL => ?_)
    rw [less_hit hc hr hL i]
  rw [e]
end
end K93
namespace K93
open PySem PySem.Spec PyProof.Rows L2 Dl
theorem all_perm {β : Type} {l m : List β} (h : l.Perm m) (p : β → Bool) : l.all p = m.all p := by
  rw [Bool.eq_iff_iff, List.all_eq_true, List.all_eq_true]
  exact ⟨fun z x hx => z x (h.mem_iff.mpr hx), fun z x hx => z x (h.mem_iff.mp hx)⟩
theorem any_perm {β : Type} {l m : List β} (h : l.Perm m) (p : β → Bool) : l.any p = m.any p := by
  rw [Bool.eq_iff_iff, List.any_eq_true, List.any_eq_true]
  exact ⟨fun ⟨x, hx, z⟩ => ⟨x, h.mem_iff.mp hx, z⟩, fun ⟨x, hx, z⟩ => ⟨x, h.mem_iff.mpr hx, z⟩⟩
/-! ## vetoes, the dictator -/
def vto (ss : List Int) (q : Int) (i : Int) : Bool := (P ss.length).all fun L => !wn ss q L || decide (i ∈ L)
def vtl (ss : List Int) (q : Int) : List Int := (ran ss.length).filter (vto ss q)
theorem vto_iff {ss : List Int} {q i : Int} : vto ss q i = true ↔ ∀ L ∈ P ss.length, wn ss q L = true → i ∈ L := by
  unfold vto
  rw [List.all_eq_true]
  refine ⟨fun h L hL w => ?_, fun h L hL => ?_⟩
  · have := h L hL
    rw [w] at this
    exact of_decide_eq_true (by simpa using this)
  · cases w : wn ss q L with
    | false => rfl
    | true => exact decide_eq_true (h L hL w)
theorem veto_won {ss : List Int} {q : Int} {out : List (List Int)} (ho : out.Perm (P ss.length)) (i : Int) : ((out.filter (wn ss q)).all fun L => decide (i ∈ L)) = vto ss q i := by
  rw [Bool.eq_iff_iff, vto_iff, List.all_eq_true]
  refine ⟨fun h L hL w => of_decide_eq_true (h L (List.mem_filter.mpr ⟨ho.mem_iff.mpr hL, w⟩)), fun h L hL => ?_⟩
  obtain ⟨h1, h2⟩ := List.mem_filter.mp hL
  exact decide_eq_true (h L (ho.mem_iff.mp h1) h2)
theorem veto_least {ss : List Int} {q : Int} {out : List (List Int)} (ho : out.Perm (P ss.length)) (i : Int) : ((out.filter (lst ss q)).all fun L => decide (i ∈ L)) = vto ss q i := by
  rw [Bool.eq_iff_iff, vto_iff, List.all_eq_true]
  refine ⟨fun h L hL w => ?_, fun h L hL => ?_⟩
  · obtain ⟨M, m1, m2, m3⟩ := ex_least _ L (Nat.le_refl _) hL w
    exact m3 i (of_decide_eq_true (h M (List.mem_filter.mpr ⟨ho.mem_iff.mpr m1, m2⟩)))
  · obtain ⟨h1, h2⟩ := List.mem_filter.mp hL
    exact decide_eq_true (h L (ho.mem_iff.mp h1) (lst_wn h2))
def hds (ss : List Int) (q : Int) : List Int := (vtl ss q).filter fun i => wn ss q [i]
def dct (ss : List Int) (q : Int) : D := match hds ss q with | i :: _ => .int i | [] => .non
theorem one_in {n : Nat} {i : Int} (h : i ∈ ran n) : [i] ∈ P n := by
  have := P_filter (fun b => decide (b = i)) n (ran n) (ran_in n)
  have e : (ran n).filter (fun b => decide (b = i)) = [i] := by
    have nd := (ran_nd n).filter fun b => decide (b = i)
    have al : ∀ b ∈ (ran n).filter (fun b => decide (b = i)), b = i := fun b hb => of_decide_eq_true (List.mem_filter.mp hb).2
    have mi : i ∈ (ran n).filter (fun b => decide (b = i)) := List.mem_filter.mpr ⟨h, decide_eq_true rfl⟩
    generalize (ran n).filter (fun b => decide (b = i)) = l at nd al mi
    match l, nd, al, mi with
    | [a], _, al, _ => rw [al a (List.mem_cons_self ..)]
    | a :: b :: l, nd, al, _ =>
      have e1 := al a (List.mem_cons_self ..)
      have e2 := al b (List.mem_cons_of_mem _ (List.mem_cons_self ..))
      exact absurd (List.mem_cons_self ..) (by rw [e1, e2] at nd; exact (List.nodup_cons.mp nd).1)
  rw [← e]
  exact this
theorem all_one {β : Type} {i : β} : ∀ l : List β, l.Nodup → (∀ b ∈ l, b = i) → i ∈ l → l = [i]
  | [], _, _, h => nomatch h
  | [a], _, al, _ => by rw [al a (List.mem_cons_self ..)]
  | a :: b :: l, nd, al, _ => by
    have e1 := al a (List.mem_cons_self ..)
    have e2 := al b (List.mem_cons_of_mem _ (List.mem_cons_self ..))
    rw [e1, e2] at nd
    exact absurd (List.mem_cons_self ..) (List.nodup_cons.mp nd).1
theorem sm_one (ss : List Int) (i : Int) : sm ss [i] = vt ss i := Int.add_zero _
theorem vt_le_sm {ss : List Int} {q : Int} (hc : Cok ss q) {i : Int} : ∀ L : List Int, i ∈ L → vt ss i ≤ sm ss L
  | [], h => nomatch h
  | a :: L, h => by
    have e : sm ss (a :: L) = vt ss a + sm ss L := rfl
    have nn := sm_nn hc L
    have va := (vt_pos hc a).1
    cases h with
    | head => omega
    | tail _ h =>
      have := vt_le_sm hc L h
      omega
theorem dict_some {ss : List Int} {q : Int} (hc : Cok ss q) {i : Int} {r : List Int} (h : hds ss q = i :: r) {out : List (List Int)} (ho : out.Perm (P ss.length)) : out.filter (lst ss q) = [[i]] := by
  have mi : i ∈ hds ss q := by rw [h]; exact List.mem_cons_self ..
  obtain ⟨m1, m2⟩ := List.mem_filter.mp mi
  obtain ⟨m3, m4⟩ := List.mem_filter.mp m1
  have vi := vto_iff.mp m4
  have w : q ≤ vt ss i := by
    have := of_decide_eq_true m2
    rw [sm_one] at this
    exact this
  have q1 := hc.q.1
  refine all_one _ ((ho.nodup_iff.mpr (P_nd _)).filter _) (fun M hM => ?_) (List.mem_filter.mpr ⟨ho.mem_iff.mpr (one_in m3), ?_⟩)
  · obtain ⟨h1, h2⟩ := List.mem_filter.mp hM
    have hP := ho.mem_iff.mp h1
    have nd := (P_mem _ _ hP).2.1
    have im := vi M hP (lst_wn h2)
    have al := List.all_eq_true.mp (Bool.and_eq_true_iff.mp h2).2
    refine all_one M nd (fun a ha => ?_) im
    refine Classical.byContradiction fun ne => ?_
    have l := of_decide_eq_true (al a ha)
    have s := sm_off (ss := ss) nd ha
    have io : i ∈ off a M := List.mem_filter.mpr ⟨im, by simpa using fun z => ne z.symm⟩
    have := vt_le_sm hc _ io
    omega
  · unfold lst
    rw [m2, Bool.true_and, List.all_eq_true]
    intro a ha
    rw [List.mem_singleton.mp ha, sm_one]
    exact decide_eq_true (by omega)
theorem dict_none {ss : List Int} {q : Int} (h : hds ss q = []) {out : List (List Int)} (ho : out.Perm (P ss.length)) {j : Int} (e : out.filter (lst ss q) = [[j]]) : False := by
  have mj : [j] ∈ out.filter (lst ss q) := by rw [e]; exact List.mem_cons_self ..
  obtain ⟨h1, h2⟩ := List.mem_filter.mp mj
  have v : vto ss q j = true := by
    rw [← veto_least ho j, e]
    simp
  have b := (P_mem _ _ (ho.mem_iff.mp h1)).2.2 j (List.mem_cons_self ..)
  have : j ∈ hds ss q := List.mem_filter.mpr ⟨List.mem_filter.mpr ⟨mem_ran.mpr b, v⟩, lst_wn h2⟩
  rw [h] at this
  cases this
/-! ## proper, deciding -/
def rst (n : Nat) (L : List Int) : List Int := (ran n).filter fun i => !decide (i ∈ L)
theorem rst_in (n : Nat) (L : List Int) : rst n L ∈ P n := P_filter _ _ _ (ran_in n)
def prp (ss : List Int) (q : Int) : Bool := !((P ss.length).any fun L => wn ss q L && wn ss q (rst ss.length L))
def dcd (ss : List Int) (q : Int) : Bool := (P ss.length).all fun L => wn ss q L != wn ss q (rst ss.length L)
theorem prp_won {ss : List Int} {q : Int} {out : List (List Int)} (ho : out.Perm (P ss.length)) : (!((out.filter (wn ss q)).any fun L => wn ss q (rst ss.length L))) = prp ss q := by
  unfold prp
  rw [List.any_filter, any_perm ho]
theorem prp_all {ss : List Int} {q : Int} {out : List (List Int)} (ho : out.Perm (P ss.length)) : (!(out.any fun L => wn ss q L && wn ss q (rst ss.length L))) = prp ss q := by
  unfold prp
  rw [any_perm ho]
theorem dcd_all {ss : List Int} {q : Int} {out : List (List Int)} (ho : out.Perm (P ss.length)) : (out.all fun L => wn ss q L != wn ss q (rst ss.length L)) = dcd ss q := all_perm ho _
theorem dcd_and {ss : List Int} {q : Int} {out : List (List Int)} (ho : out.Perm (P ss.length)) : dcd ss q = (prp ss q && (out.filter fun L => !wn ss q (rst ss.length L)).all (wn ss q)) := by
  rw [List.all_filter, all_perm ho]
  unfold dcd prp
  rw [Bool.eq_iff_iff, Bool.and_eq_true, List.all_eq_true, List.all_eq_true, Bool.not_eq_true', List.any_eq_false]
  constructor
  · intro h
    refine ⟨fun L hL => ?_, fun L hL => ?_⟩
    · have := h L hL
      cases a : wn ss q L <;> cases b : wn ss q (rst ss.length L) <;> rw [a, b] at this <;> simp_all
    · have := h L hL
      cases a : wn ss q L <;> cases b : wn ss q (rst ss.length L) <;> rw [a, b] at this <;> simp_all
  · rintro ⟨h1, h2⟩ L hL
    have a1 := h1 L hL
    have a2 := h2 L hL
    cases a : wn ss q L <;> cases b : wn ss q (rst ss.length L) <;> rw [a, b] at a1 a2 <;> simp_all
end K93
namespace K93
open PySem PySem.Spec PyProof.Rows L2 Dl
local macro_rules | `(tactic| walk_at "ev") => `(tactic| try simp -dsimp only [↓dSeq_at, sp_is_within, sp_is_tuple, encI, encC, dRet, dRetN, dNext, dIfS, dAsg, dDrop, dPar, dNever, dVar, dC, dOp, dUn, dTest, dChain, dAnd, dOr, dNot, dIf, dtAnd, dtOr, dtNot, dTup, daNil, daCons, dCall, dFn, dFnK, dNew, dLst, dOf,
  gdName, gdTup, gdCons, gdNil, gdSub, rdI, rdI0, oPlus, oSub, oTimes, oDiv, oMod, oPow, oLt, oLe, oGt, oGe, oIx, oEq, oNe, uNeg, oIsN, oNotN, D.isNon, cAbs, cMax, cMin, cInt, cDivmod, cLen, cIsi, tyD, items, litems, retD, sTup, mApp, dYes,
  atI_0, atI_1, atI_2, atI_3, atI_4, ixN_20, ixN_21, kit_ii, kit_ib, kit_is, kit_it, kit_il, kit_bi, kit_bb, kit_bs, kit_bt, kit_bl, kit_si, kit_sb, kit_ss, kit_st, kit_sl, kit_ti, kit_tb, kit_ts, kit_tt, kit_tl, kit_li, kit_lb, kit_ls, kit_lt, kit_ll,
  List.getElem?_cons_zero, List.getElem?_cons_succ, List.set_cons_zero, List.set_cons_succ, List.length_cons, List.length_nil, Mu.upd_same, Mu.upd_upd, Nat.zero_add, Nat.reduceAdd, Nat.reduceLeDiff, natlit, Int.reduceEq, Int.reduceLT, Int.reduceLE, Int.reduceAdd, Int.reduceSub, Int.reduceMul, Int.reducePow, Int.reduceNeg, permG2_10, permG3_210, zl_0, zl_1, zl_2, zl_3, zl_4, zl_5, zl_6, zl_7, zl_8, zl_9, zl_10, zl_11, zl_12, zl_13, zl_14, zl_15, zl_16, zl_17, zl_18, zl_19, zl_20, true_and, and_true, eq_self, not_true_eq_false, not_false_eq_true, decide_true, decide_false, if_true, Bool.false_eq_true, if_false, Bool.not_true, Bool.not_false, decide_eq_true_eq, Bool.not_eq_true', decide_eq_false_iff_not, Option.isSome, Option.map])
theorem P_short {n : Nat} {L : List Int} (h : L ∈ P n) (hn : n ≤ 8) : L.length ≤ 8 := by
  have := (P_mem _ _ h).1
  omega
theorem zip_typed (l m : List Int) : zipD (l.map D.int) (m.map D.int) = (l.zip m).map fun p => D.tup [.int p.1, .int p.2] := by
  unfold zipD
  rw [List.zipWith_map, List.zip, List.map_zipWith]
theorem inc_zip : ∀ (a : Int) (L : List Int), (a :: L).Pairwise (· < ·) → (((a :: L).zip L).all fun p => decide (p.1 < p.2)) = true
  | a, [], _ => rfl
  | a, b :: L, h => by
    have h1 := List.pairwise_cons.mp h
    rw [List.zip_cons_cons, List.all_cons, inc_zip b L h1.2, decide_eq_true (h1.1 b (List.mem_cons_self ..))]
    rfl
theorem inc_all {L : List Int} (h : L.Pairwise (· < ·)) : ((L.zip (L.drop 1)).all fun p => decide (p.1 < p.2)) = true := by
  cases L with
  | nil => rfl
  | cons a L => exact inc_zip a L h
def sp_are_rising : DSp := fun ds μ Q => ∃ L n, ds = [encI L] ∧ (L ∈ P n ∧ n ≤ 8) ∧ Q (.bl true) μ
theorem len_are_rising : ∀ ds μ Q, sp_are_rising ds μ Q → ds.length = (["values"] : List Str).length := by
  rintro ds μ Q ⟨L, n, rfl, _⟩
  rfl
def db_are_rising : DTS := (dRet (dOf sAll (dLc (diZip2 (dVar 0) (dSl (dVar 0) (doSome (dC (.int 1))) doNone)) (gdTup 2 (gdCons (gdName 1) (gdCons (gdName 2) gdNil))) dYes (dOp oLt (dVar 1) (dVar 2)) [1, 2])))
theorem pf_are_rising : ∀ ds μ Q, sp_are_rising ds μ Q → db_are_rising (retD Q) (startD ["values", "near", "far"] ds) μ := by
  rintro ds μ Q ⟨L, n, rfl, ⟨hL, hn⟩, h⟩
  show db_are_rising (retD Q) [some (encI L), none, none] μ
  have sl := P_short hL hn
  unfold db_are_rising
  walk_at "ev"
  simp -dsimp only [dLc, diZip2]
  walk_at "ev"
  simp -dsimp only [dSl, doNone, doSome]
  walk_at "ev"
  rw [show Dl.cutD (L.map D.int) (some 1) none = (L.drop 1).map D.int by cases L with | nil => rfl | cons a L => exact (cut_hi (xs := (a :: L).map D.int) (t := 1) (by simp)).trans List.map_drop.symm]
  rw [zip_typed]
  refine lc_tm (fun p => .bl (decide (p.1 < p.2))) held_nil (by rw [List.length_zip]; omega) (fun p hp μ' Qy sb q => ?_) ?_
  · simp -dsimp only [wipeD]
    walk_at "ev"
    exact q
  · refine sAll_ty (b := fun (p : Int × Int) => decide (p.1 < p.2)) ?_
    rw [inc_all (P_inc _ _ hL)]
    exact ⟨_, Mu.Sub.refl _, h⟩
def sp_is_lot : DSp := fun ds μ Q => ∃ (L : List Int) (n : Nat), ds = [encI L, .int ((n : Int) - 1)] ∧ (L ∈ P n ∧ n ≤ 8) ∧ Q (.bl true) μ
theorem len_is_lot : ∀ ds μ Q, sp_is_lot ds μ Q → ds.length = (["value", "most"] : List Str).length := by
  rintro ds μ Q ⟨L, n, rfl, _⟩
  rfl
def db_is_lot : DTS := (dRet (dAnd (dCall cIsi (daCons (dVar 0) (daCons (dC (.ty "tuple")) daNil))) (dAnd (dOf sAll (dLc (diSeq (dVar 0)) (gdName 2) dYes (dFn sp_is_within (daCons (dVar 2) (daCons (dC (.int 0)) (daCons (dVar 1) daNil)))) [2])) (dFn sp_are_rising (daCons (dVar 0) daNil)))))
theorem pf_is_lot : ∀ ds μ Q, sp_is_lot ds μ Q → db_is_lot (retD Q) (startD ["value", "most", "one"] ds) μ := by
  rintro ds μ Q ⟨L, n, rfl, ⟨hL, hn⟩, h⟩
  show db_is_lot (retD Q) [some (encI L), some (.int ((n : Int) - 1)), none] μ
  have sl := P_short hL hn
  have bd := (P_mem _ _ hL).2.2
  unfold db_is_lot
  walk_at "ev"
  simp -dsimp only [dLc, diSeq]
  walk_at "ev"
  refine lc_tm (fun _ => .bl true) held_nil (by omega) (fun v hv' μ' Qy hd q => ?_) ?_
  · simp -dsimp only [wipeD]
    walk_at "ev"
    have := bd v hv'
    show Qy (.bl (decide (0 ≤ v ∧ v ≤ (n : Int) - 1))) μ'
    rw [decide_eq_true (by omega)]
    exact q
  · refine sAll_ty (b := fun _ => true) ?_
    rw [all_yes]
    walk_at "ev"
    refine ⟨L, n, rfl, ⟨hL, hn⟩, ?_⟩
    exact ⟨_, Mu.Sub.refl _, h⟩
def sp_want_lot : DSp := fun ds μ Q => ∃ (L : List Int) (n : Nat), ds = [.int (n : Int), encI L] ∧ (L ∈ P n ∧ n ≤ 8) ∧ Q .non μ
theorem len_want_lot : ∀ ds μ Q, sp_want_lot ds μ Q → ds.length = (["many", "lot"] : List Str).length := by
  rintro ds μ Q ⟨L, n, rfl, _⟩
  rfl
def db_want_lot : DTS := (dIfS (dtNot (dTest (dFn sp_is_lot (daCons (dVar 1) (daCons (dOp oSub (dVar 0) (dC (.int 1))) daNil))))) dNever dNext)
theorem pf_want_lot : ∀ ds μ Q, sp_want_lot ds μ Q → db_want_lot (retD Q) (startD ["many", "lot"] ds) μ := by
  rintro ds μ Q ⟨L, n, rfl, hL, h⟩
  show db_want_lot (retD Q) [some (.int (n : Int)), some (encI L)] μ
  unfold db_want_lot
  walk_at "ev"
  refine ⟨L, n, rfl, hL, ?_⟩
  walk_at "ev"
  exact ⟨_, Mu.Sub.refl _, h⟩
theorem range_ran (n : Nat) : rangeD 0 (n : Int) = (ran n).map D.int := by
  unfold rangeD ran
  rw [List.map_map, Int.sub_zero, Int.toNat_natCast]
  refine List.map_congr_left fun a _ => ?_
  show D.int (0 + (a : Int)) = D.int a
  rw [Int.zero_add]
theorem ran_len (n : Nat) : (ran n).length = n := by
  unfold ran
  rw [List.length_map, List.length_range]
def sp_rest_of : DSp := fun ds μ Q => ∃ (L : List Int) (n : Nat), ds = [.int (n : Int), encI L] ∧ n ≤ 8 ∧ Q (encI (rst n L)) μ
theorem len_rest_of : ∀ ds μ Q, sp_rest_of ds μ Q → ds.length = (["many", "lot"] : List Str).length := by
  rintro ds μ Q ⟨L, n, rfl, _⟩
  rfl
def db_rest_of : DTS := (dRet (dOf sTup (dLc (diR1 (daCons (dVar 0) daNil)) (gdName 2) (dTest (dOp (oIn true) (dVar 2) (dVar 1))) (dVar 2) [2])))
theorem pf_rest_of : ∀ ds μ Q, sp_rest_of ds μ Q → db_rest_of (retD Q) (startD ["many", "lot", "one"] ds) μ := by
  rintro ds μ Q ⟨L, n, rfl, hn, h⟩
  show db_rest_of (retD Q) [some (.int (n : Int)), some (encI L), none] μ
  unfold db_rest_of
  walk_at "ev"
  simp -dsimp only [dLc, diR1]
  walk_at "ev"
  refine ⟨⟨by omega, by omega⟩, ?_⟩
  rw [range_ran]
  refine lc_ty (fun a => !decide (a ∈ L)) D.int held_nil (by rw [ran_len]; omega) (fun a ha μ4 Qy Qn sb4 q4 => ?_) ?_
  · simp -dsimp only [wipeD]
    walk_at "ev"
    refine ⟨L, rfl, ?_⟩
    walk_at "ev"
    by_cases m : a ∈ L
    · rw [if_neg (fun z => z m)]
      rw [decide_eq_true m] at q4
      exact q4
    · rw [if_pos m]
      rw [decide_eq_false m, if_pos (by decide)] at q4
      exact q4
  · walk_at "ev"
    exact ⟨_, Mu.Sub.refl _, h⟩
def sp_law_rest : DSp := fun ds μ Q => ∃ (L : List Int) (n : Nat), ds = [.int (n : Int), encI L] ∧ n ≤ 8 ∧ Q (encI (rst n L)) μ
theorem len_law_rest : ∀ ds μ Q, sp_law_rest ds μ Q → ds.length = (["many", "lot"] : List Str).length := by
  rintro ds μ Q ⟨L, n, rfl, _⟩
  rfl
def db_law_rest : DTS := (dRet (dOf sTup (dLc (diR1 (daCons (dVar 0) daNil)) (gdName 2) (dTest (dOp (oIn true) (dVar 2) (dVar 1))) (dVar 2) [2])))
theorem pf_law_rest : ∀ ds μ Q, sp_law_rest ds μ Q → db_law_rest (retD Q) (startD ["many", "lot", "one"] ds) μ := by
  rintro ds μ Q ⟨L, n, rfl, hn, h⟩
  show db_law_rest (retD Q) [some (.int (n : Int)), some (encI L), none] μ
  unfold db_law_rest
  walk_at "ev"
  simp -dsimp only [dLc, diR1]
  walk_at "ev"
  refine ⟨⟨by omega, by omega⟩, ?_⟩
  rw [range_ran]
  refine lc_ty (fun a => !decide (a ∈ L)) D.int held_nil (by rw [ran_len]; omega) (fun a ha μ4 Qy Qn sb4 q4 => ?_) ?_
  · simp -dsimp only [wipeD]
    walk_at "ev"
    refine ⟨L, rfl, ?_⟩
    walk_at "ev"
    by_cases m : a ∈ L
    · rw [if_neg (fun z => z m)]
      rw [decide_eq_true m] at q4
      exact q4
    · rw [if_pos m]
      rw [decide_eq_false m, if_pos (by decide)] at q4
      exact q4
  · walk_at "ev"
    exact ⟨_, Mu.Sub.refl _, h⟩
def sp_is_winning : DSp := fun ds μ Q => ∃ ss q L, ds = [encC ss q, encI L] ∧ (Cok ss q ∧ L ∈ P ss.length) ∧ Q (.bl (wn ss q L)) μ
theorem len_is_winning : ∀ ds μ Q, sp_is_winning ds μ Q → ds.length = (["council", "lot"] : List Str).length := by
  rintro ds μ Q ⟨ss, q, L, rfl, _⟩
  rfl
def db_is_winning : DTS := (dSeq (dDrop (dFn sp_want_council (daCons (dVar 0) daNil))) (dSeq (dDrop (dFn sp_want_lot (daCons (dCall cLen (daCons (dOp oIx (dVar 0) (dC (.int 1))) daNil)) (daCons (dVar 1) daNil)))) (dRet (dFn sp_is_won (daCons (dVar 0) (daCons (dVar 1) daNil))))))
theorem pf_is_winning : ∀ ds μ Q, sp_is_winning ds μ Q → db_is_winning (retD Q) (startD ["council", "lot"] ds) μ := by
  rintro ds μ Q ⟨ss, q, L, rfl, ⟨hc, hL⟩, h⟩
  show db_is_winning (retD Q) [some (encC ss q), some (encI L)] μ
  have hl := hc.len
  unfold db_is_winning
  refine sq fun U hU => ?_
  walk_at "ev"
  refine ⟨ss, q, rfl, hc, ?_⟩
  refine hU.go ?_
  clear hU
  refine sq fun U hU => ?_
  walk_at "ev"
  rw [List.length_map]
  refine ⟨L, ss.length, rfl, ⟨hL, by omega⟩, ?_⟩
  refine hU.go ?_
  walk_at "ev"
  exact ⟨ss, q, L, rfl, inL_P hL (by omega), _, Mu.Sub.refl _, h⟩
def sp_does_block : DSp := fun ds μ Q => ∃ ss q L, ds = [encC ss q, encI L] ∧ (Cok ss q ∧ L ∈ P ss.length) ∧ Q (.bl (!wn ss q (rst ss.length L))) μ
theorem len_does_block : ∀ ds μ Q, sp_does_block ds μ Q → ds.length = (["council", "lot"] : List Str).length := by
  rintro ds μ Q ⟨ss, q, L, rfl, _⟩
  rfl
def db_does_block : DTS := (dSeq (dDrop (dFn sp_want_council (daCons (dVar 0) daNil))) (dSeq (dDrop (dFn sp_want_lot (daCons (dCall cLen (daCons (dOp oIx (dVar 0) (dC (.int 1))) daNil)) (daCons (dVar 1) daNil)))) (dRet (dNot (dFn sp_is_won (daCons (dVar 0) (daCons (dFn sp_rest_of (daCons (dCall cLen (daCons (dOp oIx (dVar 0) (dC (.int 1))) daNil)) (daCons (dVar 1) daNil))) daNil)))))))
theorem pf_does_block : ∀ ds μ Q, sp_does_block ds μ Q → db_does_block (retD Q) (startD ["council", "lot"] ds) μ := by
  rintro ds μ Q ⟨ss, q, L, rfl, ⟨hc, hL⟩, h⟩
  show db_does_block (retD Q) [some (encC ss q), some (encI L)] μ
  have hl := hc.len
  unfold db_does_block
  refine sq fun U hU => ?_
  walk_at "ev"
  refine ⟨ss, q, rfl, hc, ?_⟩
  refine hU.go ?_
  clear hU
  refine sq fun U hU => ?_
  walk_at "ev"
  rw [List.length_map]
  refine ⟨L, ss.length, rfl, ⟨hL, by omega⟩, ?_⟩
  refine hU.go ?_
  walk_at "ev"
  rw [List.length_map]
  refine ⟨L, ss.length, rfl, by omega, ?_⟩
  refine ⟨ss, q, _, rfl, inL_P (rst_in _ _) (by omega), ?_⟩
  walk_at "ev"
  exact ⟨_, Mu.Sub.refl _, h⟩
end K93
namespace K93
open PySem PySem.Spec PyProof.Rows L2 Dl
local macro_rules | `(tactic| walk_at "ev") => `(tactic| try simp -dsimp only [↓dSeq_at, sp_is_within, sp_is_tuple, encI, encC, dRet, dRetN, dNext, dIfS, dAsg, dDrop, dPar, dNever, dVar, dC, dOp, dUn, dTest, dChain, dAnd, dOr, dNot, dIf, dtAnd, dtOr, dtNot, dTup, daNil, daCons, dCall, dFn, dFnK, dNew, dLst, dOf,
  gdName, gdTup, gdCons, gdNil, gdSub, rdI, rdI0, oPlus, oSub, oTimes, oDiv, oMod, oPow, oLt, oLe, oGt, oGe, oIx, oEq, oNe, uNeg, oIsN, oNotN, D.isNon, cAbs, cMax, cMin, cInt, cDivmod, cLen, cIsi, tyD, items, litems, retD, sTup, mApp, dYes,
  atI_0, atI_1, atI_2, atI_3, atI_4, ixN_20, ixN_21, kit_ii, kit_ib, kit_is, kit_it, kit_il, kit_bi, kit_bb, kit_bs, kit_bt, kit_bl, kit_si, kit_sb, kit_ss, kit_st, kit_sl, kit_ti, kit_tb, kit_ts, kit_tt, kit_tl, kit_li, kit_lb, kit_ls, kit_lt, kit_ll,
  List.getElem?_cons_zero, List.getElem?_cons_succ, List.set_cons_zero, List.set_cons_succ, List.length_cons, List.length_nil, Mu.upd_same, Mu.upd_upd, Nat.zero_add, Nat.reduceAdd, Nat.reduceLeDiff, natlit, Int.reduceEq, Int.reduceLT, Int.reduceLE, Int.reduceAdd, Int.reduceSub, Int.reduceMul, Int.reducePow, Int.reduceNeg, permG2_10, permG3_210, zl_0, zl_1, zl_2, zl_3, zl_4, zl_5, zl_6, zl_7, zl_8, zl_9, zl_10, zl_11, zl_12, zl_13, zl_14, zl_15, zl_16, zl_17, zl_18, zl_19, zl_20, true_and, and_true, eq_self, not_true_eq_false, not_false_eq_true, decide_true, decide_false, if_true, Bool.false_eq_true, if_false, Bool.not_true, Bool.not_false, decide_eq_true_eq, Bool.not_eq_true', decide_eq_false_iff_not, Option.isSome, Option.map])
theorem range_nat (n : Nat) : rangeD 0 (n : Int) = (List.range n).map fun (a : Nat) => D.int (a : Int) := by
  rw [range_ran]
  unfold ran
  rw [List.map_map]
  rfl
theorem any_cut (ss : List Int) (q : Int) (L : List Int) : ((List.range L.length).any fun t => wn ss q (L.take t ++ L.drop (t + 1))) = !(L.all fun a => decide (sm ss L - vt ss a < q)) := by
  rw [Bool.eq_iff_iff, List.any_eq_true, Bool.not_eq_true', List.all_eq_false]
  constructor
  · rintro ⟨t, ht, w⟩
    have tl := List.mem_range.mp ht
    have e : L[t]? = some L[t] := List.getElem?_eq_getElem tl
    have s := sm_cut (ss := ss) e
    have w := of_decide_eq_true w
    refine ⟨L[t], List.mem_of_getElem? e, ?_⟩
    simp only [decide_eq_true_eq]
    omega
  · rintro ⟨a, ha, w⟩
    obtain ⟨t, ht⟩ := List.getElem?_of_mem ha
    have s := sm_cut (ss := ss) ht
    simp only [decide_eq_true_eq] at w
    exact ⟨t, List.mem_range.mpr (List.getElem?_eq_some_iff.mp ht).1, decide_eq_true (by omega)⟩
def sp_least_won : DSp := fun ds μ Q => ∃ ss q, ds = [encC ss q] ∧ Cok ss q ∧ ∀ out : List (List Int), out.Perm (P ss.length) → Srt out → New ((out.filter (lst ss q)).map encI) μ Q
theorem len_least_won : ∀ ds μ Q, sp_least_won ds μ Q → ds.length = (["council"] : List Str).length := by
  rintro ds μ Q ⟨ss, q, rfl, _⟩
  rfl
def db_least_won : DTS := (dSeq (dAsg (dNew (dLst daNil)) (gdName 1)) (dSeq (dFor (diSeq (dFn sp_won_lots (daCons (dVar 0) daNil))) (gdName 2) (dIfS (dtNot (dTest (dOf sAny (dLc (diR1 (daCons (dCall cLen (daCons (dVar 2) daNil)) daNil)) (gdName 3) dYes (dFn sp_is_won (daCons (dVar 0) (daCons (dOp oPlus (dSl (dVar 2) doNone (doSome (dVar 3))) (dSl (dVar 2) (doSome (dOp oPlus (dVar 3) (dC (.int 1)))) doNone)) daNil))) [3])))) (dDrop (mApp (dVar 1) (dVar 2))) dNext)) (dRet (dVar 1))))
theorem pf_least_won : ∀ ds μ Q, sp_least_won ds μ Q → db_least_won (retD Q) (startD ["council", "found", "lot", "at"] ds) μ := by
  rintro ds μ Q ⟨ss, q, rfl, hc, h⟩
  show db_least_won (retD Q) [some (encC ss q), none, none, none] μ
  have hl := hc.len
  unfold db_least_won
  refine sq fun U hU => ?_
  walk_at "ev"
  intro f hf
  refine hU.go ?_
  clear hU
  refine sq fun U hU => ?_
  simp -dsimp only [dFor, diSeq]
  walk_at "ev"
  refine ⟨ss, q, rfl, hc, fun out ho hs w hw => ?_⟩
  simp -dsimp only [lsrc]
  walk_at "ev"
  have fw : f ≠ w := Mu.ne_of (μ := μ.upd f []) Mu.upd_same hw
  have ol : out.length = 2 ^ ss.length := by
    rw [ho.length_eq]
    exact P_len _
  have p8 : 2 ^ ss.length ≤ 2 ^ 8 := Nat.pow_le_pow_right (by decide) (by omega)
  have lf := List.length_filter_le (wn ss q) out
  refine ⟨fun i ρ' μ' => ∃ u2, ρ' = [some (encC ss q), some (.cell f), u2, none] ∧ Mu.Sub μ μ' ∧ μ' w = some ((out.filter (wn ss q)).map encI) ∧ μ' f = some ((((out.filter (wn ss q)).take i).filter (lst ss q)).map encI),
    ⟨none, rfl, (Mu.sub_upd hf).trans (Mu.sub_upd hw), Mu.upd_same, Mu.keep Mu.upd_same hw⟩, fun i x ρ' μ' hi w2 => ?_, fun ρ' μ' w2 => ?_⟩
  · obtain ⟨u2, rfl, sb, ew, ef⟩ := w2
    refine ⟨held_one ew, ?_⟩
    have hi : ((out.filter (wn ss q)).map encI)[i]? = some x := hi
    rw [List.getElem?_map] at hi
    obtain ⟨L, hiL, rfl⟩ := Option.map_eq_some_iff.mp hi
    have hLm := List.mem_of_getElem? hiL
    have won := (List.mem_filter.mp hLm).2
    have lP : L ∈ P ss.length := ho.mem_iff.mp (List.mem_filter.mp hLm).1
    have li := inL_P (ss := ss) lP (by omega)
    have sl := P_short lP (by omega)
    have et : (out.filter (wn ss q)).take (i + 1) = (out.filter (wn ss q)).take i ++ [L] := by rw [List.take_add_one, hiL]; rfl
    walk_at "ev"
    simp -dsimp only [dLc, diR1]
    walk_at "ev"
    rw [List.length_map]
    refine ⟨⟨by omega, by omega⟩, ?_⟩
    rw [range_nat]
    refine lc_tm (fun t => .bl (wn ss q (L.take t ++ L.drop (t + 1)))) held_nil (by rw [List.length_range]; omega) (fun t ht μ' Qy sb q2 => ?_) ?_
    · have tl := List.mem_range.mp ht
      simp -dsimp only [wipeD]
      walk_at "ev"
      simp -dsimp only [dSl, doNone, doSome]
      walk_at "ev"
      have ci := inL_cut li t
      refine ⟨?_, ?_⟩
      · rw [← List.length_append, cut_enc tl, List.length_map]
        exact sz1000 (by have := ci.1; omega)
      rw [cut_enc tl]
      exact ⟨ss, q, _, rfl, ci, q2⟩
    · refine sAny_ty (b := fun t => wn ss q (L.take t ++ L.drop (t + 1))) ?_
      rw [any_cut]
      walk_at "ev"
      have hlst : lst ss q L = L.all fun a => decide (sm ss L - vt ss a < q) := by
        unfold lst
        rw [won, Bool.true_and]
      rw [← hlst]
      by_cases e : lst ss q L = true
      · rw [if_pos (by simpa using e)]
        refine ⟨by rw [ef], _, ef, ?_, ?_⟩
        · refine sz_lt ?_
          rw [List.length_map]
          have a1 := List.length_filter_le (lst ss q) ((out.filter (wn ss q)).take i)
          rw [List.length_take] at a1
          omega
        · refine ⟨_, rfl, put sb (none_of (Mu.Sub.refl _) hf), (Mu.upd_ne fw.symm).trans ew, ?_⟩
          rw [et, List.filter_append, List.map_append, List.filter_cons_of_pos e]
          rfl
      · rw [if_neg (by simpa using e)]
        refine ⟨_, rfl, sb, ew, ?_⟩
        rw [et, List.filter_append, List.filter_cons_of_neg e, List.filter_nil, List.append_nil]
        exact ef
  · obtain ⟨u2, rfl, sb, ew, ef⟩ := w2
    refine ⟨held_one ew, ?_⟩
    have ef : μ' f = some ((((out.filter (wn ss q)).take ((out.filter (wn ss q)).map encI).length).filter (lst ss q)).map encI) := ef
    rw [List.length_map, List.take_length, List.filter_filter] at ef
    have e2 : out.filter (fun a => lst ss q a && wn ss q a) = out.filter (lst ss q) := List.filter_congr fun L _ => by
      cases e : lst ss q L with
      | false => rfl
      | true => rw [lst_wn e]; rfl
    rw [e2] at ef
    refine hU.go ?_
    walk_at "ev"
    exact ⟨_, sub_cell sb hf ef, h out ho hs f hf⟩
def sp_least_winning : DSp := fun ds μ Q => ∃ ss q, ds = [encC ss q] ∧ Cok ss q ∧ ∀ out : List (List Int), out.Perm (P ss.length) → Srt out → New ((out.filter (lst ss q)).map encI) μ Q
theorem len_least_winning : ∀ ds μ Q, sp_least_winning ds μ Q → ds.length = (["council"] : List Str).length := by
  rintro ds μ Q ⟨ss, q, rfl, _⟩
  rfl
def db_least_winning : DTS := (dSeq (dDrop (dFn sp_want_council (daCons (dVar 0) daNil))) (dRet (dFn sp_least_won (daCons (dVar 0) daNil))))
theorem pf_least_winning : ∀ ds μ Q, sp_least_winning ds μ Q → db_least_winning (retD Q) (startD ["council"] ds) μ := by
  rintro ds μ Q ⟨ss, q, rfl, hc, h⟩
  show db_least_winning (retD Q) [some (encC ss q)] μ
  unfold db_least_winning
  refine sq fun U hU => ?_
  walk_at "ev"
  refine ⟨ss, q, rfl, hc, ?_⟩
  refine hU.go ?_
  walk_at "ev"
  exact ⟨ss, q, rfl, hc, fun out ho hs k hk => ⟨_, Mu.Sub.refl _, h out ho hs k hk⟩⟩
def sp_idle_lists : DSp := fun ds μ Q => ∃ ss q, ds = [encC ss q] ∧ Cok ss q ∧ Q (encI (idq ss q)) μ
theorem len_idle_lists : ∀ ds μ Q, sp_idle_lists ds μ Q → ds.length = (["council"] : List Str).length := by
  rintro ds μ Q ⟨ss, q, rfl, _⟩
  rfl
theorem enum_acc (n : Nat) (f : Int → Int) : enumD (accD n f) = (ran n).map fun i => .tup [.int i, .int (f i)] := by
  unfold enumD accD ran
  rw [List.map_map]
  refine List.ext_getElem? fun j => ?_
  rw [List.getElem?_map, List.getElem?_zipIdx, List.getElem?_map, List.getElem?_map]
  by_cases h : j < n
  · rw [List.getElem?_range h]
    simp
  · rw [List.getElem?_eq_none (by rw [List.length_range]; omega)]
    rfl
def db_idle_lists : DTS := (dSeq (dDrop (dFn sp_want_council (daCons (dVar 0) daNil))) (dRet (dOf sTup (dLc (diEnum2 (dFn sp_swings_of (daCons (dVar 0) daNil))) (gdTup 2 (gdCons (gdName 1) (gdCons (gdName 2) gdNil))) (dTest (dOp oEq (dVar 2) (dC (.int 0)))) (dVar 1) [1, 2]))))
theorem pf_idle_lists : ∀ ds μ Q, sp_idle_lists ds μ Q → db_idle_lists (retD Q) (startD ["council", "one", "many"] ds) μ := by
  rintro ds μ Q ⟨ss, q, rfl, hc, h⟩
  show db_idle_lists (retD Q) [some (encC ss q), none, none] μ
  have hl := hc.len
  unfold db_idle_lists
  refine sq fun U hU => ?_
  walk_at "ev"
  refine ⟨ss, q, rfl, hc, ?_⟩
  refine hU.go ?_
  walk_at "ev"
  simp -dsimp only [dLc, diEnum2]
  walk_at "ev"
  refine ⟨ss, q, rfl, hc, fun k hk => ?_⟩
  simp -dsimp only [lsrc]
  walk_at "ev"
  rw [enum_acc]
  refine lc_ty (fun i => decide (cnt ss q i = 0)) D.int (held_one Mu.upd_same) (by rw [ran_len]; omega) (fun i hi μ4 Qy Qn sb4 q4 => ?_) ?_
  · simp -dsimp only [wipeD]
    walk_at "ev"
    by_cases e : cnt ss q i = 0
    · rw [if_pos (decide_eq_true e)] at q4
      have e : S ss q (fun _ => 1) (P ss.length) i = 0 := e
      rw [if_pos e]
      exact q4
    · rw [if_neg (by simpa using e)] at q4
      have e : ¬ S ss q (fun _ => 1) (P ss.length) i = 0 := e
      rw [if_neg e]
      exact q4
  · walk_at "ev"
    exact ⟨_, Mu.sub_upd hk, h⟩
end K93
namespace K93
open PySem PySem.Spec PyProof.Rows L2 Dl
local macro_rules | `(tactic| walk_at "ev") => `(tactic| try simp -dsimp only [↓dSeq_at, sp_is_within, sp_is_tuple, encI, encC, dRet, dRetN, dNext, dIfS, dAsg, dDrop, dPar, dNever, dVar, dC, dOp, dUn, dTest, dChain, dAnd, dOr, dNot, dIf, dtAnd, dtOr, dtNot, dTup, daNil, daCons, dCall, dFn, dFnK, dNew, dLst, dOf,
  gdName, gdTup, gdCons, gdNil, gdSub, rdI, rdI0, oPlus, oSub, oTimes, oDiv, oMod, oPow, oLt, oLe, oGt, oGe, oIx, oEq, oNe, uNeg, oIsN, oNotN, D.isNon, cAbs, cMax, cMin, cInt, cDivmod, cLen, cIsi, tyD, items, litems, retD, sTup, mApp, dYes,
  atI_0, atI_1, atI_2, atI_3, atI_4, ixN_20, ixN_21, kit_ii, kit_ib, kit_is, kit_it, kit_il, kit_bi, kit_bb, kit_bs, kit_bt, kit_bl, kit_si, kit_sb, kit_ss, kit_st, kit_sl, kit_ti, kit_tb, kit_ts, kit_tt, kit_tl, kit_li, kit_lb, kit_ls, kit_lt, kit_ll,
  List.getElem?_cons_zero, List.getElem?_cons_succ, List.set_cons_zero, List.set_cons_succ, List.length_cons, List.length_nil, Mu.upd_same, Mu.upd_upd, Nat.zero_add, Nat.reduceAdd, Nat.reduceLeDiff, natlit, Int.reduceEq, Int.reduceLT, Int.reduceLE, Int.reduceAdd, Int.reduceSub, Int.reduceMul, Int.reducePow, Int.reduceNeg, permG2_10, permG3_210, zl_0, zl_1, zl_2, zl_3, zl_4, zl_5, zl_6, zl_7, zl_8, zl_9, zl_10, zl_11, zl_12, zl_13, zl_14, zl_15, zl_16, zl_17, zl_18, zl_19, zl_20, true_and, and_true, eq_self, not_true_eq_false, not_false_eq_true, decide_true, decide_false, if_true, Bool.false_eq_true, if_false, Bool.not_true, Bool.not_false, decide_eq_true_eq, Bool.not_eq_true', decide_eq_false_iff_not, Option.isSome, Option.map])
def sp_veto_lists : DSp := fun ds μ Q => ∃ ss q, ds = [encC ss q] ∧ Cok ss q ∧ Q (encI (vtl ss q)) μ
theorem len_veto_lists : ∀ ds μ Q, sp_veto_lists ds μ Q → ds.length = (["council"] : List Str).length := by
  rintro ds μ Q ⟨ss, q, rfl, _⟩
  rfl
theorem P_many {ss : List Int} {q : Int} (hc : Cok ss q) {out : List (List Int)} (ho : out.Perm (P ss.length)) : out.length ≤ 256 := by
  have hl := hc.len
  have ol : out.length = 2 ^ ss.length := by
    rw [ho.length_eq]
    exact P_len _
  have p8 : 2 ^ ss.length ≤ 2 ^ 8 := Nat.pow_le_pow_right (by decide) (by omega)
  omega
def db_veto_lists : DTS := (dSeq (dDrop (dFn sp_want_council (daCons (dVar 0) daNil))) (dSeq (dAsg (dFn sp_least_won (daCons (dVar 0) daNil)) (gdName 1)) (dRet (dOf sTup (dLc (diR1 (daCons (dCall cLen (daCons (dOp oIx (dVar 0) (dC (.int 1))) daNil)) daNil)) (gdName 2) (dTest (dOf sAll (dLc (diSeq (dVar 1)) (gdName 3) dYes (dOp (oIn false) (dVar 2) (dVar 3)) [3]))) (dVar 2) [2])))))
theorem pf_veto_lists : ∀ ds μ Q, sp_veto_lists ds μ Q → db_veto_lists (retD Q) (startD ["council", "some", "one", "lot"] ds) μ := by
  rintro ds μ Q ⟨ss, q, rfl, hc, h⟩
  show db_veto_lists (retD Q) [some (encC ss q), none, none, none] μ
  have hl := hc.len
  unfold db_veto_lists
  refine sq fun U hU => ?_
  walk_at "ev"
  refine ⟨ss, q, rfl, hc, ?_⟩
  refine hU.go ?_
  clear hU
  refine sq fun U hU => ?_
  walk_at "ev"
  refine ⟨ss, q, rfl, hc, fun out ho hs k hk => ?_⟩
  refine hU.go ?_
  clear hU
  have pm := P_many hc ho
  have fl := List.length_filter_le (lst ss q) out
  have ek : (μ.upd k ((out.filter (lst ss q)).map encI)) k = some ((out.filter (lst ss q)).map encI) := Mu.upd_same
  have sb := Mu.sub_upd (xs := (out.filter (lst ss q)).map encI) hk
  generalize μ.upd k ((out.filter (lst ss q)).map encI) = ν at ek sb ⊢
  walk_at "ev"
  simp -dsimp only [dLc, diR1]
  walk_at "ev"
  rw [List.length_map]
  refine ⟨⟨by omega, by omega⟩, ?_⟩
  rw [range_ran]
  refine lc_ty (vto ss q) D.int (held_nil) (by rw [ran_len]; omega) (fun i hi μ4 Qy Qn sb4 q4 => ?_) ?_
  · simp -dsimp only [wipeD]
    walk_at "ev"
    simp -dsimp only [dLc, diSeq]
    walk_at "ev"
    simp -dsimp only [lsrc]
    have e4 := sb4 _ _ ek
    rw [e4]
    walk_at "ev"
    refine lc_tm (fun L => .bl (decide (i ∈ L))) (held_one e4) (by omega) (fun L hL μ5 Qy5 sb5 q5 => ?_) ?_
    · simp -dsimp only [wipeD]
      walk_at "ev"
      exact ⟨L, rfl, q5⟩
    · refine sAll_ty (b := fun L => decide (i ∈ L)) ?_
      rw [veto_least ho i]
      walk_at "ev"
      exact q4
  · walk_at "ev"
    exact ⟨_, sb, h⟩
def sp_dictator : DSp := fun ds μ Q => ∃ ss q, ds = [encC ss q] ∧ Cok ss q ∧ Q (dct ss q) μ
theorem len_dictator : ∀ ds μ Q, sp_dictator ds μ Q → ds.length = (["council"] : List Str).length := by
  rintro ds μ Q ⟨ss, q, rfl, _⟩
  rfl
def db_dictator : DTS := (dSeq (dDrop (dFn sp_want_council (daCons (dVar 0) daNil))) (dSeq (dAsg (dFn sp_least_won (daCons (dVar 0) daNil)) (gdName 1)) (dRet (dIf (dtAnd (dTest (dOp oEq (dCall cLen (daCons (dVar 1) daNil)) (dC (.int 1)))) (dTest (dOp oEq (dCall cLen (daCons (dOp oIx (dVar 1) (dC (.int 0))) daNil)) (dC (.int 1))))) (dOp oIx (dOp oIx (dVar 1) (dC (.int 0))) (dC (.int 0))) (dC .non)))))
theorem pf_dictator : ∀ ds μ Q, sp_dictator ds μ Q → db_dictator (retD Q) (startD ["council", "some"] ds) μ := by
  rintro ds μ Q ⟨ss, q, rfl, hc, h⟩
  show db_dictator (retD Q) [some (encC ss q), none] μ
  have hl := hc.len
  unfold db_dictator
  refine sq fun U hU => ?_
  walk_at "ev"
  refine ⟨ss, q, rfl, hc, ?_⟩
  refine hU.go ?_
  clear hU
  refine sq fun U hU => ?_
  walk_at "ev"
  refine ⟨ss, q, rfl, hc, fun out ho hs k hk => ?_⟩
  refine hU.go ?_
  clear hU
  have ek : (μ.upd k ((out.filter (lst ss q)).map encI)) k = some ((out.filter (lst ss q)).map encI) := Mu.upd_same
  have sb := Mu.sub_upd (xs := (out.filter (lst ss q)).map encI) hk
  generalize μ.upd k ((out.filter (lst ss q)).map encI) = ν at ek sb ⊢
  unfold dct at h
  cases e : hds ss q with
  | cons i r =>
    rw [e] at h
    rw [dict_some hc e ho] at ek
    walk_at "ev"
    rw [ek]
    walk_at "ev"
    exact ⟨_, sb, h⟩
  | nil =>
    rw [e] at h
    have no := fun j => dict_none (ss := ss) (q := q) e ho (j := j)
    generalize out.filter (lst ss q) = fs at ek no
    walk_at "ev"
    rw [ek]
    walk_at "ev"
    rw [List.length_map]
    match fs, ek, no with
    | [], _, _ =>
      rw [if_neg (by decide)]
      exact ⟨_, sb, h⟩
    | [M], ek, no =>
      rw [if_pos (show ((([M] : List (List Int)).length : Nat) : Int) = 1 from rfl), List.map_cons]
      walk_at "ev"
      match M, no with
      | [], _ =>
        rw [if_neg (by decide)]
        exact ⟨_, sb, h⟩
      | [j], no => exact (no j rfl).elim
      | a :: b :: M, _ =>
        rw [if_neg (by simp only [List.length_map, List.length_cons]; omega)]
        exact ⟨_, sb, h⟩
    | A :: B :: fs, _, _ =>
      rw [if_neg (by simp only [List.length_cons]; omega)]
      exact ⟨_, sb, h⟩
def sp_is_proper : DSp := fun ds μ Q => ∃ ss q, ds = [encC ss q] ∧ Cok ss q ∧ Q (.bl (prp ss q)) μ
theorem len_is_proper : ∀ ds μ Q, sp_is_proper ds μ Q → ds.length = (["council"] : List Str).length := by
  rintro ds μ Q ⟨ss, q, rfl, _⟩
  rfl
def db_is_proper : DTS := (dSeq (dDrop (dFn sp_want_council (daCons (dVar 0) daNil))) (dSeq (dAsg (dCall cLen (daCons (dOp oIx (dVar 0) (dC (.int 1))) daNil)) (gdName 1)) (dRet (dNot (dOf sAny (dLc (diSeq (dFn sp_won_lots (daCons (dVar 0) daNil))) (gdName 2) dYes (dFn sp_is_won (daCons (dVar 0) (daCons (dFn sp_rest_of (daCons (dVar 1) (daCons (dVar 2) daNil))) daNil))) [2]))))))
theorem pf_is_proper : ∀ ds μ Q, sp_is_proper ds μ Q → db_is_proper (retD Q) (startD ["council", "many", "lot"] ds) μ := by
  rintro ds μ Q ⟨ss, q, rfl, hc, h⟩
  show db_is_proper (retD Q) [some (encC ss q), none, none] μ
  have hl := hc.len
  unfold db_is_proper
  refine sq fun U hU => ?_
  walk_at "ev"
  refine ⟨ss, q, rfl, hc, ?_⟩
  refine hU.go ?_
  clear hU
  refine sq fun U hU => ?_
  walk_at "ev"
  rw [List.length_map]
  refine hU.go ?_
  clear hU
  walk_at "ev"
  simp -dsimp only [dLc, diSeq]
  walk_at "ev"
  refine ⟨ss, q, rfl, hc, fun out ho hs k hk => ?_⟩
  have pm := P_many hc ho
  have fl := List.length_filter_le (wn ss q) out
  simp -dsimp only [lsrc]
  walk_at "ev"
  refine lc_tm (fun L => .bl (wn ss q (rst ss.length L))) (held_one Mu.upd_same) (by omega) (fun L hL μ5 Qy5 sb5 q5 => ?_) ?_
  · simp -dsimp only [wipeD]
    walk_at "ev"
    refine ⟨L, ss.length, rfl, by omega, ?_⟩
    refine ⟨ss, q, _, rfl, inL_P (rst_in _ _) (by omega), q5⟩
  · refine sAny_ty (b := fun L => wn ss q (rst ss.length L)) ?_
    walk_at "ev"
    rw [prp_won ho]
    exact ⟨_, Mu.sub_upd hk, h⟩
def sp_is_deciding : DSp := fun ds μ Q => ∃ ss q, ds = [encC ss q] ∧ Cok ss q ∧ Q (.bl (dcd ss q)) μ
theorem len_is_deciding : ∀ ds μ Q, sp_is_deciding ds μ Q → ds.length = (["council"] : List Str).length := by
  rintro ds μ Q ⟨ss, q, rfl, _⟩
  rfl
theorem ne_bl {a b : Bool} {μ : Mu} {Q : DK} (h : Q (.bl (a != b)) μ) : oNe (.bl a) (.bl b) μ Q := by
  show Q (.bl (!decide (a = b))) μ
  cases a <;> cases b <;> exact h
def db_is_deciding : DTS := (dSeq (dDrop (dFn sp_want_council (daCons (dVar 0) daNil))) (dSeq (dAsg (dCall cLen (daCons (dOp oIx (dVar 0) (dC (.int 1))) daNil)) (gdName 1)) (dRet (dOf sAll (dLc (diSeq (dFn sp_all_lots (daCons (dVar 1) daNil))) (gdName 2) dYes (dOp oNe (dFn sp_is_won (daCons (dVar 0) (daCons (dVar 2) daNil))) (dFn sp_is_won (daCons (dVar 0) (daCons (dFn sp_rest_of (daCons (dVar 1) (daCons (dVar 2) daNil))) daNil)))) [2])))))
theorem pf_is_deciding : ∀ ds μ Q, sp_is_deciding ds μ Q → db_is_deciding (retD Q) (startD ["council", "many", "lot"] ds) μ := by
  rintro ds μ Q ⟨ss, q, rfl, hc, h⟩
  show db_is_deciding (retD Q) [some (encC ss q), none, none] μ
  have hl := hc.len
  unfold db_is_deciding
  refine sq fun U hU => ?_
  walk_at "ev"
  refine ⟨ss, q, rfl, hc, ?_⟩
  refine hU.go ?_
  clear hU
  refine sq fun U hU => ?_
  walk_at "ev"
  rw [List.length_map]
  refine hU.go ?_
  clear hU
  walk_at "ev"
  simp -dsimp only [dLc, diSeq]
  walk_at "ev"
  refine ⟨⟨by omega, by omega⟩, fun out ho hs k hk => ?_⟩
  rw [Int.toNat_natCast] at ho
  have pm := P_many hc ho
  simp -dsimp only [lsrc]
  walk_at "ev"
  refine lc_tm (fun L => .bl (wn ss q L != wn ss q (rst ss.length L))) (held_one Mu.upd_same) (by omega) (fun L hL μ5 Qy5 sb5 q5 => ?_) ?_
  · have lP := ho.mem_iff.mp hL
    simp -dsimp only [wipeD]
    walk_at "ev"
    refine ⟨ss, q, L, rfl, inL_P lP (by omega), ?_⟩
    refine ⟨L, ss.length, rfl, by omega, ?_⟩
    refine ⟨ss, q, _, rfl, inL_P (rst_in _ _) (by omega), ?_⟩
    exact ne_bl q5
  · refine sAll_ty (b := fun L => wn ss q L != wn ss q (rst ss.length L)) ?_
    rw [dcd_all ho]
    exact ⟨_, Mu.sub_upd hk, h⟩
end K93
namespace K93
open PySem PySem.Spec PyProof.Rows L2 Dl
def pyC (ss : List Int) (q : Int) : PyData := .tuple [.str "council", .tuple (ss.map PyData.int), .int q]
theorem rp_enc {μ : Mu} {ss : List Int} {q : Int} (hc : Cok ss q) : RpOk μ (encC ss q) (pyC ss q) 100 3 := by
  have hl := hc.len
  have hq := hc.q
  have sn := sum_nn ss hc.v
  have h := RpAll.map (μ := μ) (f := D.int) (g := PyData.int) (c := 0) (dep := 0) (xs := ss) fun v hv => by
    have := hc.v v hv
    exact .int (by omega)
  refine (RpOk.tup (.cons (RpOk.str (x := "council") (by decide)) (.cons (RpOk.tup h) (.cons (.int (by omega)) .nil)))).mono ?_ (by omega)
  have e : (("council" : Str).cps.size) = 7 := by decide
  omega
def pyI (L : List Int) : PyData := .tuple (L.map PyData.int)
theorem rp_lot {μ : Mu} {n : Nat} {L : List Int} (h : L ∈ P n) (hn : n ≤ 8) : RpOk μ (encI L) (pyI L) 10 1 := by
  have sl := P_short h hn
  have b := (P_mem _ _ h).2.2
  have h := RpAll.map (μ := μ) (f := D.int) (g := PyData.int) (c := 0) (dep := 0) (xs := L) fun v hv => by
    have := b v hv
    exact .int (by omega)
  exact (RpOk.tup h).mono (by omega) (by omega)
def pyD (ss : List Int) (q : Int) : PyData := match hds ss q with | i :: _ => .int i | [] => .none
theorem rp_dct {μ : Mu} {ss : List Int} {q : Int} (hc : Cok ss q) : RpOk μ (dct ss q) (pyD ss q) 0 0 := by
  have hl := hc.len
  unfold dct pyD
  cases e : hds ss q with
  | nil => exact .non
  | cons i r =>
    have m : i ∈ hds ss q := by rw [e]; exact List.mem_cons_self ..
    have b := mem_ran.mp (List.mem_filter.mp (List.mem_filter.mp m).1).1
    exact .int (by omega)
theorem idq_in (ss : List Int) (q : Int) : idq ss q ∈ P ss.length := P_filter _ _ _ (ran_in _)
theorem vtl_in (ss : List Int) (q : Int) : vtl ss q ∈ P ss.length := P_filter _ _ _ (ran_in _)
/-- what is told -/
def all5 (ss : List Int) (q : Int) : List D := [encI (idq ss q), encI (vtl ss q), dct ss q, .bl (prp ss q), .bl (dcd ss q)]
def py5 (ss : List Int) (q : Int) : List PyData := [pyI (idq ss q), pyI (vtl ss q), pyD ss q, .bool (prp ss q), .bool (dcd ss q)]
theorem rp_all5 {μ : Mu} {ss : List Int} {q : Int} (hc : Cok ss q) : RpAll μ (all5 ss q) (py5 ss q) 50 1 := by
  have hl := hc.len
  have h := RpAll.cons (rp_lot (μ := μ) (idq_in ss q) (by omega)) (.cons (rp_lot (vtl_in ss q) (by omega)) (.cons (rp_dct hc) (.cons (.bl (prp ss q)) (.cons (.bl (dcd ss q)) .nil))))
  exact ⟨h.rs, h.sh, h.nd, h.ls, Nat.le_trans h.bk (by decide), Nat.le_trans h.dp (by decide)⟩
theorem eq_lot {μ : Mu} (L : List Int) : EqOk μ (encI L) (pyI L) 1 := .tup (.map fun v _ => .int v)
theorem eqv_nil {β : Type} (f : β → PyData) (l : List β) : PyData.eqv (.list (l.map f)) (.list []) = l.isEmpty := by
  cases l with
  | nil => rfl
  | cons a l => simp [PyData.eqv, PyData.eqvAll]
theorem inL_filter {ss L : List Int} (h : inL ss L) (p : Int → Bool) : inL ss (L.filter p) := by
  refine ⟨Nat.le_trans (List.length_filter_le _ _) h.1, fun i hi => h.2 i (List.mem_filter.mp hi).1⟩
theorem hit_off {ss : List Int} {q i : Int} {L : List Int} (nd : L.Nodup) (m : i ∈ L) (w : wn ss q L = true) : hit ss q L i = !wn ss q (off i L) := by
  unfold hit wn
  rw [sm_off nd m, decide_eq_true m, decide_eq_true (of_decide_eq_true w), Bool.true_and, Bool.true_and, ← decide_not]
  exact decide_eq_decide.mpr (by omega)
theorem rows_nil {ss : List Int} {q i : Int} {out : List (List Int)} (ho : out.Perm (P ss.length)) : (out.filter fun L => hit ss q L i).isEmpty = decide (cnt ss q i = 0) := by
  rw [Bool.eq_iff_iff, List.isEmpty_iff, decide_eq_true_eq, List.filter_eq_nil_iff]
  unfold cnt
  rw [S_zero]
  exact ⟨fun h L hL => by simpa using h L (ho.mem_iff.mpr hL), fun h L hL => by simpa using h L (ho.mem_iff.mp hL)⟩
end K93
namespace K93
open PySem PySem.Spec PyProof.Rows L2 Dl
local macro_rules | `(tactic| walk_at "ev") => `(tactic| try simp -dsimp only [↓dSeq_at, sp_is_within, sp_is_tuple, encI, encC, dRet, dRetN, dNext, dIfS, dAsg, dDrop, dPar, dNever, dVar, dC, dOp, dUn, dTest, dChain, dAnd, dOr, dNot, dIf, dtAnd, dtOr, dtNot, dTup, daNil, daCons, dCall, dFn, dFnK, dNew, dLst, dOf,
  gdName, gdTup, gdCons, gdNil, gdSub, rdI, rdI0, oPlus, oSub, oTimes, oDiv, oMod, oPow, oLt, oLe, oGt, oGe, oIx, oEq, oNe, uNeg, oIsN, oNotN, D.isNon, cAbs, cMax, cMin, cInt, cDivmod, cLen, cIsi, tyD, items, litems, retD, sTup, mApp, dYes,
  atI_0, atI_1, atI_2, atI_3, atI_4, ixN_20, ixN_21, kit_ii, kit_ib, kit_is, kit_it, kit_il, kit_bi, kit_bb, kit_bs, kit_bt, kit_bl, kit_si, kit_sb, kit_ss, kit_st, kit_sl, kit_ti, kit_tb, kit_ts, kit_tt, kit_tl, kit_li, kit_lb, kit_ls, kit_lt, kit_ll,
  List.getElem?_cons_zero, List.getElem?_cons_succ, List.set_cons_zero, List.set_cons_succ, List.length_cons, List.length_nil, Mu.upd_same, Mu.upd_upd, Nat.zero_add, Nat.reduceAdd, Nat.reduceLeDiff, natlit, Int.reduceEq, Int.reduceLT, Int.reduceLE, Int.reduceAdd, Int.reduceSub, Int.reduceMul, Int.reducePow, Int.reduceNeg, permG2_10, permG3_210, zl_0, zl_1, zl_2, zl_3, zl_4, zl_5, zl_6, zl_7, zl_8, zl_9, zl_10, zl_11, zl_12, zl_13, zl_14, zl_15, zl_16, zl_17, zl_18, zl_19, zl_20, true_and, and_true, eq_self, not_true_eq_false, not_false_eq_true, decide_true, decide_false, if_true, Bool.false_eq_true, if_false, Bool.not_true, Bool.not_false, decide_eq_true_eq, Bool.not_eq_true', decide_eq_false_iff_not, Option.isSome, Option.map])
def sp_law_right : DSp := fun ds μ Q => ∃ ss q, ds = [encC ss q] ∧ Cok ss q ∧ Q (.bl true) μ
theorem len_law_right : ∀ ds μ Q, sp_law_right ds μ Q → ds.length = (["council"] : List Str).length := by
  rintro ds μ Q ⟨ss, q, rfl, _⟩
  rfl
theorem idq_step {ss : List Int} {q : Int} {i : Nat} (h : i < ss.length) : ((ran ss.length).take (i + 1)).filter (fun i => decide (cnt ss q i = 0)) = ((ran ss.length).take i).filter (fun i => decide (cnt ss q i = 0)) ++ if cnt ss q (i : Int) = 0 then [(i : Int)] else [] := by
  have e : (ran ss.length)[i]? = some (i : Int) := by
    unfold ran
    rw [List.getElem?_map, List.getElem?_range h]
    rfl
  rw [List.take_add_one, e, List.filter_append]
  refine congrArg _ ?_
  show [(i : Int)].filter _ = _
  by_cases z : cnt ss q (i : Int) = 0
  · rw [if_pos z, List.filter_cons, if_pos (decide_eq_true z)]
    rfl
  · rw [if_neg z, List.filter_cons, if_neg (by simpa using z)]
    rfl
def db_law_right : DTS := (dSeq (dAsg (dTup (daCons (dCall cRepr (daCons (dVar 0) daNil)) (daCons (dCall cLen (daCons (dOp oIx (dVar 0) (dC (.int 1))) daNil)) daNil))) (gdTup 2 (gdCons (gdName 1) (gdCons (gdName 2) gdNil)))) (dSeq (dAsg (dFn sp_law_lots (daCons (dVar 2) daNil)) (gdName 3)) (dSeq (dAsg (dNew (dLst daNil)) (gdName 4)) (dSeq (dFor (diR1 (daCons (dVar 2) daNil)) (gdName 5) (dSeq (dAsg (dNew (dLc (diSeq (dVar 3)) (gdName 7) (dtAnd (dTest (dOp (oIn false) (dVar 5) (dVar 7))) (dtAnd (dTest (dFn sp_law_wins (daCons (dVar 0) (daCons (dVar 7) daNil)))) (dtNot (dTest (dFn sp_law_wins (daCons (dVar 0) (daCons (dOf sTup (dLc (diSeq (dVar 7)) (gdName 8) (dTest (dOp oNe (dVar 8) (dVar 5))) (dVar 8) [8])) daNil))))))) (dVar 7) [7])) (gdName 6)) (dDrop (mExtL (dVar 4) (dIfL (dTest (dOp oEq (dVar 6) (dNew (dLst daNil)))) (dLst (daCons (dVar 5) daNil)) (dLst daNil)))))) (dSeq (dAsg (dNew (dLc (diR1 (daCons (dVar 2) daNil)) (gdName 5) (dTest (dOf sAll (dLc (diSeq (dVar 3)) (gdName 7) (dTest (dFn sp_law_wins (daCons (dVar 0) (daCons (dVar 7) daNil)))) (dOp (oIn false) (dVar 5) (dVar 7)) [7]))) (dVar 5) [5])) (gdName 9)) (dSeq (dAsg (dNew (dLc (diSeq (dVar 9)) (gdName 5) (dTest (dFn sp_law_wins (daCons (dVar 0) (daCons (dTup (daCons (dVar 5) daNil)) daNil)))) (dVar 5) [5])) (gdName 10)) (dSeq (dAsg (dNot (dOf sAny (dLc (diSeq (dVar 3)) (gdName 7) dYes (dAnd (dFn sp_law_wins (daCons (dVar 0) (daCons (dVar 7) daNil))) (dFn sp_law_wins (daCons (dVar 0) (daCons (dFn sp_law_rest (daCons (dVar 2) (daCons (dVar 7) daNil))) daNil)))) [7]))) (gdName 11)) (dSeq (dAsg (dOf sAll (dLc (diSeq (dVar 3)) (gdName 7) dYes (dOp oNe (dFn sp_law_wins (daCons (dVar 0) (daCons (dVar 7) daNil))) (dFn sp_law_wins (daCons (dVar 0) (daCons (dFn sp_law_rest (daCons (dVar 2) (daCons (dVar 7) daNil))) daNil)))) [7])) (gdName 12)) (dSeq (dAsg (dNew (dLst (daCons (dCall (dSeq1 true sTup) (daCons (dVar 4) daNil)) (daCons (dCall (dSeq1 true sTup) (daCons (dVar 9) daNil)) (daCons (dIf (dTest (dOp oNe (dVar 10) (dNew (dLst daNil)))) (dOp oIx (dVar 10) (dC (.int 0))) (dC .non)) (daCons (dVar 11) (daCons (dVar 12) daNil))))))) (gdName 13)) (dSeq (dAsg (dNew (dLst (daCons (dFn sp_idle_lists (daCons (dVar 0) daNil)) (daCons (dFn sp_veto_lists (daCons (dVar 0) daNil)) (daCons (dFn sp_dictator (daCons (dVar 0) daNil)) (daCons (dFn sp_is_proper (daCons (dVar 0) daNil)) (daCons (dFn sp_is_deciding (daCons (dVar 0) daNil)) daNil))))))) (gdName 14)) (dSeq (dAsg (dNew (dLst (daCons (dFnK sp_idle_lists [0] (daCons (dVar 0) daNil)) (daCons (dFnK sp_veto_lists [0] (daCons (dVar 0) daNil)) (daCons (dFnK sp_dictator [0] (daCons (dVar 0) daNil)) (daCons (dFnK sp_is_proper [0] (daCons (dVar 0) daNil)) (daCons (dFnK sp_is_deciding [0] (daCons (dVar 0) daNil)) daNil))))))) (gdName 15)) (dSeq (dIfS (dTest (dOp oNe (dCall cRepr (daCons (dNew (dLst (daCons (dVar 14) (daCons (dVar 15) daNil)))) daNil)) (dCall cRepr (daCons (dNew (dLst (daCons (dVar 13) (daCons (dVar 13) daNil)))) daNil)))) (dRet (dC (.bl false))) dNext) (dSeq (dIfS (dTest (dOp oNe (dVar 12) (dAnd (dVar 11) (dOf sAll (dLc (diSeq (dVar 3)) (gdName 7) (dTest (dFn sp_does_block (daCons (dVar 0) (daCons (dVar 7) daNil)))) (dFn sp_is_winning (daCons (dVar 0) (daCons (dVar 7) daNil))) [7]))))) (dRet (dC (.bl false))) dNext) (dSeq (dAsg (dOf sTup (dLc (diR1 (daCons (dVar 2) daNil)) (gdName 5) dYes (dIf (dTest (dOp (oIn false) (dVar 5) (dVar 4))) (dC (.int 0)) (dOp oIx (dOp oIx (dVar 0) (dC (.int 1))) (dVar 5))) [5])) (gdName 16)) (dSeq (dAsg (dOf sMin (dLc (diSeq (dVar 3)) (gdName 7) (dTest (dFn sp_law_wins (daCons (dVar 0) (daCons (dVar 7) daNil)))) (dOf sSum (dLc (diSeq (dVar 7)) (gdName 5) dYes (dOp oIx (dVar 16) (dVar 5)) [5])) [7])) (gdName 17)) (dSeq (dAsg (dTup (daCons (dC (.str "council")) (daCons (dVar 16) (daCons (dVar 17) daNil)))) (gdName 18)) (dRet (dAnd (dOp oEq (dFn sp_least_winning (daCons (dVar 18) daNil)) (dFn sp_least_winning (daCons (dVar 0) daNil))) (dAnd (dSetEq (dFn sp_idle_lists (daCons (dVar 18) daNil)) 4) (dOp oEq (dCall cRepr (daCons (dVar 0) daNil)) (dVar 1)))))))))))))))))))))
theorem pf_law_right : ∀ ds μ Q, sp_law_right ds μ Q → db_law_right (retD Q) (startD ["council", "shown", "many", "every", "idle", "one", "rows", "lot", "late", "veto", "heads", "proper", "deciding", "dues", "told", "named", "seats", "quota", "less"] ds) μ := by
  rintro ds μ Q ⟨ss, q, rfl, hc, post⟩
  show db_law_right (retD Q) [some (encC ss q), none, none, none, none, none, none, none, none, none, none, none, none, none, none, none, none, none, none] μ
  have hl := hc.len
  unfold db_law_right
  refine sq fun U hU => ?_
  walk_at "ev"
  refine ask_repr (rp_enc hc) rfl (by decide) (by decide) ?_
  walk_at "ev"
  rw [List.length_map]
  refine hU.go ?_
  clear hU
  -- every
  refine sq fun U hU => ?_
  walk_at "ev"
  refine ⟨⟨by omega, by omega⟩, fun out ho hs ev hev => ?_⟩
  rw [Int.toNat_natCast] at ho
  have pm := P_many hc ho
  have eev : (μ.upd ev (out.map encI)) ev = some (out.map encI) := Mu.upd_same
  have sb := Mu.sub_upd (xs := out.map encI) hev
  generalize μ.upd ev (out.map encI) = ν at eev sb ⊢
  clear hev
  refine hU.go ?_
  clear hU
  -- idle
  refine sq fun U hU => ?_
  walk_at "ev"
  intro idc hid
  have mid : μ idc = none := none_of sb hid
  have vi : ev ≠ idc := Mu.ne_of eev hid
  replace eev := Mu.keep (xs := []) eev hid
  have eid : (ν.upd idc []) idc = some (((ran ss.length).take 0 |>.filter (fun i => decide (cnt ss q i = 0))).map D.int) := Mu.upd_same
  replace sb := sb.trans (Mu.sub_upd (xs := []) hid)
  generalize ν.upd idc [] = ν at eev sb eid ⊢
  clear hid
  refine hU.go ?_
  clear hU
  refine sq fun U hU => ?_
  simp -dsimp only [dFor, diR1]
  walk_at "ev"
  refine ⟨⟨by omega, by omega⟩, ?_⟩
  refine ⟨fun i ρ' μ' => ∃ w5 w6, ρ' = [some (encC ss q), some (.str (pyC ss q).shown), some (.int (ss.length : Nat)), some (.cell ev), some (.cell idc), w5, w6, none, none, none, none, none, none, none, none, none, none, none, none] ∧ Mu.Sub μ μ' ∧ μ' ev = some (out.map encI) ∧ μ' idc = some (((ran ss.length).take i |>.filter (fun i => decide (cnt ss q i = 0))).map D.int),
    ⟨none, none, rfl, sb, eev, eid⟩, fun i x ρ' μ' hi w => ⟨held_nil, ?_⟩, fun ρ' μ' w => ⟨held_nil, ?_⟩⟩
  · obtain ⟨w5, w6, rfl, sb, eev, eid⟩ := w
    obtain ⟨rfl, il⟩ := range0_at hi
    clear hi
    walk_at "ev"
    refine sq fun V hV => ?_
    walk_at "ev"
    simp -dsimp only [dLc, diSeq]
    walk_at "ev"
    simp -dsimp only [lsrc]
    rw [eev]
    walk_at "ev"
    refine lc_ty (fun L => hit ss q L (i : Int)) encI (held_one eev) (by omega) (fun L hL μ4 Qy Qn sb4 q4 => ?_) ?_
    · have lP := ho.mem_iff.mp hL
      have li := inL_P (ss := ss) lP (by omega)
      have nd := (P_mem _ _ lP).2.1
      have sl := P_short lP (by omega)
      simp -dsimp only [wipeD]
      walk_at "ev"
      refine ⟨L, rfl, ?_⟩
      walk_at "ev"
      by_cases m : (i : Int) ∈ L
      · rw [if_pos m]
        refine ⟨ss, q, L, rfl, li, ?_⟩
        walk_at "ev"
        by_cases w : wn ss q L = true
        · rw [if_pos w]
          simp -dsimp only [dLc, diSeq]
          walk_at "ev"
          refine lc_ty (fun b => !decide (b = (i : Int))) D.int held_nil (by omega) (fun b hb μ5 Qy5 Qn5 sb5 q5 => ?_) ?_
          · simp -dsimp only [wipeD]
            walk_at "ev"
            by_cases e : b = (i : Int)
            · rw [if_neg (by simpa using e)] at q5
              rw [if_neg (fun z => z e)]
              exact q5
            · rw [if_pos (by simpa using e)] at q5
              rw [if_pos e]
              exact q5
          · walk_at "ev"
            refine ⟨ss, q, off (i : Int) L, rfl, inL_filter li _, ?_⟩
            walk_at "ev"
            rw [hit_off nd m w] at q4
            cases e : wn ss q (off (i : Int) L) with
            | true =>
              rw [e, if_neg (by decide)] at q4
              rw [if_neg (by decide)]
              exact q4
            | false =>
              rw [e, if_pos (by decide)] at q4
              rw [if_pos rfl]
              exact q4
        · rw [if_neg w]
          have e : hit ss q L (i : Int) = false := by
            unfold hit
            unfold wn at w
            rw [Bool.eq_false_iff.mpr w, Bool.false_and, Bool.and_false]
          rw [e, if_neg (by decide)] at q4
          exact q4
      · rw [if_neg m]
        have e : hit ss q L (i : Int) = false := by
          unfold hit
          rw [decide_eq_false m, Bool.false_and]
        rw [e, if_neg (by decide)] at q4
        exact q4
    · intro r hr
      have er : (μ'.upd r ((out.filter fun L => hit ss q L (i : Int)).map encI)) r = some ((out.filter fun L => hit ss q L (i : Int)).map encI) := Mu.upd_same
      replace sb := sb.trans (Mu.sub_upd (xs := (out.filter fun L => hit ss q L (i : Int)).map encI) hr)
      replace eev := Mu.keep (xs := (out.filter fun L => hit ss q L (i : Int)).map encI) eev hr
      replace eid := Mu.keep (xs := (out.filter fun L => hit ss q L (i : Int)).map encI) eid hr
      generalize μ'.upd r ((out.filter fun L => hit ss q L (i : Int)).map encI) = ν at er sb eev eid ⊢
      refine hV.go ?_
      clear hV
      walk_at "ev"
      simp -dsimp only [mExtL, dIfL]
      walk_at "ev"
      refine ⟨by rw [eid], fun k hk => ?_⟩
      refine ask_deep (.lst (Mu.keep er hk) (.map fun L _ => eq_lot L)) (.lst Mu.upd_same .nil) (by decide) (by decide) ?_
      rw [if_neg (by decide), eqv_nil, rows_nil ho]
      have eid2 := Mu.keep (xs := []) eid hk
      have eev2 := Mu.keep (xs := []) eev hk
      have sb2 := sb.trans (Mu.sub_upd (xs := []) hk)
      have st := idq_step (ss := ss) (q := q) (i := i) (by omega)
      have fl := List.length_filter_le (fun i => decide (cnt ss q i = 0)) ((ran ss.length).take i)
      rw [List.length_take, ran_len] at fl
      by_cases e : cnt ss q (i : Int) = 0
      · rw [decide_eq_true e]
        rw [if_pos e] at st
        show if true = true then _ else _
        rw [if_pos rfl]
        refine ⟨_, eid2, sz1000 (by rw [List.length_map]; omega), _, _, rfl, put sb2 mid, (Mu.upd_ne vi).trans eev2, ?_⟩
        rw [st, List.map_append]
        rfl
      · rw [decide_eq_false e]
        rw [if_neg e, List.append_nil] at st
        show if false = true then _ else _
        rw [if_neg (by decide)]
        refine ⟨_, eid2, sz1000 (by rw [List.length_map]; omega), _, _, rfl, put sb2 mid, (Mu.upd_ne vi).trans eev2, ?_⟩
        rw [st, List.append_nil]
  · obtain ⟨w5, w6, rfl, sb, eev, eid⟩ := w
    have eid : μ' idc = some (((ran ss.length).take (rangeD 0 (ss.length : Nat)).length |>.filter (fun i => decide (cnt ss q i = 0))).map D.int) := eid
    rw [rangeD_len, Int.sub_zero, Int.toNat_natCast, List.take_of_length_le (by rw [ran_len]; exact Nat.le_refl _)] at eid
    replace eid : μ' idc = some ((idq ss q).map D.int) := eid
    refine hU.go ?_
    clear hU
    -- veto
    refine sq fun U hU => ?_
    walk_at "ev"
    simp -dsimp only [dLc, diR1]
    walk_at "ev"
    refine ⟨⟨by omega, by omega⟩, ?_⟩
    rw [range_ran]
    refine lc_ty (vto ss q) D.int held_nil (by rw [ran_len]; omega) (fun i hi μ4 Qy Qn sb4 q4 => ?_) ?_
    · simp -dsimp only [wipeD]
      walk_at "ev"
      simp -dsimp only [dLc, diSeq]
      walk_at "ev"
      simp -dsimp only [lsrc]
      have e4 := sb4 _ _ eev
      rw [e4]
      walk_at "ev"
      refine lc_ty (wn ss q) (fun L => .bl (decide (i ∈ L))) (held_one e4) (by omega) (fun L hL μ5 Qy5 Qn5 sb5 q5 => ?_) ?_
      · have lP := ho.mem_iff.mp hL
        simp -dsimp only [wipeD]
        walk_at "ev"
        refine ⟨ss, q, L, rfl, inL_P lP (by omega), ?_⟩
        walk_at "ev"
        by_cases w : wn ss q L = true
        · rw [if_pos w] at q5 ⊢
          exact ⟨L, rfl, q5⟩
        · rw [if_neg w] at q5 ⊢
          exact q5
      · refine sAll_ty (b := fun L => decide (i ∈ L)) ?_
        rw [veto_won ho i]
        walk_at "ev"
        exact q4
    intro vt_ hvt
    have evt : (μ'.upd vt_ ((vtl ss q).map D.int)) vt_ = some ((vtl ss q).map D.int) := Mu.upd_same
    replace sb := sb.trans (Mu.sub_upd (xs := (vtl ss q).map D.int) hvt)
    replace eev := Mu.keep (xs := (vtl ss q).map D.int) eev hvt
    replace eid := Mu.keep (xs := (vtl ss q).map D.int) eid hvt
    show U _ (μ'.upd vt_ ((vtl ss q).map D.int))
    generalize μ'.upd vt_ ((vtl ss q).map D.int) = ν at evt sb eev eid ⊢
    clear hvt
    refine hU.go ?_
    clear hU
    -- heads
    refine sq fun U hU => ?_
    walk_at "ev"
    simp -dsimp only [dLc, diSeq]
    walk_at "ev"
    simp -dsimp only [lsrc]
    rw [evt]
    walk_at "ev"
    have vl : (vtl ss q).length ≤ 8 := P_short (vtl_in ss q) (by omega)
    refine lc_ty (fun i => wn ss q [i]) D.int (held_one evt) (by omega) (fun i hi μ4 Qy Qn sb4 q4 => ?_) ?_
    · have b := mem_ran.mp (List.mem_filter.mp hi).1
      simp -dsimp only [wipeD]
      walk_at "ev"
      refine ⟨ss, q, [i], rfl, ⟨by show 1 ≤ 100; decide, fun j hj => by rw [List.mem_singleton.mp hj]; exact b⟩, ?_⟩
      walk_at "ev"
      exact q4
    intro hd_ hhd
    have ehd : (ν.upd hd_ ((hds ss q).map D.int)) hd_ = some ((hds ss q).map D.int) := Mu.upd_same
    replace sb := sb.trans (Mu.sub_upd (xs := (hds ss q).map D.int) hhd)
    replace eev := Mu.keep (xs := (hds ss q).map D.int) eev hhd
    replace eid := Mu.keep (xs := (hds ss q).map D.int) eid hhd
    replace evt := Mu.keep (xs := (hds ss q).map D.int) evt hhd
    show U _ (ν.upd hd_ ((hds ss q).map D.int))
    generalize ν.upd hd_ ((hds ss q).map D.int) = ν at evt ehd sb eev eid ⊢
    clear hhd
    refine hU.go ?_
    clear hU
    -- proper
    refine sq fun U hU => ?_
    walk_at "ev"
    simp -dsimp only [dLc, diSeq]
    walk_at "ev"
    simp -dsimp only [lsrc]
    rw [eev]
    walk_at "ev"
    refine lc_tm (fun L => .bl (wn ss q L && wn ss q (rst ss.length L))) (held_one eev) (by omega) (fun L hL μ5 Qy5 sb5 q5 => ?_) ?_
    · have lP := ho.mem_iff.mp hL
      simp -dsimp only [wipeD]
      walk_at "ev"
      refine ⟨ss, q, L, rfl, inL_P lP (by omega), ?_⟩
      walk_at "ev"
      by_cases w : wn ss q L = true
      · rw [if_pos w]
        rw [w, Bool.true_and] at q5
        refine ⟨L, ss.length, rfl, by omega, ?_⟩
        exact ⟨ss, q, _, rfl, inL_P (rst_in _ _) (by omega), q5⟩
      · rw [if_neg w]
        rw [Bool.eq_false_iff.mpr w, Bool.false_and] at q5
        exact q5
    refine sAny_ty (b := fun L => wn ss q L && wn ss q (rst ss.length L)) ?_
    walk_at "ev"
    rw [prp_all ho]
    refine hU.go ?_
    clear hU
    -- deciding
    refine sq fun U hU => ?_
    walk_at "ev"
    simp -dsimp only [dLc, diSeq]
    walk_at "ev"
    simp -dsimp only [lsrc]
    rw [eev]
    walk_at "ev"
    refine lc_tm (fun L => .bl (wn ss q L != wn ss q (rst ss.length L))) (held_one eev) (by omega) (fun L hL μ5 Qy5 sb5 q5 => ?_) ?_
    · have lP := ho.mem_iff.mp hL
      simp -dsimp only [wipeD]
      walk_at "ev"
      refine ⟨ss, q, L, rfl, inL_P lP (by omega), ?_⟩
      refine ⟨L, ss.length, rfl, by omega, ?_⟩
      refine ⟨ss, q, _, rfl, inL_P (rst_in _ _) (by omega), ?_⟩
      exact ne_bl q5
    refine sAll_ty (b := fun L => wn ss q L != wn ss q (rst ss.length L)) ?_
    rw [dcd_all ho]
    refine hU.go ?_
    clear hU
    -- dues
    refine sq fun U hU => ?_
    walk_at "ev"
    simp -dsimp only [dSeq1, sitems, sTup]
    walk_at "ev"
    rw [eid]
    walk_at "ev"
    rw [evt]
    walk_at "ev"
    -- the rest, at any place
    have rest : ∀ (ν : Mu) (d : Nat), Mu.Sub μ ν → ν ev = some (out.map encI) → ν idc = some ((idq ss q).map D.int) → ν d = some (all5 ss q) →
        U [some (encC ss q), some (.str (pyC ss q).shown), some (.int (ss.length : Nat)), some (.cell ev), some (.cell idc), w5, w6, none, none, some (.cell vt_), some (.cell hd_), some (.bl (prp ss q)), some (.bl (dcd ss q)), some (.cell d), none, none, none, none, none] ν := by
      clear sb eev eid evt ehd
      intro ν d sb eev eid ed
      refine hU.go ?_
      clear hU
      -- told
      refine sq fun U hU => ?_
      walk_at "ev"
      refine ⟨ss, q, rfl, hc, ?_⟩
      refine ⟨ss, q, rfl, hc, ?_⟩
      refine ⟨ss, q, rfl, hc, ?_⟩
      refine ⟨ss, q, rfl, hc, ?_⟩
      refine ⟨ss, q, rfl, hc, ?_⟩
      intro t ht
      have et : (ν.upd t (all5 ss q)) t = some (all5 ss q) := Mu.upd_same
      replace sb := sb.trans (Mu.sub_upd (xs := all5 ss q) ht)
      replace eev := Mu.keep (xs := all5 ss q) eev ht
      replace eid := Mu.keep (xs := all5 ss q) eid ht
      replace ed := Mu.keep (xs := all5 ss q) ed ht
      show U _ (ν.upd t (all5 ss q))
      generalize ν.upd t (all5 ss q) = ν at et ed sb eev eid ⊢
      clear ht
      refine hU.go ?_
      clear hU
      -- named
      refine sq fun U hU => ?_
      walk_at "ev"
      refine ⟨ss, q, rfl, hc, ?_⟩
      refine ⟨ss, q, rfl, hc, ?_⟩
      refine ⟨ss, q, rfl, hc, ?_⟩
      refine ⟨ss, q, rfl, hc, ?_⟩
      refine ⟨ss, q, rfl, hc, ?_⟩
      intro n hn
      have en : (ν.upd n (all5 ss q)) n = some (all5 ss q) := Mu.upd_same
      replace sb := sb.trans (Mu.sub_upd (xs := all5 ss q) hn)
      replace eev := Mu.keep (xs := all5 ss q) eev hn
      replace eid := Mu.keep (xs := all5 ss q) eid hn
      replace ed := Mu.keep (xs := all5 ss q) ed hn
      replace et := Mu.keep (xs := all5 ss q) et hn
      show U _ (ν.upd n (all5 ss q))
      generalize ν.upd n (all5 ss q) = ν at et ed en sb eev eid ⊢
      clear hn
      refine hU.go ?_
      clear hU
      -- shown alike
      refine sq fun U hU => ?_
      walk_at "ev"
      have r5 := fun μ => rp_all5 (μ := μ) hc
      intro k1 hk1
      refine ask_repr (RpOk.lst Mu.upd_same (.cons (RpOk.lst (Mu.keep et hk1) (r5 _)) (.cons (RpOk.lst (Mu.keep en hk1) (r5 _)) .nil))) rfl (by decide) (by decide) ?_
      intro k2 hk2
      refine ask_repr (RpOk.lst Mu.upd_same (.cons (RpOk.lst (Mu.keep (Mu.keep ed hk1) hk2) (r5 _)) (.cons (RpOk.lst (Mu.keep (Mu.keep ed hk1) hk2) (r5 _)) .nil))) rfl (by decide) (by decide) ?_
      walk_at "ev"
      refine hU.fgt ((Mu.sub_upd hk1).trans (Mu.sub_upd hk2)) ?_
      clear hU hk2 k2 hk1 k1 r5
      -- deciding and proper
      refine sq fun U hU => ?_
      walk_at "ev"
      have da := dcd_and (q := q) ho
      have go : U [some (encC ss q), some (.str (pyC ss q).shown), some (.int (ss.length : Nat)), some (.cell ev), some (.cell idc), w5, w6, none, none, some (.cell vt_), some (.cell hd_), some (.bl (prp ss q)), some (.bl (dcd ss q)), some (.cell d), some (.cell t), some (.cell n), none, none, none] ν := by
        refine hU.go ?_
        clear hU da
        -- seats
        refine sq fun U hU => ?_
        walk_at "ev"
        simp -dsimp only [dLc, diR1]
        walk_at "ev"
        refine ⟨⟨by omega, by omega⟩, ?_⟩
        rw [range_ran]
        refine lc_tm (fun i => .int (if i ∈ idq ss q then 0 else vt ss i)) held_nil (by rw [ran_len]; omega) (fun i hi μ4 Qy sb4 q4 => ?_) ?_
        · have b := mem_ran.mp hi
          simp -dsimp only [wipeD]
          walk_at "ev"
          refine ⟨idq ss q, sb4 _ _ eid, ?_⟩
          walk_at "ev"
          rw [at_v b.1 b.2]
          by_cases m : i ∈ idq ss q
          · rw [if_pos m] at q4 ⊢
            exact q4
          · rw [if_neg m] at q4 ⊢
            exact q4
        walk_at "ev"
        rw [show ((ran ss.length).map fun i => D.int (if i ∈ idq ss q then 0 else vt ss i)) = (less ss q).map D.int by unfold less; rw [List.map_map]; rfl]
        have ll := less_len ss q
        refine hU.go ?_
        clear hU
        -- quota
        refine sq fun U hU => ?_
        walk_at "ev"
        simp -dsimp only [dLc, diSeq]
        walk_at "ev"
        simp -dsimp only [lsrc]
        rw [eev]
        walk_at "ev"
        refine lc_ty (wn ss q) (fun L => .int (sm (less ss q) L)) (held_one eev) (by omega) (fun L hL μ5 Qy5 Qn5 sb5 q5 => ?_) ?_
        · have lP := ho.mem_iff.mp hL
          have li := inL_P (ss := ss) lP (by omega)
          have sl := P_short lP (by omega)
          simp -dsimp only [wipeD]
          walk_at "ev"
          refine ⟨ss, q, L, rfl, li, ?_⟩
          walk_at "ev"
          by_cases w : wn ss q L = true
          · rw [if_pos w] at q5 ⊢
            simp -dsimp only [dLc, diSeq]
            walk_at "ev"
            refine lc_tm (fun i => .int (vt (less ss q) i)) held_nil (by omega) (fun i hiL μ6 Qy6 sb6 q6 => ?_) ?_
            · have b := li.2 i hiL
              simp -dsimp only [wipeD]
              walk_at "ev"
              rw [at_v (ss := less ss q) b.1 (by omega)]
              exact q6
            · exact ⟨L.map (vt (less ss q)), by rw [List.map_map]; rfl, q5⟩
          · rw [if_neg w] at q5 ⊢
            exact q5
        have wr : wn ss q (ran ss.length) = true := by
          unfold wn
          rw [sm_ran]
          exact decide_eq_true hc.q.2
        have inr : ran ss.length ∈ out.filter (wn ss q) := List.mem_filter.mpr ⟨ho.mem_iff.mpr (ran_in _), wr⟩
        refine ⟨(out.filter (wn ss q)).map (sm (less ss q)), by rw [List.map_map]; rfl, ?_, fun r hr1 hr2 => ?_⟩
        · rw [List.length_map]
          exact List.length_pos_of_mem inr
        have quo : Quo ss q r := by
          obtain ⟨L, hL, e⟩ := List.mem_map.mp hr1
          obtain ⟨h1, h2⟩ := List.mem_filter.mp hL
          exact ⟨⟨L, ho.mem_iff.mp h1, h2, e.symm⟩, fun L hL w => hr2 _ (List.mem_map.mpr ⟨L, List.mem_filter.mpr ⟨ho.mem_iff.mpr hL, w⟩, rfl⟩)⟩
        have hc2 := less_cok hc quo
        have e1 : ∀ L ∈ P ss.length, lst (less ss q) r L = lst ss q L := fun L hL => less_lst hc quo hL
        have e2 := less_idq hc quo
        generalize less ss q = tt at hc2 ll e1 e2 ⊢
        refine hU.go ?_
        clear hU
        -- less
        refine sq fun U hU => ?_
        walk_at "ev"
        refine hU.go ?_
        clear hU
        -- the same lots
        walk_at "ev"
        refine ⟨tt, r, rfl, hc2, fun out2 ho2 hs2 k2 hk2 => ?_⟩
        rw [ll] at ho2
        have eo := srt_uniq ho2 ho hs2 hs
        subst eo
        refine ⟨ss, q, rfl, hc, fun out3 ho3 hs3 k3 hk3 => ?_⟩
        have eo3 := srt_uniq ho3 ho2 hs3 hs
        subst eo3
        have ef : out3.filter (lst tt r) = out3.filter (lst ss q) := List.filter_congr fun L hL => e1 L (ho.mem_iff.mp hL)
        rw [ef] at hk3 ⊢
        show deepEq false (.cell k2) (.cell k3) _ _
        have ok : EqOk ((ν.upd k2 ((out3.filter (lst ss q)).map encI)).upd k3 ((out3.filter (lst ss q)).map encI)) (.cell k2) _ _ := .lst (Mu.keep Mu.upd_same hk3) (.map (g := pyI) (a := 1) fun L _ => eq_lot L)
        refine ask_deep ok (.lst Mu.upd_same (.map (g := pyI) (a := 1) fun L _ => eq_lot L)) (by decide) (by decide) ?_
        rw [if_neg (by decide), SeqAt.eqv_refl _ ok.cl]
        show if true = true then _ else _
        rw [if_pos rfl]
        simp -dsimp only [dSetEq]
        walk_at "ev"
        refine ⟨tt, r, rfl, hc2, ?_⟩
        have nd : (idq ss q).Nodup := (ran_nd _).filter _
        have il : (idq ss q).length ≤ 8 := P_short (idq_in ss q) (by omega)
        rw [e2]
        refine ⟨idq ss q, idq ss q, rfl, Mu.keep (Mu.keep eid hk2) hk3, ⟨nd, nd, by omega, rfl, fun k hk => hk⟩, ?_⟩
        walk_at "ev"
        refine ask_repr (rp_enc hc) rfl (by decide) (by decide) ?_
        walk_at "ev"
        exact ⟨_, sb.trans ((Mu.sub_upd hk2).trans (Mu.sub_upd hk3)), post⟩
      by_cases pr : prp ss q = true
      · rw [if_pos pr]
        rw [pr, Bool.true_and] at da
        simp -dsimp only [dLc, diSeq]
        walk_at "ev"
        simp -dsimp only [lsrc]
        rw [eev]
        walk_at "ev"
        refine lc_ty (fun L => !wn ss q (rst ss.length L)) (fun L => .bl (wn ss q L)) (held_one eev) (by omega) (fun L hL μ5 Qy5 Qn5 sb5 q5 => ?_) ?_
        · have lP := ho.mem_iff.mp hL
          simp -dsimp only [wipeD]
          walk_at "ev"
          refine ⟨ss, q, L, rfl, ⟨hc, lP⟩, ?_⟩
          walk_at "ev"
          by_cases w : wn ss q (rst ss.length L) = true
          · rw [w, if_neg (by decide)] at q5
            rw [if_neg (by rw [w]; decide)]
            exact q5
          · rw [if_pos (by simpa using w)] at q5
            rw [if_pos (by simpa using w)]
            exact ⟨ss, q, L, rfl, ⟨hc, lP⟩, q5⟩
        refine sAll_ty (b := wn ss q) ?_
        walk_at "ev"
        rw [← da]
        walk_at "ev"
        exact go
      · rw [if_neg pr]
        rw [Bool.eq_false_iff.mpr pr, Bool.false_and] at da
        rw [da] at go ⊢
        walk_at "ev"
        exact go
    intro k hk
    refine ask_deep (.lst (Mu.keep ehd hk) (.map fun v _ => .int v)) (.lst Mu.upd_same .nil) (by decide) (by decide) ?_
    rw [if_pos rfl, eqv_nil]
    replace sb := sb.trans (Mu.sub_upd (xs := []) hk)
    replace eev := Mu.keep (xs := []) eev hk
    replace eid := Mu.keep (xs := []) eid hk
    replace ehd := Mu.keep (xs := []) ehd hk
    generalize ν.upd k [] = ν at sb eev eid ehd ⊢
    have fin : ∀ d, ν d = none → U [some (encC ss q), some (.str (pyC ss q).shown), some (.int (ss.length : Nat)), some (.cell ev), some (.cell idc), w5, w6, none, none, some (.cell vt_), some (.cell hd_), some (.bl (prp ss q)), some (.bl (dcd ss q)), some (.cell d), none, none, none, none, none] (ν.upd d (all5 ss q)) :=
      fun d hd => rest _ d (sb.trans (Mu.sub_upd hd)) (Mu.keep eev hd) (Mu.keep eid hd) Mu.upd_same
    unfold all5 dct at fin
    cases e : hds ss q with
    | nil =>
      rw [e] at fin
      exact fin
    | cons i r =>
      rw [e] at fin ehd
      show if true = true then _ else _
      rw [if_pos rfl]
      rw [ehd, List.map_cons]
      walk_at "ev"
      exact fin
end K93
namespace K93
open PySem PySem.Spec PyProof.Rows L2 Dl
local macro_rules | `(tactic| walk_at "ev") => `(tactic| try simp -dsimp only [↓dSeq_at, dRet, dRetN, dNext, dIfS, dAsg, dDrop, dPar, dNever, dVar, dC, dOp, dUn, dTest, dChain, dAnd, dOr, dNot, dIf, dtAnd, dtOr, dtNot, dTup, daNil, daCons, dCall, dFn, dFnK, dNew, dLst, dOf,
  gdName, gdTup, gdCons, gdNil, gdSub, rdI, rdI0, oPlus, oSub, oTimes, oDiv, oMod, oPow, oLt, oLe, oGt, oGe, oIx, oEq, oNe, uNeg, oIsN, oNotN, D.isNon, cAbs, cMax, cMin, cInt, cDivmod, cLen, cIsi, tyD, items, litems, retD, sTup, mApp, dYes,
  atI_0, atI_1, atI_2, atI_3, atI_4, ixN_20, ixN_21, kit_ii, kit_ib, kit_is, kit_it, kit_il, kit_bi, kit_bb, kit_bs, kit_bt, kit_bl, kit_si, kit_sb, kit_ss, kit_st, kit_sl, kit_ti, kit_tb, kit_ts, kit_tt, kit_tl, kit_li, kit_lb, kit_ls, kit_lt, kit_ll,
  List.getElem?_cons_zero, List.getElem?_cons_succ, List.set_cons_zero, List.set_cons_succ, List.length_cons, List.length_nil, Mu.upd_same, Mu.upd_upd, Nat.zero_add, Nat.reduceAdd, Nat.reduceLeDiff, natlit, Int.reduceEq, Int.reduceLT, Int.reduceLE, Int.reduceAdd, Int.reduceSub, Int.reduceMul, Int.reducePow, Int.reduceNeg, permG2_10, permG3_210, zl_0, zl_1, zl_2, zl_3, zl_4, zl_5, zl_6, zl_7, zl_8, zl_9, zl_10, zl_11, zl_12, zl_13, zl_14, zl_15, zl_16, zl_17, zl_18, zl_19, zl_20, true_and, and_true, eq_self, not_true_eq_false, not_false_eq_true, decide_true, decide_false, if_true, Bool.false_eq_true, if_false, Bool.not_true, Bool.not_false, decide_eq_true_eq, Bool.not_eq_true', decide_eq_false_iff_not, Option.isSome, Option.map])
def sp_law : DSp := fun ds μ Q => ∃ ns : List Int, ds = [.frz (ns.map D.int)] ∧ ns.length ≤ 63 ∧ Q (.bl true) μ
theorem len_law : ∀ ds μ Q, sp_law ds μ Q → ds.length = (["script"] : List Str).length := by
  rintro ds μ Q ⟨ns, rfl, _⟩
  rfl
def db_law : DTS := (dRet (dAnd (dFn sp_law_right (daCons (dFn sp_law_council (daCons (dFn sp_law_pot (daCons (dVar 0) (daCons (dC (.int 0)) daNil))) (daCons (dC (.int 6)) daNil))) daNil)) (dFn sp_law_right (daCons (dFn sp_law_council (daCons (dFn sp_law_pot (daCons (dVar 0) (daCons (dC (.int 1)) daNil))) (daCons (dC (.int 7)) daNil))) daNil))))
theorem pf_law : ∀ ds μ Q, sp_law ds μ Q → db_law (retD Q) (startD ["script"] ds) μ := by
  rintro ds μ Q ⟨ns, rfl, hn, h⟩
  show db_law (retD Q) [some (.frz (ns.map D.int))] μ
  unfold db_law
  walk_at "ev"
  refine ⟨ns, 0, rfl, ⟨by decide, by decide⟩, fun c hc a b pb => ?_⟩
  refine ⟨c, 6, rfl, ⟨⟨a, b, Mu.upd_same, pb⟩, by decide, by decide⟩, fun ss q hc2 h5 a3 b3 pb3 => ?_⟩
  rw [Mu.upd_upd]
  have sb := Mu.sub_upd (xs := [.int a3, .int b3]) hc
  generalize μ.upd c [.int a3, .int b3] = ν at sb ⊢
  refine ⟨ss, q, rfl, hc2, ?_⟩
  walk_at "ev"
  refine ⟨ns, 1, rfl, ⟨by decide, by decide⟩, fun c hc a b pb => ?_⟩
  refine ⟨c, 7, rfl, ⟨⟨a, b, Mu.upd_same, pb⟩, by decide, by decide⟩, fun ss q hc2 h5 a3 b3 pb3 => ?_⟩
  rw [Mu.upd_upd]
  refine ⟨ss, q, rfl, hc2, ?_⟩
  exact ⟨_, sb.trans (Mu.sub_upd hc), h⟩
end K93
namespace K93
open PySem PySem.Spec PyProof.Rows L2 Dl
def topS (i : Nat) : Stmt := PySem.Challenge.pw_seatworks_k93_whole_idle_lists_vetoes_di.main.body.getD i (.Pass ⟨0, 0, 0, 0⟩)
structure Bt (mg : Str → Option Value) : Prop where
  z_abs : mg "abs" = none
  z_all : mg "all" = none
  z_any : mg "any" = none
  z_bool : mg "bool" = none
  z_divmod : mg "divmod" = none
  z_enumerate : mg "enumerate" = none
  z_int : mg "int" = none
  z_isinstance : mg "isinstance" = none
  z_len : mg "len" = none
  z_max : mg "max" = none
  z_min : mg "min" = none
  z_range : mg "range" = none
  z_repr : mg "repr" = none
  z_set : mg "set" = none
  z_sorted : mg "sorted" = none
  z_str : mg "str" = none
  z_sum : mg "sum" = none
  z_tuple : mg "tuple" = none
  z_zip : mg "zip" = none
structure Ct (K : PySem.W.Frag) (mg : Str → Option Value) : Prop where
  c_COUNCIL : Gc K mg "COUNCIL" (.str "council")
  c_MOST_LISTS : Gc K mg "MOST_LISTS" (.int 8)
  c_MOST_SEATS : Gc K mg "MOST_SEATS" (.int 200)
section
variable {P : Program} {w : World} {K : PySem.W.Frag} {mg : Str → Option Value} {base : Heap}
abbrev S_is_integer : Stmt := topS 1
theorem sc_is_integer : FnScope ["value"] ["value"] (defScope S_is_integer) := ⟨rfl, rfl, rfl, by decide +kernel, rfl, by decide +kernel, by decide +kernel⟩
theorem has_is_integer (B : Bt mg)  (T : Txt K mg "is_integer" S_is_integer) : Has P w K mg base 1 "is_integer" S_is_integer ["value"] sp_is_integer :=
  T.has sc_is_integer len_is_integer fun f cdv A outer s H hr hgd => ⟨db_is_integer,
    (dss_one (ds_ret (de_and (de_callB c_isi B.z_isinstance bt_isinstance (da_cons (de_var 0) (da_cons (de_ty B.z_int bt_int) da_nil))) (de_one (de_not (de_callB c_isi B.z_isinstance bt_isinstance (da_cons (de_var 0) (da_cons (de_ty B.z_bool bt_bool) da_nil)))))))),
    pf_is_integer⟩
abbrev S_is_tuple : Stmt := topS 3
theorem sc_is_tuple : FnScope ["value", "many"] ["value", "many"] (defScope S_is_tuple) := ⟨rfl, rfl, rfl, by decide +kernel, rfl, by decide +kernel, by decide +kernel⟩
theorem has_is_tuple (B : Bt mg)  (T : Txt K mg "is_tuple" S_is_tuple) : Has P w K mg base 1 "is_tuple" S_is_tuple ["value", "many"] sp_is_tuple :=
  T.has sc_is_tuple len_is_tuple fun f cdv A outer s H hr hgd => ⟨db_is_tuple,
    (dss_one (ds_ret (de_and (de_callB c_isi B.z_isinstance bt_isinstance (da_cons (de_var 0) (da_cons (de_ty B.z_tuple bt_tuple) da_nil))) (de_one (de_cmp (o_eq hr.units) (de_callB c_len B.z_len bt_len (da_cons (de_var 0) da_nil)) (de_var 1)))))),
    pf_is_tuple⟩
abbrev S_are_rising : Stmt := topS 4
theorem sc_are_rising : FnScope ["values", "near", "far"] ["values"] (defScope S_are_rising) := ⟨rfl, rfl, rfl, by decide +kernel, rfl, by decide +kernel, by decide +kernel⟩
theorem has_are_rising (B : Bt mg)  (T : Txt K mg "are_rising" S_are_rising) : Has P w K mg base 1 "are_rising" S_are_rising ["values"] sp_are_rising :=
  T.has sc_are_rising len_are_rising fun f cdv A outer s H hr hgd => ⟨db_are_rising,
    (dss_one (ds_ret (de_ofB (s_all rfl) B.z_all bt_all (dl_lc [("near", 1), ("far", 2)] sc_are_rising.nd (di_zip2 B.z_zip (de_var 0) (de_slice (de_var 0) (do_some de_int) do_none)) (own_pair 1 2 fun _ _ _ _ _ => pg_tup rfl (pgs_cons (pg_name (i := 1) sc_are_rising.nd rfl (by first | exact Or.inl rfl | exact Or.inr rfl | exact Or.inr (Or.inl rfl))) (pgs_cons (pg_name (i := 2) sc_are_rising.nd rfl (by first | exact Or.inl rfl | exact Or.inr rfl | exact Or.inr (Or.inl rfl))) pgs_nil))) (fun _ _ _ _ _ => dts_nil) (fun _ _ _ _ _ => (de_cmp o_lt (de_var 1) (de_var 2))))))),
    pf_are_rising⟩
abbrev S_all_lots : Stmt := topS 17
theorem sc_all_lots : FnScope ["many", "found", "one", "lot"] ["many"] (defScope S_all_lots) := ⟨rfl, rfl, rfl, by decide +kernel, rfl, by decide +kernel, by decide +kernel⟩
theorem has_all_lots (B : Bt mg)  (T : Txt K mg "all_lots" S_all_lots) : Has P w K mg base 1 "all_lots" S_all_lots ["many"] sp_all_lots :=
  T.has sc_all_lots len_all_lots fun f cdv A outer s H hr hgd => ⟨db_all_lots,
    (dss_cons (ds_asg (de_new (dl_lst (da_cons (de_tup da_nil) da_nil))) (dg_name 1 sc_all_lots.nd)) (dss_cons (ds_for (di_r1 B.z_range (da_cons (de_var 0) da_nil)) (dg_name 2 sc_all_lots.nd) (dss_one (ds_asg (de_op o_plus (de_var 1) (de_new (dl_lc [("lot", 3)] sc_all_lots.nd (di_seq (de_var 1)) (own_name 3 fun _ _ _ _ _ => pg_name sc_all_lots.nd rfl (by first | exact Or.inl rfl | exact Or.inr rfl | exact Or.inr (Or.inl rfl))) (fun _ _ _ _ _ => dts_nil) (fun _ _ _ _ _ => (de_op o_plus (de_var 3) (de_tup (da_cons (de_var 2) da_nil))))))) (dg_name 1 sc_all_lots.nd)))) (dss_one (ds_ret (de_new (dl_callB (s_srt hr.units).call B.z_sorted bt_sorted (da_cons (de_var 1) da_nil))))))),
    pf_all_lots⟩
abbrev S_seats_of : Stmt := topS 18
theorem sc_seats_of : FnScope ["council", "lot", "one"] ["council", "lot"] (defScope S_seats_of) := ⟨rfl, rfl, rfl, by decide +kernel, rfl, by decide +kernel, by decide +kernel⟩
theorem has_seats_of (B : Bt mg)  (T : Txt K mg "seats_of" S_seats_of) : Has P w K mg base 1 "seats_of" S_seats_of ["council", "lot"] sp_seats_of :=
  T.has sc_seats_of len_seats_of fun f cdv A outer s H hr hgd => ⟨db_seats_of,
    (dss_one (ds_ret (de_ofB (s_sum rfl) B.z_sum bt_sum (dl_lc [("one", 2)] sc_seats_of.nd (di_seq (de_var 1)) (own_name 2 fun _ _ _ _ _ => pg_name sc_seats_of.nd rfl (by first | exact Or.inl rfl | exact Or.inr rfl | exact Or.inr (Or.inl rfl))) (fun _ _ _ _ _ => dts_nil) (fun _ _ _ _ _ => (de_ix (de_ix (de_var 0) de_int) (de_var 2))))))),
    pf_seats_of⟩
abbrev S_rest_of : Stmt := topS 23
theorem sc_rest_of : FnScope ["many", "lot", "one"] ["many", "lot"] (defScope S_rest_of) := ⟨rfl, rfl, rfl, by decide +kernel, rfl, by decide +kernel, by decide +kernel⟩
theorem has_rest_of (B : Bt mg)  (T : Txt K mg "rest_of" S_rest_of) : Has P w K mg base 1 "rest_of" S_rest_of ["many", "lot"] sp_rest_of :=
  T.has sc_rest_of len_rest_of fun f cdv A outer s H hr hgd => ⟨db_rest_of,
    (dss_one (ds_ret (de_ofTy s_tup B.z_tuple bt_tuple (dl_lc [("one", 2)] sc_rest_of.nd (di_r1 B.z_range (da_cons (de_var 0) da_nil)) (own_name 2 fun _ _ _ _ _ => pg_name sc_rest_of.nd rfl (by first | exact Or.inl rfl | exact Or.inr rfl | exact Or.inr (Or.inl rfl))) (fun _ _ _ _ _ => (dts_one (dt_cmp o_notIn (de_var 2) (de_var 1)))) (fun _ _ _ _ _ => (de_var 2)))))),
    pf_rest_of⟩
abbrev S_law_pot : Stmt := topS 33
theorem sc_law_pot : FnScope ["script", "k", "cell"] ["script", "k"] (defScope S_law_pot) := ⟨rfl, rfl, rfl, by decide +kernel, rfl, by decide +kernel, by decide +kernel⟩
theorem has_law_pot (B : Bt mg)  (T : Txt K mg "_law_pot" S_law_pot) : Has P w K mg base 1 "_law_pot" S_law_pot ["script", "k"] sp_law_pot :=
  T.has sc_law_pot len_law_pot fun f cdv A outer s H hr hgd => ⟨db_law_pot,
    (dss_cons (ds_asg (de_if (dt_cmp o_lt (de_var 1) (de_callB c_len B.z_len bt_len (da_cons (de_var 0) da_nil))) (de_callB c_abs B.z_abs bt_abs (da_cons (de_ix (de_var 0) (de_var 1)) da_nil)) (de_op o_plus (de_op o_plus (de_op o_times de_int (de_var 1)) de_int) (de_op o_mod (de_callTy c_int B.z_int bt_int (da_cons (de_callB (s_sum2 rfl).call B.z_sum bt_sum (da_cons (de_slice (de_var 0) do_none (do_some de_int)) da_nil)) da_nil)) de_int))) (dg_name 2 sc_law_pot.nd)) (dss_one (ds_ret (de_new (dl_lst (da_cons (de_callB (c_max rfl) B.z_max bt_max (da_cons de_int (da_cons (de_op o_sub (de_var 2) (de_op o_pow de_int de_int)) da_nil))) (da_cons (de_op o_plus (de_op o_mod (de_callTy c_int B.z_int bt_int (da_cons (de_op o_plus (de_op o_plus (de_op o_times (de_op o_mod (de_callTy c_int B.z_int bt_int (da_cons (de_var 2) da_nil)) de_int) de_int) (de_op o_times de_int (de_var 1))) de_int) da_nil)) de_int) de_int) da_nil))))))),
    pf_law_pot⟩
abbrev S_law_draw : Stmt := topS 34
theorem sc_law_draw : FnScope ["pot", "size", "digit"] ["pot", "size"] (defScope S_law_draw) := ⟨rfl, rfl, rfl, by decide +kernel, rfl, by decide +kernel, by decide +kernel⟩
theorem has_law_draw (B : Bt mg)  (T : Txt K mg "_law_draw" S_law_draw) : Has P w K mg base 1 "_law_draw" S_law_draw ["pot", "size"] sp_law_draw :=
  T.has sc_law_draw len_law_draw fun f cdv A outer s H hr hgd => ⟨db_law_draw,
    (dss_cons (ds_if (dt_cmp o_gt (de_ix (de_var 0) de_int) de_int) (dss_cons (ds_asg (de_callB c_divmod B.z_divmod bt_divmod (da_cons (de_ix (de_var 0) de_int) (da_cons (de_var 1) da_nil))) (dg_tup (dgs_cons (dg_sub (de_var 0) de_int) (dgs_cons (dg_name 2 sc_law_draw.nd) dgs_nil)))) (dss_one (ds_ret (de_var 2)))) dss_nil) (dss_cons (ds_asg (de_op o_mod (de_callTy c_int B.z_int bt_int (da_cons (de_op o_plus (de_op o_times (de_ix (de_var 0) de_int) de_int) de_int) da_nil)) de_int) (dg_sub (de_var 0) de_int)) (dss_one (ds_ret (de_op o_mod (de_callTy c_int B.z_int bt_int (da_cons (de_op o_div (de_op o_mod (de_callTy c_int B.z_int bt_int (da_cons (de_op o_times (de_ix (de_var 0) de_int) (de_ix (de_var 0) de_int)) da_nil)) de_int) de_int) da_nil)) (de_var 1)))))),
    pf_law_draw⟩
abbrev S_law_lots : Stmt := topS 37
theorem sc_law_lots : FnScope ["many", "found", "one", "lot"] ["many"] (defScope S_law_lots) := ⟨rfl, rfl, rfl, by decide +kernel, rfl, by decide +kernel, by decide +kernel⟩
theorem has_law_lots (B : Bt mg)  (T : Txt K mg "_law_lots" S_law_lots) : Has P w K mg base 1 "_law_lots" S_law_lots ["many"] sp_law_lots :=
  T.has sc_law_lots len_law_lots fun f cdv A outer s H hr hgd => ⟨db_law_lots,
    (dss_cons (ds_asg (de_new (dl_lst (da_cons (de_tup da_nil) da_nil))) (dg_name 1 sc_law_lots.nd)) (dss_cons (ds_for (di_r1 B.z_range (da_cons (de_var 0) da_nil)) (dg_name 2 sc_law_lots.nd) (dss_one (ds_asg (de_op o_plus (de_var 1) (de_new (dl_lc [("lot", 3)] sc_law_lots.nd (di_seq (de_var 1)) (own_name 3 fun _ _ _ _ _ => pg_name sc_law_lots.nd rfl (by first | exact Or.inl rfl | exact Or.inr rfl | exact Or.inr (Or.inl rfl))) (fun _ _ _ _ _ => dts_nil) (fun _ _ _ _ _ => (de_op o_plus (de_var 3) (de_tup (da_cons (de_var 2) da_nil))))))) (dg_name 1 sc_law_lots.nd)))) (dss_one (ds_ret (de_new (dl_callB (s_srt hr.units).call B.z_sorted bt_sorted (da_cons (de_var 1) da_nil))))))),
    pf_law_lots⟩
abbrev S_law_wins : Stmt := topS 38
theorem sc_law_wins : FnScope ["council", "lot", "one"] ["council", "lot"] (defScope S_law_wins) := ⟨rfl, rfl, rfl, by decide +kernel, rfl, by decide +kernel, by decide +kernel⟩
theorem has_law_wins (B : Bt mg)  (T : Txt K mg "_law_wins" S_law_wins) : Has P w K mg base 1 "_law_wins" S_law_wins ["council", "lot"] sp_law_wins :=
  T.has sc_law_wins len_law_wins fun f cdv A outer s H hr hgd => ⟨db_law_wins,
    (dss_one (ds_ret (de_cmp o_ge (de_ofB (s_sum rfl) B.z_sum bt_sum (dl_lc [("one", 2)] sc_law_wins.nd (di_seq (de_var 1)) (own_name 2 fun _ _ _ _ _ => pg_name sc_law_wins.nd rfl (by first | exact Or.inl rfl | exact Or.inr rfl | exact Or.inr (Or.inl rfl))) (fun _ _ _ _ _ => dts_nil) (fun _ _ _ _ _ => (de_ix (de_ix (de_var 0) de_int) (de_var 2))))) (de_ix (de_var 0) de_int)))),
    pf_law_wins⟩
abbrev S_law_rest : Stmt := topS 41
theorem sc_law_rest : FnScope ["many", "lot", "one"] ["many", "lot"] (defScope S_law_rest) := ⟨rfl, rfl, rfl, by decide +kernel, rfl, by decide +kernel, by decide +kernel⟩
theorem has_law_rest (B : Bt mg)  (T : Txt K mg "_law_rest" S_law_rest) : Has P w K mg base 1 "_law_rest" S_law_rest ["many", "lot"] sp_law_rest :=
  T.has sc_law_rest len_law_rest fun f cdv A outer s H hr hgd => ⟨db_law_rest,
    (dss_one (ds_ret (de_ofTy s_tup B.z_tuple bt_tuple (dl_lc [("one", 2)] sc_law_rest.nd (di_r1 B.z_range (da_cons (de_var 0) da_nil)) (own_name 2 fun _ _ _ _ _ => pg_name sc_law_rest.nd rfl (by first | exact Or.inl rfl | exact Or.inr rfl | exact Or.inr (Or.inl rfl))) (fun _ _ _ _ _ => (dts_one (dt_cmp o_notIn (de_var 2) (de_var 1)))) (fun _ _ _ _ _ => (de_var 2)))))),
    pf_law_rest⟩
abbrev S_is_within : Stmt := topS 2
theorem sc_is_within : FnScope ["value", "least", "most"] ["value", "least", "most"] (defScope S_is_within) := ⟨rfl, rfl, rfl, by decide +kernel, rfl, by decide +kernel, by decide +kernel⟩
theorem has_is_within (h_is_integer : Has P w K mg base 1 "is_integer" S_is_integer ["value"] sp_is_integer) (T : Txt K mg "is_within" S_is_within) : Has P w K mg base 2 "is_within" S_is_within ["value", "least", "most"] sp_is_within :=
  T.has sc_is_within len_is_within fun f cdv A outer s H hr hgd => ⟨db_is_within,
    (dss_one (ds_ret (de_and (de_fn h_is_integer (hr.mono (by decide)) hgd (da_cons (de_var 0) da_nil) (fun _ _ _ _ _ _ us ws h1 h2 => match us, ws, h1, h2 with | [_], [], _, _ => ⟨rfl, rfl⟩)) (de_one (de_chain o_le o_le (de_var 1) (de_var 0) (de_var 2)))))),
    pf_is_within⟩
abbrev S_is_won : Stmt := topS 19
theorem sc_is_won : FnScope ["council", "lot"] ["council", "lot"] (defScope S_is_won) := ⟨rfl, rfl, rfl, by decide +kernel, rfl, by decide +kernel, by decide +kernel⟩
theorem has_is_won (h_seats_of : Has P w K mg base 1 "seats_of" S_seats_of ["council", "lot"] sp_seats_of) (T : Txt K mg "is_won" S_is_won) : Has P w K mg base 2 "is_won" S_is_won ["council", "lot"] sp_is_won :=
  T.has sc_is_won len_is_won fun f cdv A outer s H hr hgd => ⟨db_is_won,
    (dss_one (ds_ret (de_cmp o_ge (de_fn h_seats_of (hr.mono (by decide)) hgd (da_cons (de_var 0) (da_cons (de_var 1) da_nil)) (fun _ _ _ _ _ _ us ws h1 h2 => match us, ws, h1, h2 with | [_, _], [], _, _ => ⟨rfl, rfl⟩)) (de_ix (de_var 0) de_int)))),
    pf_is_won⟩
abbrev S_law_pick : Stmt := topS 35
theorem sc_law_pick : FnScope ["pot", "some"] ["pot", "some"] (defScope S_law_pick) := ⟨rfl, rfl, rfl, by decide +kernel, rfl, by decide +kernel, by decide +kernel⟩
theorem has_law_pick (B : Bt mg) (h_law_draw : Has P w K mg base 1 "_law_draw" S_law_draw ["pot", "size"] sp_law_draw) (T : Txt K mg "_law_pick" S_law_pick) : Has P w K mg base 2 "_law_pick" S_law_pick ["pot", "some"] sp_law_pick :=
  T.has sc_law_pick len_law_pick fun f cdv A outer s H hr hgd => ⟨db_law_pick,
    (dss_one (ds_ret (de_ix (de_var 1) (de_fn h_law_draw (hr.mono (by decide)) hgd (da_cons (de_var 0) (da_cons (de_callB c_len B.z_len bt_len (da_cons (de_var 1) da_nil)) da_nil)) (fun _ _ _ _ _ _ us ws h1 h2 => match us, ws, h1, h2 with | [_, _], [], _, _ => ⟨rfl, rfl⟩))))),
    pf_law_pick⟩
abbrev S_is_lot : Stmt := topS 5
theorem sc_is_lot : FnScope ["value", "most", "one"] ["value", "most"] (defScope S_is_lot) := ⟨rfl, rfl, rfl, by decide +kernel, rfl, by decide +kernel, by decide +kernel⟩
theorem has_is_lot (B : Bt mg) (h_is_within : Has P w K mg base 2 "is_within" S_is_within ["value", "least", "most"] sp_is_within) (h_are_rising : Has P w K mg base 1 "are_rising" S_are_rising ["values"] sp_are_rising) (T : Txt K mg "is_lot" S_is_lot) : Has P w K mg base 3 "is_lot" S_is_lot ["value", "most"] sp_is_lot :=
  T.has sc_is_lot len_is_lot fun f cdv A outer s H hr hgd => ⟨db_is_lot,
    (dss_one (ds_ret (de_and (de_callB c_isi B.z_isinstance bt_isinstance (da_cons (de_var 0) (da_cons (de_ty B.z_tuple bt_tuple) da_nil))) (de_and (de_ofB (s_all rfl) B.z_all bt_all (dl_lc [("one", 2)] sc_is_lot.nd (di_seq (de_var 0)) (own_name 2 fun _ _ _ _ _ => pg_name sc_is_lot.nd rfl (by first | exact Or.inl rfl | exact Or.inr rfl | exact Or.inr (Or.inl rfl))) (fun _ _ _ _ _ => dts_nil) (fun _ _ _ _ _ => (de_fn h_is_within (hr.mono (by decide)) hgd (da_cons (de_var 2) (da_cons de_int (da_cons (de_var 1) da_nil))) (fun _ _ _ _ _ _ us ws h1 h2 => match us, ws, h1, h2 with | [_, _, _], [], _, _ => ⟨rfl, rfl⟩))))) (de_one (de_fn h_are_rising (hr.mono (by decide)) hgd (da_cons (de_var 0) da_nil) (fun _ _ _ _ _ _ us ws h1 h2 => match us, ws, h1, h2 with | [_], [], _, _ => ⟨rfl, rfl⟩))))))),
    pf_is_lot⟩
abbrev S_is_council_any : Stmt := topS 14
theorem sc_is_council_any : FnScope ["value", "one"] ["value"] (defScope S_is_council_any) := ⟨rfl, rfl, rfl, by decide +kernel, rfl, by decide +kernel, by decide +kernel⟩
theorem has_is_council_any (B : Bt mg) (C : Ct K mg) (h_is_tuple : Has P w K mg base 1 "is_tuple" S_is_tuple ["value", "many"] sp_is_tuple) (h_is_within : Has P w K mg base 2 "is_within" S_is_within ["value", "least", "most"] sp_is_within) (T : Txt K mg "is_council_any" S_is_council_any) : Has P w K mg base 3 "is_council_any" S_is_council_any ["value"] sp_is_council_any :=
  T.has sc_is_council_any len_is_council_any fun f cdv A outer s H hr hgd => ⟨db_is_council_any,
    (dss_cons (ds_if (PWD.pt (dw_or (dt_not (dt_val (de_fn h_is_tuple (hr.mono (by decide)) hgd (da_cons (de_var 0) (da_cons de_int da_nil)) (fun _ _ _ _ _ _ us ws h1 h2 => match us, ws, h1, h2 with | [_, _], [], _, _ => ⟨rfl, rfl⟩)))) (dw_or (dt_not (dt_val (de_callB c_isi B.z_isinstance bt_isinstance (da_cons (de_ix (de_var 0) de_int) (da_cons (de_ty B.z_str bt_str) da_nil))))) (dw_or1 (dt_cmp (o_ne hr.units) (de_ix (de_var 0) de_int) (de_glob C.c_COUNCIL)))))) (dss_one (ds_ret de_bl)) dss_nil) (dss_cons (ds_if (PWD.pt (dw_or (dt_not (dt_val (de_callB c_isi B.z_isinstance bt_isinstance (da_cons (de_ix (de_var 0) de_int) (da_cons (de_ty B.z_tuple bt_tuple) da_nil))))) (dw_or1 (dt_not (dt_chain o_le o_le de_int (de_callB c_len B.z_len bt_len (da_cons (de_ix (de_var 0) de_int) da_nil)) (de_glob C.c_MOST_LISTS)))))) (dss_one (ds_ret de_bl)) dss_nil) (dss_cons (ds_if (dt_not (dt_val (de_ofB (s_all rfl) B.z_all bt_all (dl_lc [("one", 1)] sc_is_council_any.nd (di_seq (de_ix (de_var 0) de_int)) (own_name 1 fun _ _ _ _ _ => pg_name sc_is_council_any.nd rfl (by first | exact Or.inl rfl | exact Or.inr rfl | exact Or.inr (Or.inl rfl))) (fun _ _ _ _ _ => dts_nil) (fun _ _ _ _ _ => (de_fn h_is_within (hr.mono (by decide)) hgd (da_cons (de_var 1) (da_cons de_int (da_cons (de_glob C.c_MOST_SEATS) da_nil))) (fun _ _ _ _ _ _ us ws h1 h2 => match us, ws, h1, h2 with | [_, _, _], [], _, _ => ⟨rfl, rfl⟩))))))) (dss_one (ds_ret de_bl)) dss_nil) (dss_one (ds_ret (de_fn h_is_within (hr.mono (by decide)) hgd (da_cons (de_ix (de_var 0) de_int) (da_cons de_int (da_cons (de_callB (s_sum2 rfl).call B.z_sum bt_sum (da_cons (de_ix (de_var 0) de_int) da_nil)) da_nil))) (fun _ _ _ _ _ _ us ws h1 h2 => match us, ws, h1, h2 with | [_, _, _], [], _, _ => ⟨rfl, rfl⟩))))))),
    pf_is_council_any⟩
abbrev S_won_lots : Stmt := topS 20
theorem sc_won_lots : FnScope ["council", "lot"] ["council"] (defScope S_won_lots) := ⟨rfl, rfl, rfl, by decide +kernel, rfl, by decide +kernel, by decide +kernel⟩
theorem has_won_lots (B : Bt mg) (h_all_lots : Has P w K mg base 1 "all_lots" S_all_lots ["many"] sp_all_lots) (h_is_won : Has P w K mg base 2 "is_won" S_is_won ["council", "lot"] sp_is_won) (T : Txt K mg "won_lots" S_won_lots) : Has P w K mg base 3 "won_lots" S_won_lots ["council"] sp_won_lots :=
  T.has sc_won_lots len_won_lots fun f cdv A outer s H hr hgd => ⟨db_won_lots,
    (dss_one (ds_ret (de_new (dl_lc [("lot", 1)] sc_won_lots.nd (di_seq (de_fn h_all_lots (hr.mono (by decide)) hgd (da_cons (de_callB c_len B.z_len bt_len (da_cons (de_ix (de_var 0) de_int) da_nil)) da_nil) (fun _ _ _ _ _ _ us ws h1 h2 => match us, ws, h1, h2 with | [_], [], _, _ => ⟨rfl, rfl⟩))) (own_name 1 fun _ _ _ _ _ => pg_name sc_won_lots.nd rfl (by first | exact Or.inl rfl | exact Or.inr rfl | exact Or.inr (Or.inl rfl))) (fun _ _ _ _ _ => (dts_one (dt_val (de_fn h_is_won (hr.mono (by decide)) hgd (da_cons (de_var 0) (da_cons (de_var 1) da_nil)) (fun _ _ _ _ _ _ us ws h1 h2 => match us, ws, h1, h2 with | [_, _], [], _, _ => ⟨rfl, rfl⟩))))) (fun _ _ _ _ _ => (de_var 1)))))),
    pf_won_lots⟩
abbrev S_law_council : Stmt := topS 36
theorem sc_law_council : FnScope ["pot", "most", "many", "size", "seats", "turn", "whole", "quota"] ["pot", "most"] (defScope S_law_council) := ⟨rfl, rfl, rfl, by decide +kernel, rfl, by decide +kernel, by decide +kernel⟩
theorem has_law_council (B : Bt mg) (h_law_pick : Has P w K mg base 2 "_law_pick" S_law_pick ["pot", "some"] sp_law_pick) (h_law_draw : Has P w K mg base 1 "_law_draw" S_law_draw ["pot", "size"] sp_law_draw) (T : Txt K mg "_law_council" S_law_council) : Has P w K mg base 3 "_law_council" S_law_council ["pot", "most"] sp_law_council :=
  T.has sc_law_council len_law_council fun f cdv A outer s H hr hgd => ⟨db_law_council,
    (dss_cons (ds_asg (de_tup (da_cons (de_op o_plus de_int (de_fn h_law_draw (hr.mono (by decide)) hgd (da_cons (de_var 0) (da_cons (de_var 1) da_nil)) (fun _ _ _ _ _ _ us ws h1 h2 => match us, ws, h1, h2 with | [_, _], [], _, _ => ⟨rfl, rfl⟩))) (da_cons (de_fn h_law_pick (hr.mono (by decide)) hgd (da_cons (de_var 0) (da_cons (de_new (dl_lst (da_cons de_int (da_cons de_int (da_cons de_int (da_cons de_int da_nil)))))) da_nil)) (fun _ _ _ _ _ _ us ws h1 h2 => match us, ws, h1, h2 with | [_, _], [], _, _ => ⟨rfl, rfl⟩)) da_nil))) (dg_tup (dgs_cons (dg_name 2 sc_law_council.nd) (dgs_cons (dg_name 3 sc_law_council.nd) dgs_nil)))) (dss_cons (ds_setLc 4 [("turn", 5)] sc_law_council.nd (di_r1 B.z_range (da_cons (de_var 2) da_nil)) (own_name 5 fun _ _ _ _ _ => pg_name sc_law_council.nd rfl (by first | exact Or.inl rfl | exact Or.inr rfl | exact Or.inr (Or.inl rfl))) (fun _ _ _ _ _ => dts_nil) (fun _ _ _ _ _ => (de_fn h_law_draw (hr.mono (by decide)) hgd (da_cons (de_var 0) (da_cons (de_var 3) da_nil)) (fun _ _ _ _ _ _ us ws h1 h2 => match us, ws, h1, h2 with | [_, _], [], _, _ => ⟨rfl, rfl⟩)))) (dss_cons (ds_if (dt_cmp (o_eq hr.units) (de_callB (s_sum2 rfl).call B.z_sum bt_sum (da_cons (de_var 4) da_nil)) de_int) (dss_one (ds_asg (de_op o_plus de_int (de_fn h_law_draw (hr.mono (by decide)) hgd (da_cons (de_var 0) (da_cons de_int da_nil)) (fun _ _ _ _ _ _ us ws h1 h2 => match us, ws, h1, h2 with | [_, _], [], _, _ => ⟨rfl, rfl⟩))) (dg_sub (de_var 4) (de_fn h_law_draw (hr.mono (by decide)) hgd (da_cons (de_var 0) (da_cons (de_var 2) da_nil)) (fun _ _ _ _ _ _ us ws h1 h2 => match us, ws, h1, h2 with | [_, _], [], _, _ => ⟨rfl, rfl⟩))))) dss_nil) (dss_cons (ds_asg (de_callB (s_sum2 rfl).call B.z_sum bt_sum (da_cons (de_var 4) da_nil)) (dg_name 6 sc_law_council.nd)) (dss_cons (ds_asg (de_fn h_law_pick (hr.mono (by decide)) hgd (da_cons (de_var 0) (da_cons (de_new (dl_lst (da_cons (de_op o_plus (de_op o_div (de_var 6) de_int) de_int) (da_cons (de_op o_plus de_int (de_fn h_law_draw (hr.mono (by decide)) hgd (da_cons (de_var 0) (da_cons (de_var 6) da_nil)) (fun _ _ _ _ _ _ us ws h1 h2 => match us, ws, h1, h2 with | [_, _], [], _, _ => ⟨rfl, rfl⟩))) (da_cons (de_var 6) (da_cons (de_op o_plus de_int (de_op o_div (de_op o_times de_int (de_var 6)) de_int)) da_nil)))))) da_nil)) (fun _ _ _ _ _ _ us ws h1 h2 => match us, ws, h1, h2 with | [_, _], [], _, _ => ⟨rfl, rfl⟩)) (dg_name 7 sc_law_council.nd)) (dss_one (ds_ret (de_tup (da_cons de_str (da_cons (de_callTy s_tup.call B.z_tuple bt_tuple (da_cons (de_var 4) da_nil)) (da_cons (de_callB (c_min rfl) B.z_min bt_min (da_cons (de_var 6) (da_cons (de_var 7) da_nil))) da_nil))))))))))),
    pf_law_council⟩
abbrev S_want_council : Stmt := topS 15
theorem sc_want_council : FnScope ["council"] ["council"] (defScope S_want_council) := ⟨rfl, rfl, rfl, by decide +kernel, rfl, by decide +kernel, by decide +kernel⟩
theorem has_want_council (h_is_council_any : Has P w K mg base 3 "is_council_any" S_is_council_any ["value"] sp_is_council_any) (T : Txt K mg "want_council" S_want_council) : Has P w K mg base 4 "want_council" S_want_council ["council"] sp_want_council :=
  T.has sc_want_council len_want_council fun f cdv A outer s H hr hgd => ⟨db_want_council,
    (dss_one (ds_if (dt_not (dt_val (de_fn h_is_council_any (hr.mono (by decide)) hgd (da_cons (de_var 0) da_nil) (fun _ _ _ _ _ _ us ws h1 h2 => match us, ws, h1, h2 with | [_], [], _, _ => ⟨rfl, rfl⟩)))) (dss_one ds_never) dss_nil)),
    pf_want_council⟩
abbrev S_want_lot : Stmt := topS 16
theorem sc_want_lot : FnScope ["many", "lot"] ["many", "lot"] (defScope S_want_lot) := ⟨rfl, rfl, rfl, by decide +kernel, rfl, by decide +kernel, by decide +kernel⟩
theorem has_want_lot (h_is_lot : Has P w K mg base 3 "is_lot" S_is_lot ["value", "most"] sp_is_lot) (T : Txt K mg "want_lot" S_want_lot) : Has P w K mg base 4 "want_lot" S_want_lot ["many", "lot"] sp_want_lot :=
  T.has sc_want_lot len_want_lot fun f cdv A outer s H hr hgd => ⟨db_want_lot,
    (dss_one (ds_if (dt_not (dt_val (de_fn h_is_lot (hr.mono (by decide)) hgd (da_cons (de_var 1) (da_cons (de_op o_sub (de_var 0) de_int) da_nil)) (fun _ _ _ _ _ _ us ws h1 h2 => match us, ws, h1, h2 with | [_, _], [], _, _ => ⟨rfl, rfl⟩)))) (dss_one ds_never) dss_nil)),
    pf_want_lot⟩
abbrev S_least_won : Stmt := topS 21
theorem sc_least_won : FnScope ["council", "found", "lot", "at"] ["council"] (defScope S_least_won) := ⟨rfl, rfl, rfl, by decide +kernel, rfl, by decide +kernel, by decide +kernel⟩
theorem has_least_won (B : Bt mg) (h_won_lots : Has P w K mg base 3 "won_lots" S_won_lots ["council"] sp_won_lots) (h_is_won : Has P w K mg base 2 "is_won" S_is_won ["council", "lot"] sp_is_won) (T : Txt K mg "least_won" S_least_won) : Has P w K mg base 4 "least_won" S_least_won ["council"] sp_least_won :=
  T.has sc_least_won len_least_won fun f cdv A outer s H hr hgd => ⟨db_least_won,
    (dss_cons (ds_asg (de_new (dl_lst da_nil)) (dg_name 1 sc_least_won.nd)) (dss_cons (ds_for (di_seq (de_fn h_won_lots (hr.mono (by decide)) hgd (da_cons (de_var 0) da_nil) (fun _ _ _ _ _ _ us ws h1 h2 => match us, ws, h1, h2 with | [_], [], _, _ => ⟨rfl, rfl⟩))) (dg_name 2 sc_least_won.nd) (dss_one (ds_if (dt_not (dt_val (de_ofB (s_any rfl) B.z_any bt_any (dl_lc [("at", 3)] sc_least_won.nd (di_r1 B.z_range (da_cons (de_callB c_len B.z_len bt_len (da_cons (de_var 2) da_nil)) da_nil)) (own_name 3 fun _ _ _ _ _ => pg_name sc_least_won.nd rfl (by first | exact Or.inl rfl | exact Or.inr rfl | exact Or.inr (Or.inl rfl))) (fun _ _ _ _ _ => dts_nil) (fun _ _ _ _ _ => (de_fn h_is_won (hr.mono (by decide)) hgd (da_cons (de_var 0) (da_cons (de_op o_plus (de_slice (de_var 2) do_none (do_some (de_var 3))) (de_slice (de_var 2) (do_some (de_op o_plus (de_var 3) de_int)) do_none)) da_nil)) (fun _ _ _ _ _ _ us ws h1 h2 => match us, ws, h1, h2 with | [_, _], [], _, _ => ⟨rfl, rfl⟩))))))) (dss_one (ds_expr (de_append (de_var 1) (de_var 2)))) dss_nil))) (dss_one (ds_ret (de_var 1))))),
    pf_least_won⟩
abbrev S_swings_of : Stmt := topS 22
theorem sc_swings_of : FnScope ["council", "found", "lot", "at", "one"] ["council"] (defScope S_swings_of) := ⟨rfl, rfl, rfl, by decide +kernel, rfl, by decide +kernel, by decide +kernel⟩
theorem has_swings_of (B : Bt mg) (h_won_lots : Has P w K mg base 3 "won_lots" S_won_lots ["council"] sp_won_lots) (h_is_won : Has P w K mg base 2 "is_won" S_is_won ["council", "lot"] sp_is_won) (T : Txt K mg "swings_of" S_swings_of) : Has P w K mg base 4 "swings_of" S_swings_of ["council"] sp_swings_of :=
  T.has sc_swings_of len_swings_of fun f cdv A outer s H hr hgd => ⟨db_swings_of,
    (dss_cons (ds_asg (de_op o_times (de_new (dl_lst (da_cons de_int da_nil))) (de_callB c_len B.z_len bt_len (da_cons (de_ix (de_var 0) de_int) da_nil))) (dg_name 1 sc_swings_of.nd)) (dss_cons (ds_for (di_seq (de_fn h_won_lots (hr.mono (by decide)) hgd (da_cons (de_var 0) da_nil) (fun _ _ _ _ _ _ us ws h1 h2 => match us, ws, h1, h2 with | [_], [], _, _ => ⟨rfl, rfl⟩))) (dg_name 2 sc_swings_of.nd) (dss_one (ds_for (di_enum2 B.z_enumerate (de_var 2)) (dg_tup (dgs_cons (dg_name 3 sc_swings_of.nd) (dgs_cons (dg_name 4 sc_swings_of.nd) dgs_nil))) (dss_one (ds_asg (de_op o_plus (de_ix (de_var 1) (de_var 4)) (de_if (dt_val (de_fn h_is_won (hr.mono (by decide)) hgd (da_cons (de_var 0) (da_cons (de_op o_plus (de_slice (de_var 2) do_none (do_some (de_var 3))) (de_slice (de_var 2) (do_some (de_op o_plus (de_var 3) de_int)) do_none)) da_nil)) (fun _ _ _ _ _ _ us ws h1 h2 => match us, ws, h1, h2 with | [_, _], [], _, _ => ⟨rfl, rfl⟩))) de_int de_int)) (dg_sub (de_var 1) (de_var 4))))))) (dss_one (ds_ret (de_var 1))))),
    pf_swings_of⟩
abbrev S_is_winning : Stmt := topS 24
theorem sc_is_winning : FnScope ["council", "lot"] ["council", "lot"] (defScope S_is_winning) := ⟨rfl, rfl, rfl, by decide +kernel, rfl, by decide +kernel, by decide +kernel⟩
theorem has_is_winning (B : Bt mg) (h_want_council : Has P w K mg base 4 "want_council" S_want_council ["council"] sp_want_council) (h_want_lot : Has P w K mg base 4 "want_lot" S_want_lot ["many", "lot"] sp_want_lot) (h_is_won : Has P w K mg base 2 "is_won" S_is_won ["council", "lot"] sp_is_won) (T : Txt K mg "is_winning" S_is_winning) : Has P w K mg base 5 "is_winning" S_is_winning ["council", "lot"] sp_is_winning :=
  T.has sc_is_winning len_is_winning fun f cdv A outer s H hr hgd => ⟨db_is_winning,
    (dss_cons (ds_expr (de_fn h_want_council (hr.mono (by decide)) hgd (da_cons (de_var 0) da_nil) (fun _ _ _ _ _ _ us ws h1 h2 => match us, ws, h1, h2 with | [_], [], _, _ => ⟨rfl, rfl⟩))) (dss_cons (ds_expr (de_fn h_want_lot (hr.mono (by decide)) hgd (da_cons (de_callB c_len B.z_len bt_len (da_cons (de_ix (de_var 0) de_int) da_nil)) (da_cons (de_var 1) da_nil)) (fun _ _ _ _ _ _ us ws h1 h2 => match us, ws, h1, h2 with | [_, _], [], _, _ => ⟨rfl, rfl⟩))) (dss_one (ds_ret (de_fn h_is_won (hr.mono (by decide)) hgd (da_cons (de_var 0) (da_cons (de_var 1) da_nil)) (fun _ _ _ _ _ _ us ws h1 h2 => match us, ws, h1, h2 with | [_, _], [], _, _ => ⟨rfl, rfl⟩)))))),
    pf_is_winning⟩
abbrev S_does_block : Stmt := topS 25
theorem sc_does_block : FnScope ["council", "lot"] ["council", "lot"] (defScope S_does_block) := ⟨rfl, rfl, rfl, by decide +kernel, rfl, by decide +kernel, by decide +kernel⟩
theorem has_does_block (B : Bt mg) (h_want_council : Has P w K mg base 4 "want_council" S_want_council ["council"] sp_want_council) (h_want_lot : Has P w K mg base 4 "want_lot" S_want_lot ["many", "lot"] sp_want_lot) (h_rest_of : Has P w K mg base 1 "rest_of" S_rest_of ["many", "lot"] sp_rest_of) (h_is_won : Has P w K mg base 2 "is_won" S_is_won ["council", "lot"] sp_is_won) (T : Txt K mg "does_block" S_does_block) : Has P w K mg base 5 "does_block" S_does_block ["council", "lot"] sp_does_block :=
  T.has sc_does_block len_does_block fun f cdv A outer s H hr hgd => ⟨db_does_block,
    (dss_cons (ds_expr (de_fn h_want_council (hr.mono (by decide)) hgd (da_cons (de_var 0) da_nil) (fun _ _ _ _ _ _ us ws h1 h2 => match us, ws, h1, h2 with | [_], [], _, _ => ⟨rfl, rfl⟩))) (dss_cons (ds_expr (de_fn h_want_lot (hr.mono (by decide)) hgd (da_cons (de_callB c_len B.z_len bt_len (da_cons (de_ix (de_var 0) de_int) da_nil)) (da_cons (de_var 1) da_nil)) (fun _ _ _ _ _ _ us ws h1 h2 => match us, ws, h1, h2 with | [_, _], [], _, _ => ⟨rfl, rfl⟩))) (dss_one (ds_ret (de_not (de_fn h_is_won (hr.mono (by decide)) hgd (da_cons (de_var 0) (da_cons (de_fn h_rest_of (hr.mono (by decide)) hgd (da_cons (de_callB c_len B.z_len bt_len (da_cons (de_ix (de_var 0) de_int) da_nil)) (da_cons (de_var 1) da_nil)) (fun _ _ _ _ _ _ us ws h1 h2 => match us, ws, h1, h2 with | [_, _], [], _, _ => ⟨rfl, rfl⟩)) da_nil)) (fun _ _ _ _ _ _ us ws h1 h2 => match us, ws, h1, h2 with | [_, _], [], _, _ => ⟨rfl, rfl⟩))))))),
    pf_does_block⟩
abbrev S_least_winning : Stmt := topS 26
theorem sc_least_winning : FnScope ["council"] ["council"] (defScope S_least_winning) := ⟨rfl, rfl, rfl, by decide +kernel, rfl, by decide +kernel, by decide +kernel⟩
theorem has_least_winning (h_want_council : Has P w K mg base 4 "want_council" S_want_council ["council"] sp_want_council) (h_least_won : Has P w K mg base 4 "least_won" S_least_won ["council"] sp_least_won) (T : Txt K mg "least_winning" S_least_winning) : Has P w K mg base 5 "least_winning" S_least_winning ["council"] sp_least_winning :=
  T.has sc_least_winning len_least_winning fun f cdv A outer s H hr hgd => ⟨db_least_winning,
    (dss_cons (ds_expr (de_fn h_want_council (hr.mono (by decide)) hgd (da_cons (de_var 0) da_nil) (fun _ _ _ _ _ _ us ws h1 h2 => match us, ws, h1, h2 with | [_], [], _, _ => ⟨rfl, rfl⟩))) (dss_one (ds_ret (de_fn h_least_won (hr.mono (by decide)) hgd (da_cons (de_var 0) da_nil) (fun _ _ _ _ _ _ us ws h1 h2 => match us, ws, h1, h2 with | [_], [], _, _ => ⟨rfl, rfl⟩))))),
    pf_least_winning⟩
abbrev S_idle_lists : Stmt := topS 27
theorem sc_idle_lists : FnScope ["council", "one", "many"] ["council"] (defScope S_idle_lists) := ⟨rfl, rfl, rfl, by decide +kernel, rfl, by decide +kernel, by decide +kernel⟩
theorem has_idle_lists (B : Bt mg) (h_want_council : Has P w K mg base 4 "want_council" S_want_council ["council"] sp_want_council) (h_swings_of : Has P w K mg base 4 "swings_of" S_swings_of ["council"] sp_swings_of) (T : Txt K mg "idle_lists" S_idle_lists) : Has P w K mg base 5 "idle_lists" S_idle_lists ["council"] sp_idle_lists :=
  T.has sc_idle_lists len_idle_lists fun f cdv A outer s H hr hgd => ⟨db_idle_lists,
    (dss_cons (ds_expr (de_fn h_want_council (hr.mono (by decide)) hgd (da_cons (de_var 0) da_nil) (fun _ _ _ _ _ _ us ws h1 h2 => match us, ws, h1, h2 with | [_], [], _, _ => ⟨rfl, rfl⟩))) (dss_one (ds_ret (de_ofTy s_tup B.z_tuple bt_tuple (dl_lc [("one", 1), ("many", 2)] sc_idle_lists.nd (di_enum2 B.z_enumerate (de_fn h_swings_of (hr.mono (by decide)) hgd (da_cons (de_var 0) da_nil) (fun _ _ _ _ _ _ us ws h1 h2 => match us, ws, h1, h2 with | [_], [], _, _ => ⟨rfl, rfl⟩))) (own_pair 1 2 fun _ _ _ _ _ => pg_tup rfl (pgs_cons (pg_name (i := 1) sc_idle_lists.nd rfl (by first | exact Or.inl rfl | exact Or.inr rfl | exact Or.inr (Or.inl rfl))) (pgs_cons (pg_name (i := 2) sc_idle_lists.nd rfl (by first | exact Or.inl rfl | exact Or.inr rfl | exact Or.inr (Or.inl rfl))) pgs_nil))) (fun _ _ _ _ _ => (dts_one (dt_cmp (o_eq hr.units) (de_var 2) de_int))) (fun _ _ _ _ _ => (de_var 1))))))),
    pf_idle_lists⟩
abbrev S_veto_lists : Stmt := topS 28
theorem sc_veto_lists : FnScope ["council", "some", "one", "lot"] ["council"] (defScope S_veto_lists) := ⟨rfl, rfl, rfl, by decide +kernel, rfl, by decide +kernel, by decide +kernel⟩
theorem has_veto_lists (B : Bt mg) (h_want_council : Has P w K mg base 4 "want_council" S_want_council ["council"] sp_want_council) (h_least_won : Has P w K mg base 4 "least_won" S_least_won ["council"] sp_least_won) (T : Txt K mg "veto_lists" S_veto_lists) : Has P w K mg base 5 "veto_lists" S_veto_lists ["council"] sp_veto_lists :=
  T.has sc_veto_lists len_veto_lists fun f cdv A outer s H hr hgd => ⟨db_veto_lists,
    (dss_cons (ds_expr (de_fn h_want_council (hr.mono (by decide)) hgd (da_cons (de_var 0) da_nil) (fun _ _ _ _ _ _ us ws h1 h2 => match us, ws, h1, h2 with | [_], [], _, _ => ⟨rfl, rfl⟩))) (dss_cons (ds_asg (de_fn h_least_won (hr.mono (by decide)) hgd (da_cons (de_var 0) da_nil) (fun _ _ _ _ _ _ us ws h1 h2 => match us, ws, h1, h2 with | [_], [], _, _ => ⟨rfl, rfl⟩)) (dg_name 1 sc_veto_lists.nd)) (dss_one (ds_ret (de_ofTy s_tup B.z_tuple bt_tuple (dl_lc [("one", 2)] sc_veto_lists.nd (di_r1 B.z_range (da_cons (de_callB c_len B.z_len bt_len (da_cons (de_ix (de_var 0) de_int) da_nil)) da_nil)) (own_name 2 fun _ _ _ _ _ => pg_name sc_veto_lists.nd rfl (by first | exact Or.inl rfl | exact Or.inr rfl | exact Or.inr (Or.inl rfl))) (fun _ _ _ _ _ => (dts_one (dt_val (de_ofB (s_all rfl) B.z_all bt_all (dl_lc [("lot", 3)] sc_veto_lists.nd (di_seq (de_var 1)) (own_name 3 fun _ _ _ _ _ => pg_name sc_veto_lists.nd rfl (by first | exact Or.inl rfl | exact Or.inr rfl | exact Or.inr (Or.inl rfl))) (fun _ _ _ _ _ => dts_nil) (fun _ _ _ _ _ => (de_cmp o_in (de_var 2) (de_var 3)))))))) (fun _ _ _ _ _ => (de_var 2)))))))),
    pf_veto_lists⟩
abbrev S_dictator : Stmt := topS 29
theorem sc_dictator : FnScope ["council", "some"] ["council"] (defScope S_dictator) := ⟨rfl, rfl, rfl, by decide +kernel, rfl, by decide +kernel, by decide +kernel⟩
theorem has_dictator (B : Bt mg) (h_want_council : Has P w K mg base 4 "want_council" S_want_council ["council"] sp_want_council) (h_least_won : Has P w K mg base 4 "least_won" S_least_won ["council"] sp_least_won) (T : Txt K mg "dictator" S_dictator) : Has P w K mg base 5 "dictator" S_dictator ["council"] sp_dictator :=
  T.has sc_dictator len_dictator fun f cdv A outer s H hr hgd => ⟨db_dictator,
    (dss_cons (ds_expr (de_fn h_want_council (hr.mono (by decide)) hgd (da_cons (de_var 0) da_nil) (fun _ _ _ _ _ _ us ws h1 h2 => match us, ws, h1, h2 with | [_], [], _, _ => ⟨rfl, rfl⟩))) (dss_cons (ds_asg (de_fn h_least_won (hr.mono (by decide)) hgd (da_cons (de_var 0) da_nil) (fun _ _ _ _ _ _ us ws h1 h2 => match us, ws, h1, h2 with | [_], [], _, _ => ⟨rfl, rfl⟩)) (dg_name 1 sc_dictator.nd)) (dss_one (ds_ret (de_if (PWD.pt (dw_and (dt_cmp (o_eq hr.units) (de_callB c_len B.z_len bt_len (da_cons (de_var 1) da_nil)) de_int) (dw_and1 (dt_cmp (o_eq hr.units) (de_callB c_len B.z_len bt_len (da_cons (de_ix (de_var 1) de_int) da_nil)) de_int)))) (de_ix (de_ix (de_var 1) de_int) de_int) de_non))))),
    pf_dictator⟩
abbrev S_is_proper : Stmt := topS 30
theorem sc_is_proper : FnScope ["council", "many", "lot"] ["council"] (defScope S_is_proper) := ⟨rfl, rfl, rfl, by decide +kernel, rfl, by decide +kernel, by decide +kernel⟩
theorem has_is_proper (B : Bt mg) (h_want_council : Has P w K mg base 4 "want_council" S_want_council ["council"] sp_want_council) (h_won_lots : Has P w K mg base 3 "won_lots" S_won_lots ["council"] sp_won_lots) (h_rest_of : Has P w K mg base 1 "rest_of" S_rest_of ["many", "lot"] sp_rest_of) (h_is_won : Has P w K mg base 2 "is_won" S_is_won ["council", "lot"] sp_is_won) (T : Txt K mg "is_proper" S_is_proper) : Has P w K mg base 5 "is_proper" S_is_proper ["council"] sp_is_proper :=
  T.has sc_is_proper len_is_proper fun f cdv A outer s H hr hgd => ⟨db_is_proper,
    (dss_cons (ds_expr (de_fn h_want_council (hr.mono (by decide)) hgd (da_cons (de_var 0) da_nil) (fun _ _ _ _ _ _ us ws h1 h2 => match us, ws, h1, h2 with | [_], [], _, _ => ⟨rfl, rfl⟩))) (dss_cons (ds_asg (de_callB c_len B.z_len bt_len (da_cons (de_ix (de_var 0) de_int) da_nil)) (dg_name 1 sc_is_proper.nd)) (dss_one (ds_ret (de_not (de_ofB (s_any rfl) B.z_any bt_any (dl_lc [("lot", 2)] sc_is_proper.nd (di_seq (de_fn h_won_lots (hr.mono (by decide)) hgd (da_cons (de_var 0) da_nil) (fun _ _ _ _ _ _ us ws h1 h2 => match us, ws, h1, h2 with | [_], [], _, _ => ⟨rfl, rfl⟩))) (own_name 2 fun _ _ _ _ _ => pg_name sc_is_proper.nd rfl (by first | exact Or.inl rfl | exact Or.inr rfl | exact Or.inr (Or.inl rfl))) (fun _ _ _ _ _ => dts_nil) (fun _ _ _ _ _ => (de_fn h_is_won (hr.mono (by decide)) hgd (da_cons (de_var 0) (da_cons (de_fn h_rest_of (hr.mono (by decide)) hgd (da_cons (de_var 1) (da_cons (de_var 2) da_nil)) (fun _ _ _ _ _ _ us ws h1 h2 => match us, ws, h1, h2 with | [_, _], [], _, _ => ⟨rfl, rfl⟩)) da_nil)) (fun _ _ _ _ _ _ us ws h1 h2 => match us, ws, h1, h2 with | [_, _], [], _, _ => ⟨rfl, rfl⟩)))))))))),
    pf_is_proper⟩
abbrev S_is_deciding : Stmt := topS 31
theorem sc_is_deciding : FnScope ["council", "many", "lot"] ["council"] (defScope S_is_deciding) := ⟨rfl, rfl, rfl, by decide +kernel, rfl, by decide +kernel, by decide +kernel⟩
theorem has_is_deciding (B : Bt mg) (h_want_council : Has P w K mg base 4 "want_council" S_want_council ["council"] sp_want_council) (h_all_lots : Has P w K mg base 1 "all_lots" S_all_lots ["many"] sp_all_lots) (h_is_won : Has P w K mg base 2 "is_won" S_is_won ["council", "lot"] sp_is_won) (h_rest_of : Has P w K mg base 1 "rest_of" S_rest_of ["many", "lot"] sp_rest_of) (T : Txt K mg "is_deciding" S_is_deciding) : Has P w K mg base 5 "is_deciding" S_is_deciding ["council"] sp_is_deciding :=
  T.has sc_is_deciding len_is_deciding fun f cdv A outer s H hr hgd => ⟨db_is_deciding,
    (dss_cons (ds_expr (de_fn h_want_council (hr.mono (by decide)) hgd (da_cons (de_var 0) da_nil) (fun _ _ _ _ _ _ us ws h1 h2 => match us, ws, h1, h2 with | [_], [], _, _ => ⟨rfl, rfl⟩))) (dss_cons (ds_asg (de_callB c_len B.z_len bt_len (da_cons (de_ix (de_var 0) de_int) da_nil)) (dg_name 1 sc_is_deciding.nd)) (dss_one (ds_ret (de_ofB (s_all rfl) B.z_all bt_all (dl_lc [("lot", 2)] sc_is_deciding.nd (di_seq (de_fn h_all_lots (hr.mono (by decide)) hgd (da_cons (de_var 1) da_nil) (fun _ _ _ _ _ _ us ws h1 h2 => match us, ws, h1, h2 with | [_], [], _, _ => ⟨rfl, rfl⟩))) (own_name 2 fun _ _ _ _ _ => pg_name sc_is_deciding.nd rfl (by first | exact Or.inl rfl | exact Or.inr rfl | exact Or.inr (Or.inl rfl))) (fun _ _ _ _ _ => dts_nil) (fun _ _ _ _ _ => (de_cmp (o_ne hr.units) (de_fn h_is_won (hr.mono (by decide)) hgd (da_cons (de_var 0) (da_cons (de_var 2) da_nil)) (fun _ _ _ _ _ _ us ws h1 h2 => match us, ws, h1, h2 with | [_, _], [], _, _ => ⟨rfl, rfl⟩)) (de_fn h_is_won (hr.mono (by decide)) hgd (da_cons (de_var 0) (da_cons (de_fn h_rest_of (hr.mono (by decide)) hgd (da_cons (de_var 1) (da_cons (de_var 2) da_nil)) (fun _ _ _ _ _ _ us ws h1 h2 => match us, ws, h1, h2 with | [_, _], [], _, _ => ⟨rfl, rfl⟩)) da_nil)) (fun _ _ _ _ _ _ us ws h1 h2 => match us, ws, h1, h2 with | [_, _], [], _, _ => ⟨rfl, rfl⟩)))))))))),
    pf_is_deciding⟩
abbrev S_law_right : Stmt := topS 43
theorem sc_law_right : FnScope ["council", "shown", "many", "every", "idle", "one", "rows", "lot", "late", "veto", "heads", "proper", "deciding", "dues", "told", "named", "seats", "quota", "less"] ["council"] (defScope S_law_right) := ⟨rfl, rfl, rfl, by decide +kernel, rfl, by decide +kernel, by decide +kernel⟩
theorem has_law_right (B : Bt mg) (h_law_lots : Has P w K mg base 1 "_law_lots" S_law_lots ["many"] sp_law_lots) (h_law_wins : Has P w K mg base 1 "_law_wins" S_law_wins ["council", "lot"] sp_law_wins) (h_law_rest : Has P w K mg base 1 "_law_rest" S_law_rest ["many", "lot"] sp_law_rest) (h_is_deciding : Has P w K mg base 5 "is_deciding" S_is_deciding ["council"] sp_is_deciding) (h_is_proper : Has P w K mg base 5 "is_proper" S_is_proper ["council"] sp_is_proper) (h_dictator : Has P w K mg base 5 "dictator" S_dictator ["council"] sp_dictator) (h_veto_lists : Has P w K mg base 5 "veto_lists" S_veto_lists ["council"] sp_veto_lists) (h_idle_lists : Has P w K mg base 5 "idle_lists" S_idle_lists ["council"] sp_idle_lists) (h_does_block : Has P w K mg base 5 "does_block" S_does_block ["council", "lot"] sp_does_block) (h_is_winning : Has P w K mg base 5 "is_winning" S_is_winning ["council", "lot"] sp_is_winning) (h_least_winning : Has P w K mg base 5 "least_winning" S_least_winning ["council"] sp_least_winning) (T : Txt K mg "_law_right" S_law_right) : Has P w K mg base 6 "_law_right" S_law_right ["council"] sp_law_right :=
  T.has sc_law_right len_law_right fun f cdv A outer s H hr hgd => ⟨db_law_right,
    (dss_cons (ds_asg (de_tup (da_cons (de_callB (c_repr hgd hr.units) B.z_repr bt_repr (da_cons (de_var 0) da_nil)) (da_cons (de_callB c_len B.z_len bt_len (da_cons (de_ix (de_var 0) de_int) da_nil)) da_nil))) (dg_tup (dgs_cons (dg_name 1 sc_law_right.nd) (dgs_cons (dg_name 2 sc_law_right.nd) dgs_nil)))) (dss_cons (ds_asg (de_fn h_law_lots (hr.mono (by decide)) hgd (da_cons (de_var 2) da_nil) (fun _ _ _ _ _ _ us ws h1 h2 => match us, ws, h1, h2 with | [_], [], _, _ => ⟨rfl, rfl⟩)) (dg_name 3 sc_law_right.nd)) (dss_cons (ds_asg (de_new (dl_lst da_nil)) (dg_name 4 sc_law_right.nd)) (dss_cons (ds_for (di_r1 B.z_range (da_cons (de_var 2) da_nil)) (dg_name 5 sc_law_right.nd) (dss_cons (ds_setLc 6 [("lot", 7)] sc_law_right.nd (di_seq (de_var 3)) (own_name 7 fun _ _ _ _ _ => pg_name sc_law_right.nd rfl (by first | exact Or.inl rfl | exact Or.inr rfl | exact Or.inr (Or.inl rfl))) (fun _ _ _ _ _ => (dts_one (PWD.pt (dw_and (dt_cmp o_in (de_var 5) (de_var 7)) (dw_and (dt_val (de_fn h_law_wins (hr.mono (by decide)) hgd (da_cons (de_var 0) (da_cons (de_var 7) da_nil)) (fun _ _ _ _ _ _ us ws h1 h2 => match us, ws, h1, h2 with | [_, _], [], _, _ => ⟨rfl, rfl⟩))) (dw_and1 (dt_not (dt_val (de_fn h_law_wins (hr.mono (by decide)) hgd (da_cons (de_var 0) (da_cons (de_ofTy s_tup B.z_tuple bt_tuple (dl_lc [("late", 8)] sc_law_right.nd (di_seq (de_var 7)) (own_name 8 fun _ _ _ _ _ => pg_name sc_law_right.nd rfl (by first | exact Or.inl rfl | exact Or.inr rfl | exact Or.inr (Or.inl rfl))) (fun _ _ _ _ _ => (dts_one (dt_cmp (o_ne hr.units) (de_var 8) (de_var 5)))) (fun _ _ _ _ _ => (de_var 8)))) da_nil)) (fun _ _ _ _ _ _ us ws h1 h2 => match us, ws, h1, h2 with | [_, _], [], _, _ => ⟨rfl, rfl⟩)))))))))) (fun _ _ _ _ _ => (de_var 7))) (dss_one (ds_expr (de_extendL (de_var 4) (dl_if (dt_cmp (o_eq hr.units) (de_var 6) (de_new (dl_lst da_nil))) (dl_lst (da_cons (de_var 5) da_nil)) (dl_lst da_nil))))))) (dss_cons (ds_setLc 9 [("one", 5)] sc_law_right.nd (di_r1 B.z_range (da_cons (de_var 2) da_nil)) (own_name 5 fun _ _ _ _ _ => pg_name sc_law_right.nd rfl (by first | exact Or.inl rfl | exact Or.inr rfl | exact Or.inr (Or.inl rfl))) (fun _ _ _ _ _ => (dts_one (dt_val (de_ofB (s_all rfl) B.z_all bt_all (dl_lc [("lot", 7)] sc_law_right.nd (di_seq (de_var 3)) (own_name 7 fun _ _ _ _ _ => pg_name sc_law_right.nd rfl (by first | exact Or.inl rfl | exact Or.inr rfl | exact Or.inr (Or.inl rfl))) (fun _ _ _ _ _ => (dts_one (dt_val (de_fn h_law_wins (hr.mono (by decide)) hgd (da_cons (de_var 0) (da_cons (de_var 7) da_nil)) (fun _ _ _ _ _ _ us ws h1 h2 => match us, ws, h1, h2 with | [_, _], [], _, _ => ⟨rfl, rfl⟩))))) (fun _ _ _ _ _ => (de_cmp o_in (de_var 5) (de_var 7)))))))) (fun _ _ _ _ _ => (de_var 5))) (dss_cons (ds_setLc 10 [("one", 5)] sc_law_right.nd (di_seq (de_var 9)) (own_name 5 fun _ _ _ _ _ => pg_name sc_law_right.nd rfl (by first | exact Or.inl rfl | exact Or.inr rfl | exact Or.inr (Or.inl rfl))) (fun _ _ _ _ _ => (dts_one (dt_val (de_fn h_law_wins (hr.mono (by decide)) hgd (da_cons (de_var 0) (da_cons (de_tup (da_cons (de_var 5) da_nil)) da_nil)) (fun _ _ _ _ _ _ us ws h1 h2 => match us, ws, h1, h2 with | [_, _], [], _, _ => ⟨rfl, rfl⟩))))) (fun _ _ _ _ _ => (de_var 5))) (dss_cons (ds_asg (de_not (de_ofB (s_any rfl) B.z_any bt_any (dl_lc [("lot", 7)] sc_law_right.nd (di_seq (de_var 3)) (own_name 7 fun _ _ _ _ _ => pg_name sc_law_right.nd rfl (by first | exact Or.inl rfl | exact Or.inr rfl | exact Or.inr (Or.inl rfl))) (fun _ _ _ _ _ => dts_nil) (fun _ _ _ _ _ => (de_and (de_fn h_law_wins (hr.mono (by decide)) hgd (da_cons (de_var 0) (da_cons (de_var 7) da_nil)) (fun _ _ _ _ _ _ us ws h1 h2 => match us, ws, h1, h2 with | [_, _], [], _, _ => ⟨rfl, rfl⟩)) (de_one (de_fn h_law_wins (hr.mono (by decide)) hgd (da_cons (de_var 0) (da_cons (de_fn h_law_rest (hr.mono (by decide)) hgd (da_cons (de_var 2) (da_cons (de_var 7) da_nil)) (fun _ _ _ _ _ _ us ws h1 h2 => match us, ws, h1, h2 with | [_, _], [], _, _ => ⟨rfl, rfl⟩)) da_nil)) (fun _ _ _ _ _ _ us ws h1 h2 => match us, ws, h1, h2 with | [_, _], [], _, _ => ⟨rfl, rfl⟩)))))))) (dg_name 11 sc_law_right.nd)) (dss_cons (ds_asg (de_ofB (s_all rfl) B.z_all bt_all (dl_lc [("lot", 7)] sc_law_right.nd (di_seq (de_var 3)) (own_name 7 fun _ _ _ _ _ => pg_name sc_law_right.nd rfl (by first | exact Or.inl rfl | exact Or.inr rfl | exact Or.inr (Or.inl rfl))) (fun _ _ _ _ _ => dts_nil) (fun _ _ _ _ _ => (de_cmp (o_ne hr.units) (de_fn h_law_wins (hr.mono (by decide)) hgd (da_cons (de_var 0) (da_cons (de_var 7) da_nil)) (fun _ _ _ _ _ _ us ws h1 h2 => match us, ws, h1, h2 with | [_, _], [], _, _ => ⟨rfl, rfl⟩)) (de_fn h_law_wins (hr.mono (by decide)) hgd (da_cons (de_var 0) (da_cons (de_fn h_law_rest (hr.mono (by decide)) hgd (da_cons (de_var 2) (da_cons (de_var 7) da_nil)) (fun _ _ _ _ _ _ us ws h1 h2 => match us, ws, h1, h2 with | [_, _], [], _, _ => ⟨rfl, rfl⟩)) da_nil)) (fun _ _ _ _ _ _ us ws h1 h2 => match us, ws, h1, h2 with | [_, _], [], _, _ => ⟨rfl, rfl⟩)))))) (dg_name 12 sc_law_right.nd)) (dss_cons (ds_asg (de_new (dl_lst (da_cons (de_callTy s_tup.call B.z_tuple bt_tuple (da_cons (de_var 4) da_nil)) (da_cons (de_callTy s_tup.call B.z_tuple bt_tuple (da_cons (de_var 9) da_nil)) (da_cons (de_if (dt_cmp (o_ne hr.units) (de_var 10) (de_new (dl_lst da_nil))) (de_ix (de_var 10) de_int) de_non) (da_cons (de_var 11) (da_cons (de_var 12) da_nil))))))) (dg_name 13 sc_law_right.nd)) (dss_cons (ds_asg (de_new (dl_lst (da_cons (de_fn h_idle_lists (hr.mono (by decide)) hgd (da_cons (de_var 0) da_nil) (fun _ _ _ _ _ _ us ws h1 h2 => match us, ws, h1, h2 with | [_], [], _, _ => ⟨rfl, rfl⟩)) (da_cons (de_fn h_veto_lists (hr.mono (by decide)) hgd (da_cons (de_var 0) da_nil) (fun _ _ _ _ _ _ us ws h1 h2 => match us, ws, h1, h2 with | [_], [], _, _ => ⟨rfl, rfl⟩)) (da_cons (de_fn h_dictator (hr.mono (by decide)) hgd (da_cons (de_var 0) da_nil) (fun _ _ _ _ _ _ us ws h1 h2 => match us, ws, h1, h2 with | [_], [], _, _ => ⟨rfl, rfl⟩)) (da_cons (de_fn h_is_proper (hr.mono (by decide)) hgd (da_cons (de_var 0) da_nil) (fun _ _ _ _ _ _ us ws h1 h2 => match us, ws, h1, h2 with | [_], [], _, _ => ⟨rfl, rfl⟩)) (da_cons (de_fn h_is_deciding (hr.mono (by decide)) hgd (da_cons (de_var 0) da_nil) (fun _ _ _ _ _ _ us ws h1 h2 => match us, ws, h1, h2 with | [_], [], _, _ => ⟨rfl, rfl⟩)) da_nil))))))) (dg_name 14 sc_law_right.nd)) (dss_cons (ds_asg (de_new (dl_lst (da_cons (de_fnK (ks := ["council"]) [0] h_idle_lists (hr.mono (by decide)) hgd (dk_cons (de_var 0) dk_nil) (fun _ _ _ _ _ _ us ws h1 h2 => match us, ws, h1, h2 with | [], [_], _, _ => ⟨rfl, rfl⟩)) (da_cons (de_fnK (ks := ["council"]) [0] h_veto_lists (hr.mono (by decide)) hgd (dk_cons (de_var 0) dk_nil) (fun _ _ _ _ _ _ us ws h1 h2 => match us, ws, h1, h2 with | [], [_], _, _ => ⟨rfl, rfl⟩)) (da_cons (de_fnK (ks := ["council"]) [0] h_dictator (hr.mono (by decide)) hgd (dk_cons (de_var 0) dk_nil) (fun _ _ _ _ _ _ us ws h1 h2 => match us, ws, h1, h2 with | [], [_], _, _ => ⟨rfl, rfl⟩)) (da_cons (de_fnK (ks := ["council"]) [0] h_is_proper (hr.mono (by decide)) hgd (dk_cons (de_var 0) dk_nil) (fun _ _ _ _ _ _ us ws h1 h2 => match us, ws, h1, h2 with | [], [_], _, _ => ⟨rfl, rfl⟩)) (da_cons (de_fnK (ks := ["council"]) [0] h_is_deciding (hr.mono (by decide)) hgd (dk_cons (de_var 0) dk_nil) (fun _ _ _ _ _ _ us ws h1 h2 => match us, ws, h1, h2 with | [], [_], _, _ => ⟨rfl, rfl⟩)) da_nil))))))) (dg_name 15 sc_law_right.nd)) (dss_cons (ds_if (dt_cmp (o_ne hr.units) (de_callB (c_repr hgd hr.units) B.z_repr bt_repr (da_cons (de_new (dl_lst (da_cons (de_var 14) (da_cons (de_var 15) da_nil)))) da_nil)) (de_callB (c_repr hgd hr.units) B.z_repr bt_repr (da_cons (de_new (dl_lst (da_cons (de_var 13) (da_cons (de_var 13) da_nil)))) da_nil))) (dss_one (ds_ret de_bl)) dss_nil) (dss_cons (ds_if (dt_cmp (o_ne hr.units) (de_var 12) (de_and (de_var 11) (de_one (de_ofB (s_all rfl) B.z_all bt_all (dl_lc [("lot", 7)] sc_law_right.nd (di_seq (de_var 3)) (own_name 7 fun _ _ _ _ _ => pg_name sc_law_right.nd rfl (by first | exact Or.inl rfl | exact Or.inr rfl | exact Or.inr (Or.inl rfl))) (fun _ _ _ _ _ => (dts_one (dt_val (de_fn h_does_block (hr.mono (by decide)) hgd (da_cons (de_var 0) (da_cons (de_var 7) da_nil)) (fun _ _ _ _ _ _ us ws h1 h2 => match us, ws, h1, h2 with | [_, _], [], _, _ => ⟨rfl, rfl⟩))))) (fun _ _ _ _ _ => (de_fn h_is_winning (hr.mono (by decide)) hgd (da_cons (de_var 0) (da_cons (de_var 7) da_nil)) (fun _ _ _ _ _ _ us ws h1 h2 => match us, ws, h1, h2 with | [_, _], [], _, _ => ⟨rfl, rfl⟩)))))))) (dss_one (ds_ret de_bl)) dss_nil) (dss_cons (ds_asg (de_ofTy s_tup B.z_tuple bt_tuple (dl_lc [("one", 5)] sc_law_right.nd (di_r1 B.z_range (da_cons (de_var 2) da_nil)) (own_name 5 fun _ _ _ _ _ => pg_name sc_law_right.nd rfl (by first | exact Or.inl rfl | exact Or.inr rfl | exact Or.inr (Or.inl rfl))) (fun _ _ _ _ _ => dts_nil) (fun _ _ _ _ _ => (de_if (dt_cmp o_in (de_var 5) (de_var 4)) de_int (de_ix (de_ix (de_var 0) de_int) (de_var 5)))))) (dg_name 16 sc_law_right.nd)) (dss_cons (ds_asg (de_ofB (s_min rfl) B.z_min bt_min (dl_lc [("lot", 7)] sc_law_right.nd (di_seq (de_var 3)) (own_name 7 fun _ _ _ _ _ => pg_name sc_law_right.nd rfl (by first | exact Or.inl rfl | exact Or.inr rfl | exact Or.inr (Or.inl rfl))) (fun _ _ _ _ _ => (dts_one (dt_val (de_fn h_law_wins (hr.mono (by decide)) hgd (da_cons (de_var 0) (da_cons (de_var 7) da_nil)) (fun _ _ _ _ _ _ us ws h1 h2 => match us, ws, h1, h2 with | [_, _], [], _, _ => ⟨rfl, rfl⟩))))) (fun _ _ _ _ _ => (de_ofB (s_sum rfl) B.z_sum bt_sum (dl_lc [("one", 5)] sc_law_right.nd (di_seq (de_var 7)) (own_name 5 fun _ _ _ _ _ => pg_name sc_law_right.nd rfl (by first | exact Or.inl rfl | exact Or.inr rfl | exact Or.inr (Or.inl rfl))) (fun _ _ _ _ _ => dts_nil) (fun _ _ _ _ _ => (de_ix (de_var 16) (de_var 5)))))))) (dg_name 17 sc_law_right.nd)) (dss_cons (ds_asg (de_tup (da_cons de_str (da_cons (de_var 16) (da_cons (de_var 17) da_nil)))) (dg_name 18 sc_law_right.nd)) (dss_one (ds_ret (de_and (de_cmp (o_eq hr.units) (de_fn h_least_winning (hr.mono (by decide)) hgd (da_cons (de_var 18) da_nil) (fun _ _ _ _ _ _ us ws h1 h2 => match us, ws, h1, h2 with | [_], [], _, _ => ⟨rfl, rfl⟩)) (de_fn h_least_winning (hr.mono (by decide)) hgd (da_cons (de_var 0) da_nil) (fun _ _ _ _ _ _ us ws h1 h2 => match us, ws, h1, h2 with | [_], [], _, _ => ⟨rfl, rfl⟩))) (de_and (de_setEq 4 rfl hr.units B.z_set (de_fn h_idle_lists (hr.mono (by decide)) hgd (da_cons (de_var 18) da_nil) (fun _ _ _ _ _ _ us ws h1 h2 => match us, ws, h1, h2 with | [_], [], _, _ => ⟨rfl, rfl⟩))) (de_one (de_cmp (o_eq hr.units) (de_callB (c_repr hgd hr.units) B.z_repr bt_repr (da_cons (de_var 0) da_nil)) (de_var 1))))))))))))))))))))))),
    pf_law_right⟩
abbrev S_law : Stmt := topS 44
theorem sc_law : FnScope ["script"] ["script"] (defScope S_law) := ⟨rfl, rfl, rfl, by decide +kernel, rfl, by decide +kernel, by decide +kernel⟩
theorem has_law (h_law_pot : Has P w K mg base 1 "_law_pot" S_law_pot ["script", "k"] sp_law_pot) (h_law_council : Has P w K mg base 3 "_law_council" S_law_council ["pot", "most"] sp_law_council) (h_law_right : Has P w K mg base 6 "_law_right" S_law_right ["council"] sp_law_right) (T : Txt K mg "law" S_law) : Has P w K mg base 7 "law" S_law ["script"] sp_law :=
  T.has sc_law len_law fun f cdv A outer s H hr hgd => ⟨db_law,
    (dss_one (ds_ret (de_and (de_fn h_law_right (hr.mono (by decide)) hgd (da_cons (de_fn h_law_council (hr.mono (by decide)) hgd (da_cons (de_fn h_law_pot (hr.mono (by decide)) hgd (da_cons (de_var 0) (da_cons de_int da_nil)) (fun _ _ _ _ _ _ us ws h1 h2 => match us, ws, h1, h2 with | [_, _], [], _, _ => ⟨rfl, rfl⟩)) (da_cons de_int da_nil)) (fun _ _ _ _ _ _ us ws h1 h2 => match us, ws, h1, h2 with | [_, _], [], _, _ => ⟨rfl, rfl⟩)) da_nil) (fun _ _ _ _ _ _ us ws h1 h2 => match us, ws, h1, h2 with | [_], [], _, _ => ⟨rfl, rfl⟩)) (de_one (de_fn h_law_right (hr.mono (by decide)) hgd (da_cons (de_fn h_law_council (hr.mono (by decide)) hgd (da_cons (de_fn h_law_pot (hr.mono (by decide)) hgd (da_cons (de_var 0) (da_cons de_int da_nil)) (fun _ _ _ _ _ _ us ws h1 h2 => match us, ws, h1, h2 with | [_, _], [], _, _ => ⟨rfl, rfl⟩)) (da_cons de_int da_nil)) (fun _ _ _ _ _ _ us ws h1 h2 => match us, ws, h1, h2 with | [_, _], [], _, _ => ⟨rfl, rfl⟩)) da_nil) (fun _ _ _ _ _ _ us ws h1 h2 => match us, ws, h1, h2 with | [_], [], _, _ => ⟨rfl, rfl⟩)))))),
    pf_law⟩
end
def defsL0 : List (Str × Stmt) := [("is_integer", S_is_integer), ("is_tuple", S_is_tuple), ("are_rising", S_are_rising), ("all_lots", S_all_lots), ("seats_of", S_seats_of), ("rest_of", S_rest_of), ("_law_pot", S_law_pot), ("_law_draw", S_law_draw), ("_law_lots", S_law_lots), ("_law_wins", S_law_wins), ("_law_rest", S_law_rest), ("is_within", S_is_within), ("is_won", S_is_won), ("_law_pick", S_law_pick), ("is_lot", S_is_lot), ("is_council_any", S_is_council_any), ("won_lots", S_won_lots), ("_law_council", S_law_council), ("want_council", S_want_council), ("want_lot", S_want_lot), ("least_won", S_least_won), ("swings_of", S_swings_of), ("is_winning", S_is_winning), ("does_block", S_does_block), ("least_winning", S_least_winning), ("idle_lists", S_idle_lists), ("veto_lists", S_veto_lists), ("dictator", S_dictator), ("is_proper", S_is_proper), ("is_deciding", S_is_deciding)]
def defsL1 : List (Str × Stmt) := [("_law_right", S_law_right), ("law", S_law)]
def defsL : List (Str × Stmt) := defsL0 ++ defsL1
def fa0 : List He.Fa := [.glo "is_integer", .glo "is_tuple", .glo "are_rising", .glo "all_lots", .glo "seats_of", .glo "rest_of", .glo "_law_pot", .glo "_law_draw", .glo "_law_lots", .glo "_law_wins", .glo "_law_rest", .glo "is_within", .glo "is_won", .glo "_law_pick", .glo "is_lot", .glo "is_council_any", .glo "won_lots", .glo "_law_council", .glo "want_council", .glo "want_lot", .glo "least_won", .glo "swings_of", .glo "is_winning", .glo "does_block", .glo "least_winning", .glo "idle_lists", .glo "veto_lists", .glo "dictator", .glo "is_proper", .glo "is_deciding"]
def fa1 : List He.Fa := [.glo "_law_right", .glo "law", .free "abs", .free "all", .free "any", .free "bool", .free "divmod", .free "enumerate", .free "int", .free "isinstance", .free "len", .free "max", .free "min", .free "range", .free "repr", .free "set", .free "sorted", .free "str", .free "sum", .free "tuple", .free "zip", .str "COUNCIL" "council", .int "MOST_LISTS" 8, .int "MOST_SEATS" 200]
def fa : List He.Fa := fa0 ++ fa1
def names0 : List PySem.Str := ["is_integer", "is_within", "is_tuple", "are_rising", "is_lot", "WorkError", "InvalidCouncil", "InvalidLot", "COUNCIL", "MOST_LISTS", "MOST_SEATS", "is_council_any", "want_council", "want_lot", "all_lots", "seats_of", "is_won", "won_lots", "least_won", "swings_of", "rest_of", "is_winning", "does_block", "least_winning", "idle_lists", "veto_lists", "dictator", "is_proper", "is_deciding", "_law_pot"]
def names1 : List PySem.Str := ["_law_draw", "_law_pick", "_law_council", "_law_lots", "_law_wins", "_law_is_in", "_law_least", "_law_rest", "_law_is_count", "_law_right"]
def names : List PySem.Str := names0 ++ names1
def fn : List He.DefD := defsL.map mkD
abbrev topR : PySem.W.OpenRow := PySem.W.OpenLaw.row PySem.Challenge.rw_seatworks_k93_whole_idle_lists_vetoes_di
abbrev topK : PySem.W.Hook := He.hookD 4 fa fn
def topB (s : PySem.W.SharedT) : He.AlD := He.obsDG 4 fa fn (HandSHeadRun.getT s)
theorem topB_eq (s : PySem.W.SharedT) : topB s = topK.obs s.abs := He.obsDG_eq (HandSHeadRun.getT_eq s)
theorem topRun (w : World) : HandSHeadRun.RunEq topR (PySem.W.view topR.prog [44]) topK topB 6000 names w := by
  intro os
  kernel_rfl
theorem law_has {P : Program} {w : World} {K : PySem.W.Frag} {h : Heap} {mg : Str → Option Value} (X : K.In h) (G : h.Ns mainGlobals mg) (c : He.SaysD fa fn K) (base : Heap) : Has P w K mg base 7 "law" S_law ["script"] sp_law := by
  have B : Bt mg := ⟨He.free_ok X G (c.fact 32 (f := .free "abs") rfl), He.free_ok X G (c.fact 33 (f := .free "all") rfl), He.free_ok X G (c.fact 34 (f := .free "any") rfl), He.free_ok X G (c.fact 35 (f := .free "bool") rfl), He.free_ok X G (c.fact 36 (f := .free "divmod") rfl), He.free_ok X G (c.fact 37 (f := .free "enumerate") rfl), He.free_ok X G (c.fact 38 (f := .free "int") rfl), He.free_ok X G (c.fact 39 (f := .free "isinstance") rfl), He.free_ok X G (c.fact 40 (f := .free "len") rfl), He.free_ok X G (c.fact 41 (f := .free "max") rfl), He.free_ok X G (c.fact 42 (f := .free "min") rfl), He.free_ok X G (c.fact 43 (f := .free "range") rfl), He.free_ok X G (c.fact 44 (f := .free "repr") rfl), He.free_ok X G (c.fact 45 (f := .free "set") rfl), He.free_ok X G (c.fact 46 (f := .free "sorted") rfl), He.free_ok X G (c.fact 47 (f := .free "str") rfl), He.free_ok X G (c.fact 48 (f := .free "sum") rfl), He.free_ok X G (c.fact 49 (f := .free "tuple") rfl), He.free_ok X G (c.fact 50 (f := .free "zip") rfl)⟩
  have C : Ct K mg := ⟨gc_str X G c 51 rfl, gc_int X G c 52 rfl, gc_int X G c 53 rfl⟩
  have h_is_integer := has_is_integer (P := P) (w := w) (K := K) (mg := mg) (base := base) B (txt_of X G c 0 0 rfl rfl)
  have h_is_tuple := has_is_tuple (P := P) (w := w) (K := K) (mg := mg) (base := base) B (txt_of X G c 1 1 rfl rfl)
  have h_are_rising := has_are_rising (P := P) (w := w) (K := K) (mg := mg) (base := base) B (txt_of X G c 2 2 rfl rfl)
  have h_all_lots := has_all_lots (P := P) (w := w) (K := K) (mg := mg) (base := base) B (txt_of X G c 3 3 rfl rfl)
  have h_seats_of := has_seats_of (P := P) (w := w) (K := K) (mg := mg) (base := base) B (txt_of X G c 4 4 rfl rfl)
  have h_rest_of := has_rest_of (P := P) (w := w) (K := K) (mg := mg) (base := base) B (txt_of X G c 5 5 rfl rfl)
  have h_law_pot := has_law_pot (P := P) (w := w) (K := K) (mg := mg) (base := base) B (txt_of X G c 6 6 rfl rfl)
  have h_law_draw := has_law_draw (P := P) (w := w) (K := K) (mg := mg) (base := base) B (txt_of X G c 7 7 rfl rfl)
  have h_law_lots := has_law_lots (P := P) (w := w) (K := K) (mg := mg) (base := base) B (txt_of X G c 8 8 rfl rfl)
  have h_law_wins := has_law_wins (P := P) (w := w) (K := K) (mg := mg) (base := base) B (txt_of X G c 9 9 rfl rfl)
  have h_law_rest := has_law_rest (P := P) (w := w) (K := K) (mg := mg) (base := base) B (txt_of X G c 10 10 rfl rfl)
  have h_is_within := has_is_within (P := P) (w := w) (K := K) (mg := mg) (base := base) h_is_integer (txt_of X G c 11 11 rfl rfl)
  have h_is_won := has_is_won (P := P) (w := w) (K := K) (mg := mg) (base := base) h_seats_of (txt_of X G c 12 12 rfl rfl)
  have h_law_pick := has_law_pick (P := P) (w := w) (K := K) (mg := mg) (base := base) B h_law_draw (txt_of X G c 13 13 rfl rfl)
  have h_is_lot := has_is_lot (P := P) (w := w) (K := K) (mg := mg) (base := base) B h_is_within h_are_rising (txt_of X G c 14 14 rfl rfl)
  have h_is_council_any := has_is_council_any (P := P) (w := w) (K := K) (mg := mg) (base := base) B C h_is_tuple h_is_within (txt_of X G c 15 15 rfl rfl)
  have h_won_lots := has_won_lots (P := P) (w := w) (K := K) (mg := mg) (base := base) B h_all_lots h_is_won (txt_of X G c 16 16 rfl rfl)
  have h_law_council := has_law_council (P := P) (w := w) (K := K) (mg := mg) (base := base) B h_law_pick h_law_draw (txt_of X G c 17 17 rfl rfl)
  have h_want_council := has_want_council (P := P) (w := w) (K := K) (mg := mg) (base := base) h_is_council_any (txt_of X G c 18 18 rfl rfl)
  have h_want_lot := has_want_lot (P := P) (w := w) (K := K) (mg := mg) (base := base) h_is_lot (txt_of X G c 19 19 rfl rfl)
  have h_least_won := has_least_won (P := P) (w := w) (K := K) (mg := mg) (base := base) B h_won_lots h_is_won (txt_of X G c 20 20 rfl rfl)
  have h_swings_of := has_swings_of (P := P) (w := w) (K := K) (mg := mg) (base := base) B h_won_lots h_is_won (txt_of X G c 21 21 rfl rfl)
  have h_is_winning := has_is_winning (P := P) (w := w) (K := K) (mg := mg) (base := base) B h_want_council h_want_lot h_is_won (txt_of X G c 22 22 rfl rfl)
  have h_does_block := has_does_block (P := P) (w := w) (K := K) (mg := mg) (base := base) B h_want_council h_want_lot h_rest_of h_is_won (txt_of X G c 23 23 rfl rfl)
  have h_least_winning := has_least_winning (P := P) (w := w) (K := K) (mg := mg) (base := base) h_want_council h_least_won (txt_of X G c 24 24 rfl rfl)
  have h_idle_lists := has_idle_lists (P := P) (w := w) (K := K) (mg := mg) (base := base) B h_want_council h_swings_of (txt_of X G c 25 25 rfl rfl)
  have h_veto_lists := has_veto_lists (P := P) (w := w) (K := K) (mg := mg) (base := base) B h_want_council h_least_won (txt_of X G c 26 26 rfl rfl)
  have h_dictator := has_dictator (P := P) (w := w) (K := K) (mg := mg) (base := base) B h_want_council h_least_won (txt_of X G c 27 27 rfl rfl)
  have h_is_proper := has_is_proper (P := P) (w := w) (K := K) (mg := mg) (base := base) B h_want_council h_won_lots h_rest_of h_is_won (txt_of X G c 28 28 rfl rfl)
  have h_is_deciding := has_is_deciding (P := P) (w := w) (K := K) (mg := mg) (base := base) B h_want_council h_all_lots h_is_won h_rest_of (txt_of X G c 29 29 rfl rfl)
  have h_law_right := has_law_right (P := P) (w := w) (K := K) (mg := mg) (base := base) B h_law_lots h_law_wins h_law_rest h_is_deciding h_is_proper h_dictator h_veto_lists h_idle_lists h_does_block h_is_winning h_least_winning (txt_of X G c 30 30 rfl rfl)
  have h_law := has_law (P := P) (w := w) (K := K) (mg := mg) (base := base) h_law_pot h_law_council h_law_right (txt_of X G c 31 31 rfl rfl)
  exact h_law
end K93
open PySem PySem.W PySem.Calls PyProof.Rows
set_option maxHeartbeats 0 in
theorem PySem.Challenge.cw_seatworks_k93_whole_idle_lists_vetoes_di_holds : PySem.Challenge.rw_seatworks_k93_whole_idle_lists_vetoes_di.Holds := by
  w_on; o_law
  refine HandSHeadRun.head_any (r := K93.topR) (q := view K93.topR.prog [44]) (H := K93.topK) (ob := K93.topB) (M := 6000) (loose := K93.names) (d := HandSHeadRun.topDef K93.topR.prog 44) (kwd := []) K93.topB_eq
    (by kernel_rfl) (fun s => by kernel_rfl) K93.topRun (by kernel_rfl) (by kernel_rfl) (by kernel_rfl) (by rfl) (by first | assumption | decide +kernel) (by decide +kernel) ⟨rfl, rfl, rfl, rfl, rfl, by decide +kernel⟩ ?hw ?hc
  case hw => w_witness2
  case hc =>
    refine Dl.walk_ofD (l := PySem.Challenge.rw_seatworks_k93_whole_idle_lists_vetoes_di) (n := 63) (k := 7) (x := "script") (st := K93.S_law) (sp := K93.sp_law) rfl (by decide) (by kernel_rfl) ⟨rfl, by decide, by decide⟩ ?F ?bd (fun ns Q hl hQ => ⟨ns, rfl, hl, hQ _⟩)
    case F =>
      intro w mg h Y G
      obtain ⟨K, X, c⟩ := Y
      exact ⟨K, X, fun base => K93.law_has X G c base⟩
    case bd =>
      intro kV doc pm an cdv ct u
      rfl
