import PyProof.Rows.All
import Wide.All
import OpenK.AllK
import Wide.FinOn
import KE.KStateDown
import HandS.Comp
import HandS.List
import HandS.Iter
import HandS.Conv
import HandS.Ends
import HandS.Wide
import HandS.IsInst
import HandS.TupAny
import HandS.ForMost
import KE.GoesEnum
import KE.GoesMore
import HandS.Style
import HandS.NamedTupSort
import KE.KTupSum
import HandS.Set
import HandS.Strs
import HandS.SetFor
import HandS.Zip
import HandS.Deep
import KE.GoesZip
import PyProof.P3Eq
import PyProof.ReprBulk
import HandS.HeadEnd
import HandS.HeadHook1
import HandS.HeadHook2
import HandS.Head0
import HandS.Head1
import HandS.Head2
import HandS.TupMul
import PyProof.Rows.SeqMore
import KE.KDictZip
import KE.KDictItemsList
import HandS.SortInts
import PySem.Challenge.RW_seatworks_k40_whole_fewest_votes
set_option Elab.async false
set_option linter.all false
set_option maxRecDepth 100000
set_option maxHeartbeats 4000000
/-! Dat0: a store of plain data over the hand layer's heaps: values D, stores Mu, how both lie in a heap. -/
namespace Dl
open PySem PySem.Spec PyProof.Rows L2

/-- plain data; a list that may change is a cell of the store -/
inductive D where
  | non | bl (b : Bool) | int (i : Int) | str (x : Str) | tup (ds : List D) | frz (ds : List D) | cell (k : Nat) | ty (n : String)
abbrev Mu := Nat → Option (List D)
def Mu.upd (μ : Mu) (k : Nat) (xs : List D) : Mu := fun j => if j = k then some xs else μ j
/-- knows no more -/
def Mu.Sub (μ' μ : Mu) : Prop := ∀ k xs, μ' k = some xs → μ k = some xs
theorem Mu.Sub.refl (μ : Mu) : Mu.Sub μ μ := fun _ _ h => h
theorem Mu.Sub.trans {a b c : Mu} (h : Mu.Sub a b) (g : Mu.Sub b c) : Mu.Sub a c := fun k xs e => g k xs (h k xs e)
@[simp] theorem Mu.upd_same {μ : Mu} {k : Nat} {xs : List D} : μ.upd k xs k = some xs := if_pos rfl
theorem Mu.upd_ne {μ : Mu} {j k : Nat} {xs : List D} (h : j ≠ k) : μ.upd k xs j = μ j := if_neg h
theorem Mu.upd_upd {μ : Mu} {k : Nat} {xs ys : List D} : (μ.upd k xs).upd k ys = μ.upd k ys := by
  funext j
  unfold Mu.upd
  split <;> rfl
theorem Mu.sub_upd {μ : Mu} {k : Nat} {xs : List D} (h : μ k = none) : Mu.Sub μ (μ.upd k xs) := fun j ys e => by
  rw [Mu.upd_ne]
  · exact e
  · intro z
    rw [z, h] at e
    cases e
theorem Mu.Sub.upd {μ' μ : Mu} (s : Mu.Sub μ' μ) (k : Nat) (xs : List D) : Mu.Sub (μ'.upd k xs) (μ.upd k xs) := fun j ys e => by
  by_cases h : j = k
  · subst h
    rw [Mu.upd_same] at e ⊢
    exact e
  · rw [Mu.upd_ne h] at e ⊢
    exact s j ys e
theorem Mu.ne_of {μ : Mu} {j k : Nat} {xs : List D} (h : μ j = some xs) (g : μ k = none) : j ≠ k := fun e => by
  rw [e, g] at h
  cases h

/-! ### how heaps grow -/
structure Ext (H H' : Hp) : Prop where
  tup : ∀ a xs, H a = some (.tup xs) → H' a = some (.tup xs)
  frz : ∀ a o u, H a = some (.frz o u) → H' a = some (.frz o u)
  live : ∀ a o, H a = some o → ∃ o', H' a = some o'
theorem Ext.refl (H : Hp) : Ext H H := ⟨fun _ _ h => h, fun _ _ _ h => h, fun _ o h => ⟨o, h⟩⟩
theorem Ext.trans {H H1 H2 : Hp} (a : Ext H H1) (b : Ext H1 H2) : Ext H H2 :=
  ⟨fun c xs h => b.tup c xs (a.tup c xs h), fun c o u h => b.frz c o u (a.frz c o u h), fun c o h => by
    obtain ⟨o', h'⟩ := a.live c o h
    exact b.live c o' h'⟩
theorem Ext.new {H : Hp} {p : Addr} {o : HO} (h : H p = none) : Ext H (upd H p o) :=
  ⟨fun a xs e => by rw [L2.upd_ne (L2.ne_of_none e h)]; exact e, fun a ob u e => by rw [L2.upd_ne (L2.ne_of_none e h)]; exact e,
    fun a ob e => ⟨ob, by rw [L2.upd_ne (L2.ne_of_none e h)]; exact e⟩⟩
theorem Ext.lst {H : Hp} {p : Addr} {vs ws : List V} (h : H p = some (.lst vs)) : Ext H (upd H p (.lst ws)) :=
  ⟨fun a xs e => by rw [L2.upd_ne (L2.ne_of e h (by intro z; cases z))]; exact e, fun a ob u e => by rw [L2.upd_ne (L2.ne_of e h (by intro z; cases z))]; exact e,
    fun a ob e => by
      by_cases q : a = p
      · exact ⟨_, by rw [q, L2.upd_same]⟩
      · exact ⟨ob, by rw [L2.upd_ne q]; exact e⟩⟩

/-- a list that never changes: the script, or one of the written part -/
def FrzL (K : PySem.W.Frag) (H : Hp) (a : Addr) (xs : List V) : Prop := (∃ o, H a = some (.frz o (.lst xs))) ∨ SqL K (fun _ => none) a xs
theorem none_seq {K : PySem.W.Frag} {H : Hp} {a : Addr} {xs : List V} (h : SqL K (fun _ => none) a xs) : SqL K H a xs := by
  rcases h with h | h
  · rcases h with h | ⟨o, h⟩
    · cases h
    · cases h
  · exact .inr h
theorem FrzL.seq {K : PySem.W.Frag} {H : Hp} {a : Addr} {xs : List V} (h : FrzL K H a xs) : SqL K H a xs := by
  rcases h with ⟨o, h⟩ | h
  · exact .inl (.inr ⟨o, h⟩)
  · exact none_seq h
theorem Ext.seqT {K : PySem.W.Frag} {H H' : Hp} {a : Addr} {xs : List V} (e : Ext H H') (h : SqT K H a xs) : SqT K H' a xs := by
  rcases h with (h | ⟨o, h⟩) | h
  · exact .inl (.inl (e.tup _ _ h))
  · exact .inl (.inr ⟨o, e.frz _ _ _ h⟩)
  · exact .inr h
theorem Ext.frzL {K : PySem.W.Frag} {H H' : Hp} {a : Addr} {xs : List V} (e : Ext H H') (h : FrzL K H a xs) : FrzL K H' a xs := by
  rcases h with ⟨o, h⟩ | h
  · exact .inl ⟨o, e.frz _ _ _ h⟩
  · exact .inr h

/-- addresses of cells, and the heap, grown -/
structure Gr (α : List Addr) (H : Hp) (α' : List Addr) (H' : Hp) : Prop where
  pre : ∀ (k : Nat) a, α[k]? = some a → α'[k]? = some a
  ext : Ext H H'
theorem Gr.refl (α : List Addr) (H : Hp) : Gr α H α H := ⟨fun _ _ h => h, Ext.refl H⟩
theorem Gr.trans {α α1 α2 : List Addr} {H H1 H2 : Hp} (a : Gr α H α1 H1) (b : Gr α1 H1 α2 H2) : Gr α H α2 H2 := ⟨fun k c h => b.pre k c (a.pre k c h), a.ext.trans b.ext⟩

mutual
inductive Rl (K : PySem.W.Frag) (α : List Addr) (H : Hp) : V → D → Prop
  | non : Rl K α H .non .non
  | bl (b : Bool) : Rl K α H (.bl b) (.bl b)
  | int (i : Int) : Rl K α H (.int i) (.int i)
  | str (x : Str) : Rl K α H (.str x) (.str x)
  | ty (n : String) : Rl K α H (.ty n) (.ty n)
  | tup {a : Addr} {vs : List V} {ds : List D} : SqT K H a vs → RlAll K α H vs ds → Rl K α H (.ref a) (.tup ds)
  | frz {a : Addr} {vs : List V} {ds : List D} : FrzL K H a vs → RlAll K α H vs ds → Rl K α H (.ref a) (.frz ds)
  | cell {a : Addr} {k : Nat} : α[k]? = some a → Rl K α H (.ref a) (.cell k)
inductive RlAll (K : PySem.W.Frag) (α : List Addr) (H : Hp) : List V → List D → Prop
  | nil : RlAll K α H [] []
  | cons {v : V} {vs : List V} {d : D} {ds : List D} : Rl K α H v d → RlAll K α H vs ds → RlAll K α H (v :: vs) (d :: ds)
end

section
variable {K : PySem.W.Frag} {α α' : List Addr} {H H' : Hp}
mutual
theorem Rl.mono (g : Gr α H α' H') : ∀ {v : V} {d : D}, Rl K α H v d → Rl K α' H' v d
  | _, _, .non => .non
  | _, _, .bl b => .bl b
  | _, _, .int i => .int i
  | _, _, .str x => .str x
  | _, _, .ty n => .ty n
  | _, _, .tup s r => .tup (g.ext.seqT s) (RlAll.mono g r)
  | _, _, .frz s r => .frz (g.ext.frzL s) (RlAll.mono g r)
  | _, _, .cell h => .cell (g.pre _ _ h)
theorem RlAll.mono (g : Gr α H α' H') : ∀ {vs : List V} {ds : List D}, RlAll K α H vs ds → RlAll K α' H' vs ds
  | _, _, .nil => .nil
  | _, _, .cons a b => .cons (Rl.mono g a) (RlAll.mono g b)
end
theorem RlAll.length : ∀ {vs : List V} {ds : List D}, RlAll K α H vs ds → vs.length = ds.length
  | _, _, .nil => rfl
  | _, _, .cons _ b => by rw [List.length_cons, List.length_cons, RlAll.length b]
theorem RlAll.append : ∀ {vs ws : List V} {ds es : List D}, RlAll K α H vs ds → RlAll K α H ws es → RlAll K α H (vs ++ ws) (ds ++ es)
  | _, _, _, _, .nil, r => r
  | _, _, _, _, .cons a b, r => .cons a (RlAll.append b r)
theorem RlAll.get : ∀ {vs : List V} {ds : List D} {i : Nat} {d : D}, RlAll K α H vs ds → ds[i]? = some d → ∃ v, vs[i]? = some v ∧ Rl K α H v d
  | _, _, _, _, .nil, e => by simp at e
  | _, _, 0, _, .cons a _, e => by
    simp at e
    subst e
    exact ⟨_, rfl, a⟩
  | _, _, i + 1, d, .cons _ b, e => by
    obtain ⟨v, h1, h2⟩ := RlAll.get (i := i) (d := d) b (by simpa using e)
    exact ⟨v, by simpa using h1, h2⟩
theorem RlAll.getV : ∀ {vs : List V} {ds : List D} {i : Nat} {v : V}, RlAll K α H vs ds → vs[i]? = some v → ∃ d, ds[i]? = some d ∧ Rl K α H v d
  | _, _, _, _, .nil, e => by simp at e
  | _, _, 0, _, .cons a _, e => by
    simp at e
    subst e
    exact ⟨_, rfl, a⟩
  | _, _, i + 1, v, .cons _ b, e => by
    obtain ⟨d, h1, h2⟩ := RlAll.getV (i := i) (v := v) b (by simpa using e)
    exact ⟨d, by simpa using h1, h2⟩
theorem RlAll.set {v : V} {d : D} (r : Rl K α H v d) : ∀ {vs : List V} {ds : List D} (i : Nat), RlAll K α H vs ds → RlAll K α H (vs.set i v) (ds.set i d)
  | _, _, _, .nil => .nil
  | _, _, 0, .cons _ b => .cons r b
  | _, _, i + 1, .cons a b => .cons a (RlAll.set r i b)
theorem RlAll.take : ∀ {vs : List V} {ds : List D} (n : Nat), RlAll K α H vs ds → RlAll K α H (vs.take n) (ds.take n)
  | _, _, 0, _ => .nil
  | _, _, _ + 1, .nil => .nil
  | _, _, n + 1, .cons a b => .cons a (RlAll.take n b)
theorem RlAll.drop : ∀ {vs : List V} {ds : List D} (n : Nat), RlAll K α H vs ds → RlAll K α H (vs.drop n) (ds.drop n)
  | _, _, 0, r => r
  | _, _, _ + 1, .nil => .nil
  | _, _, n + 1, .cons _ b => RlAll.drop n b
theorem RlAll.flat : ∀ (n : Nat) {vs : List V} {ds : List D}, RlAll K α H vs ds → RlAll K α H (List.replicate n vs).flatten (List.replicate n ds).flatten
  | 0, _, _, _ => .nil
  | n + 1, _, _, r => by
    rw [List.replicate_succ, List.replicate_succ, List.flatten_cons, List.flatten_cons]
    exact r.append (RlAll.flat n r)
theorem RlAll.nilV {ds : List D} (r : RlAll K α H [] ds) : ds = [] := by cases r; rfl
theorem RlAll.rev : ∀ {vs : List V} {ds : List D}, RlAll K α H vs ds → RlAll K α H vs.reverse ds.reverse
  | _, _, .nil => .nil
  | _, _, .cons a b => by
    rw [List.reverse_cons, List.reverse_cons]
    exact (RlAll.rev b).append (.cons a .nil)
theorem rlInts : ∀ (ns : List Int), RlAll K α H (ns.map V.int) (ns.map D.int)
  | [] => .nil
  | n :: ns => .cons (.int n) (rlInts ns)
theorem RlAll.ints : ∀ {vs : List V} {ns : List Int}, RlAll K α H vs (ns.map D.int) → vs = ns.map V.int
  | _, [], r => by cases r; rfl
  | _, n :: ns, r => by
    cases r with
    | cons a b =>
      cases a
      rw [RlAll.ints b]
      rfl
theorem RlAll.bls : ∀ {vs : List V} {ns : List Bool}, RlAll K α H vs (ns.map D.bl) → vs = ns.map V.bl
  | _, [], r => by cases r; rfl
  | _, n :: ns, r => by
    cases r with
    | cons a b =>
      cases a
      rw [RlAll.bls b]
      rfl

/-- the store lies in the heap -/
structure Sat (K : PySem.W.Frag) (α : List Addr) (H : Hp) (μ : Mu) : Prop where
  cell : ∀ k xs, μ k = some xs → ∃ a vs, α[k]? = some a ∧ H a = some (.lst vs) ∧ RlAll K α H vs xs
  inj : ∀ (j k : Nat) a, α[j]? = some a → α[k]? = some a → j = k
  live : ∀ (k : Nat) a, α[k]? = some a → ∃ o, H a = some o
theorem Sat.sub {μ μ' : Mu} (s : Sat K α H μ) (h : Mu.Sub μ' μ) : Sat K α H μ' := ⟨fun k xs e => s.cell k xs (h k xs e), s.inj, s.live⟩
theorem Sat.fresh {μ : Mu} (s : Sat K α H μ) : μ α.length = none := by
  cases e : μ α.length with
  | none => rfl
  | some xs =>
    obtain ⟨a, vs, h, _⟩ := s.cell _ _ e
    rw [List.getElem?_eq_none (Nat.le_refl _)] at h
    cases h
theorem gr_push {a : Addr} (e : Ext H H') : Gr α H (α ++ [a]) H' := ⟨fun k c h => by
  have hk := (List.getElem?_eq_some_iff.mp h).1
  rw [List.getElem?_append_left hk]
  exact h, e⟩
theorem at_push {a : Addr} : (α ++ [a])[α.length]? = some a := by
  rw [List.getElem?_append_right (Nat.le_refl _), Nat.sub_self]
  rfl
theorem push_cases {a b : Addr} {k : Nat} (h : (α ++ [a])[k]? = some b) : α[k]? = some b ∨ (k = α.length ∧ b = a) := by
  by_cases hk : k < α.length
  · rw [List.getElem?_append_left hk] at h
    exact .inl h
  · rw [List.getElem?_append_right (by omega)] at h
    have hk2 : k - α.length = 0 := by
      have := (List.getElem?_eq_some_iff.mp h).1
      simp at this
      omega
    rw [hk2] at h
    exact .inr ⟨by omega, (Option.some.inj h).symm⟩
/-- a thing is tracked that is no cell -/
theorem Sat.new {μ : Mu} {p : Addr} {o : HO} (s : Sat K α H μ) (h : H p = none) : Sat K α (upd H p o) μ := by
  refine ⟨fun k xs e => ?_, s.inj, fun k a e => ?_⟩
  · obtain ⟨a, vs, h1, h2, h3⟩ := s.cell k xs e
    exact ⟨a, vs, h1, by rw [L2.upd_ne (L2.ne_of_none h2 h)]; exact h2, h3.mono ⟨fun _ _ z => z, Ext.new h⟩⟩
  · obtain ⟨o', h'⟩ := s.live k a e
    exact ⟨o', by rw [L2.upd_ne (L2.ne_of_none h' h)]; exact h'⟩
/-- a new cell -/
theorem Sat.alloc {μ : Mu} {p : Addr} {vs : List V} {xs : List D} (s : Sat K α H μ) (h : H p = none) (r : RlAll K α H vs xs) :
    Sat K (α ++ [p]) (upd H p (.lst vs)) (μ.upd α.length xs) := by
  have g : Gr α H (α ++ [p]) (upd H p (.lst vs)) := gr_push (Ext.new h)
  refine ⟨fun k ys e => ?_, fun j k a hj hk => ?_, fun k a e => ?_⟩
  · by_cases hk : k = α.length
    · subst hk
      rw [Mu.upd_same] at e
      cases e
      exact ⟨p, vs, at_push, L2.upd_same, r.mono g⟩
    · rw [Mu.upd_ne hk] at e
      obtain ⟨a, ws, h1, h2, h3⟩ := s.cell k ys e
      exact ⟨a, ws, g.pre _ _ h1, by rw [L2.upd_ne (L2.ne_of_none h2 h)]; exact h2, h3.mono g⟩
  · rcases push_cases hj with hj | ⟨ej, aj⟩ <;> rcases push_cases hk with hk | ⟨ek, ak⟩
    · exact s.inj _ _ _ hj hk
    · obtain ⟨o, z⟩ := s.live _ _ hj
      rw [ak, h] at z
      cases z
    · obtain ⟨o, z⟩ := s.live _ _ hk
      rw [aj, h] at z
      cases z
    · omega
  · rcases push_cases e with e | ⟨_, rfl⟩
    · obtain ⟨o', h'⟩ := s.live k a e
      exact ⟨o', by rw [L2.upd_ne (L2.ne_of_none h' h)]; exact h'⟩
    · exact ⟨_, L2.upd_same⟩
/-- a cell is changed -/
theorem Sat.set {μ : Mu} {a : Addr} {k : Nat} {ws vs : List V} {xs : List D} (s : Sat K α H μ) (ha : α[k]? = some a) (h : H a = some (.lst ws)) (r : RlAll K α H vs xs) :
    Sat K α (upd H a (.lst vs)) (μ.upd k xs) := by
  have g : Gr α H α (upd H a (.lst vs)) := ⟨fun _ _ z => z, Ext.lst h⟩
  refine ⟨fun j ys e => ?_, s.inj, fun j b e => ?_⟩
  · by_cases hj : j = k
    · subst hj
      rw [Mu.upd_same] at e
      cases e
      exact ⟨a, vs, ha, L2.upd_same, r.mono g⟩
    · rw [Mu.upd_ne hj] at e
      obtain ⟨b, us, h1, h2, h3⟩ := s.cell j ys e
      have hb : b ≠ a := fun z => hj (s.inj _ _ _ h1 (by rw [z]; exact ha))
      exact ⟨b, us, h1, by rw [L2.upd_ne hb]; exact h2, h3.mono g⟩
  · obtain ⟨o', h'⟩ := s.live j b e
    by_cases hb : b = a
    · exact ⟨_, by rw [hb, L2.upd_same]⟩
    · exact ⟨o', by rw [L2.upd_ne hb]; exact h'⟩
theorem gr_set {a : Addr} {ws vs : List V} (h : H a = some (.lst ws)) : Gr α H α (upd H a (.lst vs)) := ⟨fun _ _ z => z, Ext.lst h⟩
theorem gr_new {a : Addr} {o : HO} (h : H a = none) : Gr α H α (upd H a o) := ⟨fun _ _ z => z, Ext.new h⟩

/-! ### what is read as a sequence -/
def items (μ : Mu) : D → Option (List D)
  | .tup ds => some ds
  | .frz ds => some ds
  | .cell k => μ k
  | _ => none
def litems (μ : Mu) : D → Option (List D)
  | .frz ds => some ds
  | .cell k => μ k
  | _ => none
theorem Sat.list {μ : Mu} {v : V} {d : D} {xs : List D} (s : Sat K α H μ) (r : Rl K α H v d) (h : litems μ d = some xs) : ∃ a vs, v = .ref a ∧ SqL K H a vs ∧ RlAll K α H vs xs := by
  cases r with
  | frz q r =>
    cases h
    exact ⟨_, _, rfl, q.seq, r⟩
  | cell q =>
    obtain ⟨a, vs, h1, h2, h3⟩ := s.cell _ _ h
    rw [q] at h1
    cases h1
    exact ⟨_, _, rfl, .inl (.inl h2), h3⟩
  | _ => cases h
theorem Sat.seq {μ : Mu} {v : V} {d : D} {xs : List D} (s : Sat K α H μ) (r : Rl K α H v d) (h : items μ d = some xs) : ∃ a vs, v = .ref a ∧ (SqL K H a vs ∨ SqT K H a vs) ∧ RlAll K α H vs xs := by
  cases r with
  | tup q r =>
    cases h
    exact ⟨_, _, rfl, .inr q, r⟩
  | frz q r =>
    cases h
    exact ⟨_, _, rfl, .inl q.seq, r⟩
  | cell q =>
    obtain ⟨a, vs, h1, h2, h3⟩ := s.cell _ _ h
    rw [q] at h1
    cases h1
    exact ⟨_, _, rfl, .inl (.inl (.inl h2)), h3⟩
  | _ => cases h
end

/-! ### slots -/
abbrev Rho := List (Option D)
def EnvOk (K : PySem.W.Frag) (α : List Addr) (H : Hp) (σ : L2.St) (ρ : Rho) : Prop :=
  ρ.length = σ.length ∧ ∀ (i : Nat) d, ρ[i]? = some (some d) → ∃ v, σ[i]? = some (some v) ∧ Rl K α H v d
section
variable {K : PySem.W.Frag} {α α' : List Addr} {H H' : Hp} {σ : L2.St} {ρ : Rho}
theorem EnvOk.mono (g : Gr α H α' H') (e : EnvOk K α H σ ρ) : EnvOk K α' H' σ ρ := ⟨e.1, fun i d h => by
  obtain ⟨v, h1, h2⟩ := e.2 i d h
  exact ⟨v, h1, h2.mono g⟩⟩
theorem EnvOk.set {i : Nat} {v : V} {d : D} (e : EnvOk K α H σ ρ) (r : Rl K α H v d) : EnvOk K α H (σ.set i (some v)) (ρ.set i (some d)) := by
  refine ⟨by rw [List.length_set, List.length_set]; exact e.1, fun j c h => ?_⟩
  by_cases hj : i = j
  · subst hj
    have hl : i < ρ.length := by
      have := (List.getElem?_eq_some_iff.mp h).1
      rw [List.length_set] at this
      exact this
    rw [List.getElem?_set_self hl] at h
    cases h
    exact ⟨v, List.getElem?_set_self (by rw [← e.1]; exact hl), r⟩
  · rw [List.getElem?_set_ne hj] at h ⊢
    exact e.2 j c h
theorem EnvOk.clear {i : Nat} (e : EnvOk K α H σ ρ) : EnvOk K α H (σ.set i none) (ρ.set i none) := by
  refine ⟨by rw [List.length_set, List.length_set]; exact e.1, fun j c h => ?_⟩
  by_cases hj : i = j
  · subst hj
    have hl : i < ρ.length := by
      have := (List.getElem?_eq_some_iff.mp h).1
      rw [List.length_set] at this
      exact this
    rw [List.getElem?_set_self hl] at h
    cases h
  · rw [List.getElem?_set_ne hj] at h ⊢
    exact e.2 j c h
def wipeD (ρ : Rho) : List Nat → Rho
  | [] => ρ
  | v :: vs => (wipeD ρ vs).set v none
theorem EnvOk.wipe (e : EnvOk K α H σ ρ) : ∀ (vs : List Nat), EnvOk K α H (L2.wipe σ vs) (wipeD ρ vs)
  | [] => e
  | v :: vs => (EnvOk.wipe e vs).clear
end
end Dl
/-! Dat1: readings over plain data: expressions. -/
namespace Dl
open PySem PySem.Spec PyProof.Rows L2

abbrev DK := D → Mu → Prop
abbrev DTE := Rho → Mu → DK → Prop
abbrev DTT := Rho → Mu → (Bool → Mu → Prop) → Prop
abbrev DTA := Rho → Mu → (List D → Mu → Prop) → Prop
/-- a fresh list, by what it holds -/
abbrev DTL := Rho → Mu → (List D → Mu → Prop) → Prop

def PostE (K : PySem.W.Frag) (α : List Addr) (H : Hp) (Qd : DK) (Q : VK) : Prop := ∀ v H' α' μ' d, Gr α H α' H' → Sat K α' H' μ' → Rl K α' H' v d → Qd d μ' → Q v H'
def PostT (K : PySem.W.Frag) (α : List Addr) (H : Hp) (Qd : Bool → Mu → Prop) (Q : Bool → Hp → Prop) : Prop := ∀ b H' α' μ', Gr α H α' H' → Sat K α' H' μ' → Qd b μ' → Q b H'
def PostA (K : PySem.W.Frag) (α : List Addr) (H : Hp) (Qd : List D → Mu → Prop) (Q : List V → Hp → Prop) : Prop := ∀ vs H' α' μ' ds, Gr α H α' H' → Sat K α' H' μ' → RlAll K α' H' vs ds → Qd ds μ' → Q vs H'
/-- the list's cell k lies in the store apart -/
def PostL (K : PySem.W.Frag) (α : List Addr) (H : Hp) (Qd : List D → Mu → Prop) (Q : VK) : Prop := ∀ p k H' α' μ' xs, Gr α H α' H' → μ' k = none → α'[k]? = some p → Sat K α' H' (μ'.upd k xs) → Qd xs μ' → Q (.ref p) H'
def SndE (K : PySem.W.Frag) (te : TE) (de : DTE) : Prop := ∀ α σ H ρ μ Qd (Q : VK), Sat K α H μ → EnvOk K α H σ ρ → de ρ μ Qd → PostE K α H Qd Q → te σ H Q
def SndL (K : PySem.W.Frag) (te : TE) (de : DTL) : Prop := ∀ α σ H ρ μ Qd (Q : VK), Sat K α H μ → EnvOk K α H σ ρ → de ρ μ Qd → PostL K α H Qd Q → te σ H Q
def SndT (K : PySem.W.Frag) (tt : TT) (dt : DTT) : Prop := ∀ α σ H ρ μ Qd (Q : Bool → Hp → Prop), Sat K α H μ → EnvOk K α H σ ρ → dt ρ μ Qd → PostT K α H Qd Q → tt σ H Q
def SndA (K : PySem.W.Frag) (ta : TA) (da : DTA) : Prop := ∀ α σ H ρ μ Qd (Q : List V → Hp → Prop), Sat K α H μ → EnvOk K α H σ ρ → da ρ μ Qd → PostA K α H Qd Q → ta σ H Q
/-- operations by values -/
def SndR (K : PySem.W.Frag) (r : R2) (rd : D → D → Mu → DK → Prop) : Prop := ∀ α H μ x y dx dy Qd (Q : VK), Sat K α H μ → Rl K α H x dx → Rl K α H y dy → rd dx dy μ Qd → PostE K α H Qd Q → r x y H Q
def SndRL (K : PySem.W.Frag) (r : R2) (rd : D → D → Mu → (List D → Mu → Prop) → Prop) : Prop := ∀ α H μ x y dx dy Qd (Q : VK), Sat K α H μ → Rl K α H x dx → Rl K α H y dy → rd dx dy μ Qd → PostL K α H Qd Q → r x y H Q
def SndU (K : PySem.W.Frag) (r : V → Hp → VK → Prop) (rd : D → Mu → DK → Prop) : Prop := ∀ α H μ x dx Qd (Q : VK), Sat K α H μ → Rl K α H x dx → rd dx μ Qd → PostE K α H Qd Q → r x H Q
def SndC (K : PySem.W.Frag) (r : List V → Hp → VK → Prop) (rd : List D → Mu → DK → Prop) : Prop := ∀ α H μ xs dxs Qd (Q : VK), Sat K α H μ → RlAll K α H xs dxs → rd dxs μ Qd → PostE K α H Qd Q → r xs H Q
def SndCL (K : PySem.W.Frag) (r : List V → Hp → VK → Prop) (rd : List D → Mu → (List D → Mu → Prop) → Prop) : Prop := ∀ α H μ xs dxs Qd (Q : VK), Sat K α H μ → RlAll K α H xs dxs → rd dxs μ Qd → PostL K α H Qd Q → r xs H Q

section
variable {K : PySem.W.Frag} {α α1 : List Addr} {H H1 : Hp}
theorem PostE.mono {Qd : DK} {Q : VK} (g : Gr α H α1 H1) (p : PostE K α H Qd Q) : PostE K α1 H1 Qd Q := fun v H' α' μ' d g' => p v H' α' μ' d (g.trans g')
theorem PostT.mono {Qd : Bool → Mu → Prop} {Q : Bool → Hp → Prop} (g : Gr α H α1 H1) (p : PostT K α H Qd Q) : PostT K α1 H1 Qd Q := fun v H' α' μ' g' => p v H' α' μ' (g.trans g')
theorem PostA.mono {Qd : List D → Mu → Prop} {Q : List V → Hp → Prop} (g : Gr α H α1 H1) (p : PostA K α H Qd Q) : PostA K α1 H1 Qd Q := fun v H' α' μ' d g' => p v H' α' μ' d (g.trans g')
theorem PostL.mono {Qd : List D → Mu → Prop} {Q : VK} (g : Gr α H α1 H1) (p : PostL K α H Qd Q) : PostL K α1 H1 Qd Q := fun v k H' α' μ' d g' => p v k H' α' μ' d (g.trans g')
theorem PostE.here {μ : Mu} {v : V} {d : D} {Qd : DK} {Q : VK} (p : PostE K α H Qd Q) (s : Sat K α H μ) (r : Rl K α H v d) (q : Qd d μ) : Q v H := p v H α μ d (Gr.refl α H) s r q
theorem PostE.tup {μ : Mu} {vs : List V} {ds : List D} {Qd : DK} {Q : VK} (p : PostE K α H Qd Q) (s : Sat K α H μ) (r : RlAll K α H vs ds) (q : Qd (.tup ds) μ) {a : Addr} (h : H a = none) : Q (.ref a) (upd H a (.tup vs)) :=
  p _ _ α μ (.tup ds) (gr_new h) (s.new h) (.tup (.inl (.inl L2.upd_same)) (r.mono (gr_new h))) q
theorem PostL.here {μ : Mu} {vs : List V} {ds : List D} {Qd : List D → Mu → Prop} {Q : VK} (p : PostL K α H Qd Q) (s : Sat K α H μ) (r : RlAll K α H vs ds) (q : Qd ds μ) {a : Addr} (h : H a = none) : Q (.ref a) (upd H a (.lst vs)) :=
  p a α.length _ (α ++ [a]) μ ds (gr_push (Ext.new h)) s.fresh at_push (s.alloc h r) q

/-! ### combined judgements -/
variable {X : Cx}
structure PED (X : Cx) (e : Expr) (de : DTE) : Prop where
  ex : ∃ te, PE X e te ∧ SndE X.K te de
structure PLD (X : Cx) (e : Expr) (de : DTL) : Prop where
  ex : ∃ te, PE X e te ∧ SndL X.K te de
structure PTD (X : Cx) (e : Expr) (dt : DTT) : Prop where
  ex : ∃ tt, PT X e tt ∧ SndT X.K tt dt
structure PWD (X : Cx) (e : Expr) (dt : DTT) : Prop where
  ex : ∃ tt, PW X e tt ∧ SndT X.K tt dt
structure PAD (X : Cx) (es : List Expr) (da : DTA) : Prop where
  ex : ∃ ta, PA X es ta ∧ SndA X.K ta da

/-- a fresh list comes to stand in the store -/
def dNew (dl : DTL) : DTE := fun ρ μ Q => dl ρ μ fun xs μ' => ∀ k, μ' k = none → Q (.cell k) (μ'.upd k xs)
theorem de_new {e : Expr} {dl : DTL} (h : PLD X e dl) : PED X e (dNew dl) := by
  obtain ⟨te, pe, s⟩ := h.ex
  refine ⟨te, pe, fun α σ H ρ μ Qd Q S E q post => s α σ H ρ μ _ Q S E q fun p k H' α' μ' xs g n a S' q' => ?_⟩
  exact post _ _ _ _ (.cell k) g S' (.cell a) (q' k n)

/-! ### leaves -/
def dVar (i : Nat) : DTE := fun ρ μ Q => match ρ[i]? with | some (some d) => Q d μ | _ => False
def dC (d : D) : DTE := fun _ μ Q => Q d μ
theorem snd_var {i : Nat} : SndE K (tVar i) (dVar i) := fun α σ H ρ μ Qd Q S E h post => by
  unfold dVar at h
  split at h
  · rename_i d e
    obtain ⟨v, h1, h2⟩ := E.2 i d e
    exact ⟨v, h1, post.here S h2 h⟩
  · exact h.elim
theorem de_var (i : Nat) {x : Str} {pos : Pos} (hN : X.N[i]? = some x := by rfl) (hv : Vis X.env.scope x := by first | exact Or.inl rfl | exact Or.inr (Or.inl rfl) | exact Or.inr (Or.inr rfl)) (hd : (x == ("__debug__" : Str)) = false := by decide)
    (hcd : (x == ("__classdict__" : Str)) = false := by decide) : PED X (.Name x pos) (dVar i) := ⟨_, pe_var hN hv hd hcd, snd_var⟩
theorem snd_c {v : V} {d : D} (r : ∀ α H, Rl K α H v d) : SndE K (tC v) (dC d) := fun α σ H ρ μ Qd Q S E h post => post.here S (r α H) h
theorem de_int {i j pos} : PED X (.Constant (.int i) j pos) (dC (.int i)) := ⟨_, pe_int, snd_c fun _ _ => .int i⟩
theorem de_bl {b j pos} : PED X (.Constant (.bool b) j pos) (dC (.bl b)) := ⟨_, pe_bl, snd_c fun _ _ => .bl b⟩
theorem de_non {j pos} : PED X (.Constant .none j pos) (dC .non) := ⟨_, pe_non, snd_c fun _ _ => .non⟩
theorem de_str {x j pos} : PED X (.Constant (.str x) j pos) (dC (.str x)) := ⟨_, pe_str, snd_c fun _ _ => .str x⟩
/-- a constant of the module -/
structure Gc (K : PySem.W.Frag) (mg : Str → Option Value) (x : Str) (d : D) : Prop where
  ex : ∃ v u, mg x = some u ∧ RelV v u ∧ ∀ α H, Rl K α H v d
theorem de_glob {x : Str} {pos : Pos} {d : D} (g : Gc X.K X.mg x d) (hg : Gl X x := by rfl) (hd : (x == ("__debug__" : Str)) = false := by decide) : PED X (.Name x pos) (dC d) := by
  obtain ⟨v, u, h1, h2, h3⟩ := g.ex
  exact ⟨_, pe_glob hg h1 h2 hd, snd_c h3⟩
theorem de_ty {x : Str} {n : String} {pos : Pos} (hm : X.mg x = none) (hv : bootBuiltins x = some (.type n) := by decide +kernel) (hg : Gl X x := by rfl) (hn : x ≠ "__name__" := by decide) (hd : (x == ("__debug__" : Str)) = false := by decide) : PED X (.Name x pos) (dC (.ty n)) :=
  ⟨_, pe_bltn hg hm hv (show RelV (.ty n) _ from rfl) hn hd, snd_c fun _ _ => .ty n⟩

/-! ### operators -/
def dOp (rd : D → D → Mu → DK → Prop) (da db : DTE) : DTE := fun ρ μ Q => da ρ μ fun x μ1 => db ρ μ1 fun y μ2 => rd x y μ2 Q
def dOpL (rd : D → D → Mu → (List D → Mu → Prop) → Prop) (da db : DTE) : DTL := fun ρ μ Q => da ρ μ fun x μ1 => db ρ μ1 fun y μ2 => rd x y μ2 Q
def dUn (rd : D → Mu → DK → Prop) (da : DTE) : DTE := fun ρ μ Q => da ρ μ fun x μ1 => rd x μ1 Q
theorem snd_op {r : R2} {rd : D → D → Mu → DK → Prop} {ta tb : TE} {da db : DTE} (hr : SndR K r rd) (ha : SndE K ta da) (hb : SndE K tb db) : SndE K (tOp r ta tb) (dOp rd da db) := fun α σ H ρ μ Qd Q S E h post =>
  ha α σ H ρ μ _ _ S E h fun v1 H1 α1 μ1 d1 g1 s1 r1 q1 => hb α1 σ H1 ρ μ1 _ _ s1 (E.mono g1) q1 fun v2 H2 α2 μ2 d2 g2 s2 r2 q2 =>
    hr α2 H2 μ2 v1 v2 d1 d2 Qd Q s2 (r1.mono g2) r2 q2 (post.mono (g1.trans g2))
theorem snd_opL {r : R2} {rd : D → D → Mu → (List D → Mu → Prop) → Prop} {ta tb : TE} {da db : DTE} (hr : SndRL K r rd) (ha : SndE K ta da) (hb : SndE K tb db) : SndL K (tOp r ta tb) (dOpL rd da db) := fun α σ H ρ μ Qd Q S E h post =>
  ha α σ H ρ μ _ _ S E h fun v1 H1 α1 μ1 d1 g1 s1 r1 q1 => hb α1 σ H1 ρ μ1 _ _ s1 (E.mono g1) q1 fun v2 H2 α2 μ2 d2 g2 s2 r2 q2 =>
    hr α2 H2 μ2 v1 v2 d1 d2 Qd Q s2 (r1.mono g2) r2 q2 (post.mono (g1.trans g2))
theorem snd_un {r : V → Hp → VK → Prop} {rd : D → Mu → DK → Prop} {ta : TE} {da : DTE} (hr : SndU K r rd) (ha : SndE K ta da) : SndE K (tUn r ta) (dUn rd da) := fun α σ H ρ μ Qd Q S E h post =>
  ha α σ H ρ μ _ _ S E h fun v1 H1 α1 μ1 d1 g1 s1 r1 q1 => hr α1 H1 μ1 v1 d1 Qd Q s1 r1 q1 (post.mono g1)
/-- an operator's rule over data -/
structure OpD (X : Cx) (f : Value → Value → Sem Value) (rd : D → D → Mu → DK → Prop) : Prop where
  ex : ∃ r, OpR X f r ∧ SndR X.K r rd
structure OpLD (X : Cx) (f : Value → Value → Sem Value) (rd : D → D → Mu → (List D → Mu → Prop) → Prop) : Prop where
  ex : ∃ r, OpR X f r ∧ SndRL X.K r rd
theorem de_op {op : Operator} {rd : D → D → Mu → DK → Prop} {a b : Expr} {da db : DTE} {pos : Pos} (ho : OpD X (binaryOp op) rd) (ha : PED X a da) (hb : PED X b db) : PED X (.BinOp a op b pos) (dOp rd da db) := by
  obtain ⟨r, h1, h2⟩ := ho.ex
  obtain ⟨ta, a1, a2⟩ := ha.ex
  obtain ⟨tb, b1, b2⟩ := hb.ex
  exact ⟨_, pe_op h1 a1 b1, snd_op h2 a2 b2⟩
theorem dl_op {op : Operator} {rd : D → D → Mu → (List D → Mu → Prop) → Prop} {a b : Expr} {da db : DTE} {pos : Pos} (ho : OpLD X (binaryOp op) rd) (ha : PED X a da) (hb : PED X b db) : PLD X (.BinOp a op b pos) (dOpL rd da db) := by
  obtain ⟨r, h1, h2⟩ := ho.ex
  obtain ⟨ta, a1, a2⟩ := ha.ex
  obtain ⟨tb, b1, b2⟩ := hb.ex
  exact ⟨_, pe_op h1 a1 b1, snd_opL h2 a2 b2⟩
theorem de_cmp {op : CmpOp} {rd : D → D → Mu → DK → Prop} {a b : Expr} {da db : DTE} {pos : Pos} (ho : OpD X (compareOp op) rd) (ha : PED X a da) (hb : PED X b db) (hm : behindInMarks op b = false := by first | exact nomark _ | rfl) : PED X (.Compare a [op] [b] pos) (dOp rd da db) := by
  obtain ⟨r, h1, h2⟩ := ho.ex
  obtain ⟨ta, a1, a2⟩ := ha.ex
  obtain ⟨tb, b1, b2⟩ := hb.ex
  exact ⟨_, pe_cmpR h1 a1 b1 hm, snd_op h2 a2 b2⟩
def dTest (da : DTE) : DTT := fun ρ μ Q => da ρ μ fun x μ1 => match x with | .bl b => Q b μ1 | _ => False
theorem snd_test {t : TE} {da : DTE} (ha : SndE K t da) : SndT K (tTest t) (dTest da) := fun α σ H ρ μ Qd Q S E h post =>
  ha α σ H ρ μ _ _ S E h fun v1 H1 α1 μ1 d1 g1 s1 r1 q1 => by
    cases r1 with
    | bl b => exact ⟨b, rfl, post b H1 α1 μ1 g1 s1 q1⟩
    | _ => exact False.elim q1
theorem dt_cmp {op : CmpOp} {rd : D → D → Mu → DK → Prop} {a b : Expr} {da db : DTE} {pos : Pos} (ho : OpD X (compareOp op) rd) (ha : PED X a da) (hb : PED X b db) (hm : behindInMarks op b = false := by first | exact nomark _ | rfl) : PTD X (.Compare a [op] [b] pos) (dTest (dOp rd da db)) := by
  obtain ⟨r, h1, h2⟩ := ho.ex
  obtain ⟨ta, a1, a2⟩ := ha.ex
  obtain ⟨tb, b1, b2⟩ := hb.ex
  exact ⟨_, pt_cmpR h1 a1 b1 hm, snd_test (snd_op h2 a2 b2)⟩
theorem dt_val {e : Expr} {da : DTE} (h : PED X e da) (he : ∀ whole, isTrue e X.env whole = (do let v ← whole; standAt e.pos; holding [v] (truthy v)) := by intro _; rfl) : PTD X e (dTest da) := by
  obtain ⟨te, a1, a2⟩ := h.ex
  exact ⟨_, pt_val a1 he, snd_test a2⟩
/-- a op b op' c -/
def dChain (rd rd' : D → D → Mu → DK → Prop) (da db dc : DTE) : DTE := fun ρ μ Q => da ρ μ fun x μ1 => db ρ μ1 fun y μ2 => rd x y μ2 fun z μ3 => match z with
  | .bl b => if b = true then dc ρ μ3 fun w μ4 => rd' y w μ4 Q else Q (.bl false) μ3
  | _ => False
theorem snd_chain {r r' : R2} {rd rd' : D → D → Mu → DK → Prop} {ta tb tc : TE} {da db dc : DTE} (hr : SndR K r rd) (hr' : SndR K r' rd') (ha : SndE K ta da) (hb : SndE K tb db) (hc : SndE K tc dc) :
    SndE K (tChain r r' ta tb tc) (dChain rd rd' da db dc) := fun α σ H ρ μ Qd Q S E h post =>
  ha α σ H ρ μ _ _ S E h fun v1 H1 α1 μ1 d1 g1 s1 r1 q1 => hb α1 σ H1 ρ μ1 _ _ s1 (E.mono g1) q1 fun v2 H2 α2 μ2 d2 g2 s2 r2 q2 =>
    hr α2 H2 μ2 v1 v2 d1 d2 _ _ s2 (r1.mono g2) r2 q2 fun z H3 α3 μ3 dz g3 s3 r3 q3 => by
      cases r3 with
      | bl b =>
        refine ⟨b, rfl, ?_⟩
        cases b with
        | false => exact post _ _ _ _ _ ((g1.trans g2).trans g3) s3 (.bl false) q3
        | true => exact hc α3 σ H3 ρ μ3 _ _ s3 (((E.mono g1).mono g2).mono g3) q3 fun w H4 α4 μ4 dw g4 s4 r4 q4 => hr' α4 H4 μ4 v2 w d2 dw Qd Q s4 ((r2.mono g3).mono g4) r4 q4 (post.mono (((g1.trans g2).trans g3).trans g4))
      | _ => exact False.elim q3
theorem de_chain {op op' : CmpOp} {rd rd' : D → D → Mu → DK → Prop} {a b c : Expr} {da db dc : DTE} {pos : Pos} (ho : OpD X (compareOp op) rd) (ho' : OpD X (compareOp op') rd') (ha : PED X a da) (hb : PED X b db) (hc : PED X c dc)
    (hm : lastMarks [op, op'] [b, c] = false := by with_unfolding_all rfl) : PED X (.Compare a [op, op'] [b, c] pos) (dChain rd rd' da db dc) := by
  obtain ⟨r, h1, h2⟩ := ho.ex
  obtain ⟨r', h3, h4⟩ := ho'.ex
  obtain ⟨ta, a1, a2⟩ := ha.ex
  obtain ⟨tb, b1, b2⟩ := hb.ex
  obtain ⟨tc, c1, c2⟩ := hc.ex
  exact ⟨_, pe_chain h1 h3 a1 b1 c1 hm, snd_chain h2 h4 a2 b2 c2⟩
theorem dt_chain {op op' : CmpOp} {rd rd' : D → D → Mu → DK → Prop} {a b c : Expr} {da db dc : DTE} {pos : Pos} (ho : OpD X (compareOp op) rd) (ho' : OpD X (compareOp op') rd') (ha : PED X a da) (hb : PED X b db) (hc : PED X c dc)
    (hm : lastMarks [op, op'] [b, c] = false := by with_unfolding_all rfl) : PTD X (.Compare a [op, op'] [b, c] pos) (dTest (dChain rd rd' da db dc)) := by
  obtain ⟨r, h1, h2⟩ := ho.ex
  obtain ⟨r', h3, h4⟩ := ho'.ex
  obtain ⟨ta, a1, a2⟩ := ha.ex
  obtain ⟨tb, b1, b2⟩ := hb.ex
  obtain ⟨tc, c1, c2⟩ := hc.ex
  exact ⟨_, pt_chain h1 h3 a1 b1 c1 hm, snd_test (snd_chain h2 h4 a2 b2 c2)⟩

/-! ### and, or, not, if -/
def dAnd (da db : DTE) : DTE := fun ρ μ Q => da ρ μ fun x μ1 => match x with | .bl b => (if b = true then db ρ μ1 Q else Q (.bl false) μ1) | _ => False
def dOr (da db : DTE) : DTE := fun ρ μ Q => da ρ μ fun x μ1 => match x with | .bl b => (if b = true then Q (.bl true) μ1 else db ρ μ1 Q) | _ => False
def dNot (da : DTE) : DTE := fun ρ μ Q => da ρ μ fun x μ1 => match x with | .bl b => Q (.bl (!b)) μ1 | _ => False
def dIf (dt : DTT) (da db : DTE) : DTE := fun ρ μ Q => dt ρ μ fun b μ1 => if b = true then da ρ μ1 Q else db ρ μ1 Q
def dIfL (dt : DTT) (da db : DTL) : DTL := fun ρ μ Q => dt ρ μ fun b μ1 => if b = true then da ρ μ1 Q else db ρ μ1 Q
theorem snd_and {ta tb : TE} {da db : DTE} (ha : SndE K ta da) (hb : SndE K tb db) : SndE K (tAndV ta tb) (dAnd da db) := fun α σ H ρ μ Qd Q S E h post =>
  ha α σ H ρ μ _ _ S E h fun v1 H1 α1 μ1 d1 g1 s1 r1 q1 => by
    cases r1 with
    | bl b =>
      refine ⟨b, rfl, ?_⟩
      cases b with
      | false => exact post _ _ _ _ _ g1 s1 (.bl false) q1
      | true => exact hb α1 σ H1 ρ μ1 _ _ s1 (E.mono g1) q1 (post.mono g1)
    | _ => exact False.elim q1
theorem snd_or {ta tb : TE} {da db : DTE} (ha : SndE K ta da) (hb : SndE K tb db) : SndE K (tOrV ta tb) (dOr da db) := fun α σ H ρ μ Qd Q S E h post =>
  ha α σ H ρ μ _ _ S E h fun v1 H1 α1 μ1 d1 g1 s1 r1 q1 => by
    cases r1 with
    | bl b =>
      refine ⟨b, rfl, ?_⟩
      cases b with
      | true => exact post _ _ _ _ _ g1 s1 (.bl true) q1
      | false => exact hb α1 σ H1 ρ μ1 _ _ s1 (E.mono g1) q1 (post.mono g1)
    | _ => exact False.elim q1
theorem snd_not {ta : TE} {da : DTE} (ha : SndE K ta da) : SndE K (tNotV ta) (dNot da) := fun α σ H ρ μ Qd Q S E h post =>
  ha α σ H ρ μ _ _ S E h fun v1 H1 α1 μ1 d1 g1 s1 r1 q1 => by
    cases r1 with
    | bl b => exact ⟨b, rfl, post _ _ _ _ _ g1 s1 (.bl _) q1⟩
    | _ => exact False.elim q1
theorem snd_if {tt : TT} {ta tb : TE} {dt : DTT} {da db : DTE} (ht : SndT K tt dt) (ha : SndE K ta da) (hb : SndE K tb db) : SndE K (tIf tt ta tb) (dIf dt da db) := fun α σ H ρ μ Qd Q S E h post =>
  ht α σ H ρ μ _ _ S E h fun b H1 α1 μ1 g1 s1 q1 => by
    cases b with
    | true => exact ha α1 σ H1 ρ μ1 _ _ s1 (E.mono g1) q1 (post.mono g1)
    | false => exact hb α1 σ H1 ρ μ1 _ _ s1 (E.mono g1) q1 (post.mono g1)
theorem snd_ifL {tt : TT} {ta tb : TE} {dt : DTT} {da db : DTL} (ht : SndT K tt dt) (ha : SndL K ta da) (hb : SndL K tb db) : SndL K (tIf tt ta tb) (dIfL dt da db) := fun α σ H ρ μ Qd Q S E h post =>
  ht α σ H ρ μ _ _ S E h fun b H1 α1 μ1 g1 s1 q1 => by
    cases b with
    | true => exact ha α1 σ H1 ρ μ1 _ _ s1 (E.mono g1) q1 (post.mono g1)
    | false => exact hb α1 σ H1 ρ μ1 _ _ s1 (E.mono g1) q1 (post.mono g1)
theorem de_one {op} {a : Expr} {pos : Pos} {da : DTE} (h : PED X a da) : PED X (.BoolOp op [a] pos) da := by
  obtain ⟨te, a1, a2⟩ := h.ex
  exact ⟨te, pe_one a1, a2⟩
theorem de_and {a b : Expr} {rest : List Expr} {pos : Pos} {da db : DTE} (ha : PED X a da) (hb : PED X (.BoolOp .And (b :: rest) pos) db) : PED X (.BoolOp .And (a :: b :: rest) pos) (dAnd da db) := by
  obtain ⟨ta, a1, a2⟩ := ha.ex
  obtain ⟨tb, b1, b2⟩ := hb.ex
  exact ⟨_, pe_and a1 b1, snd_and a2 b2⟩
theorem de_or {a b : Expr} {rest : List Expr} {pos : Pos} {da db : DTE} (ha : PED X a da) (hb : PED X (.BoolOp .Or (b :: rest) pos) db) : PED X (.BoolOp .Or (a :: b :: rest) pos) (dOr da db) := by
  obtain ⟨ta, a1, a2⟩ := ha.ex
  obtain ⟨tb, b1, b2⟩ := hb.ex
  exact ⟨_, pe_or a1 b1, snd_or a2 b2⟩
theorem de_not {a : Expr} {pos : Pos} {da : DTE} (ha : PED X a da) : PED X (.UnaryOp .Not a pos) (dNot da) := by
  obtain ⟨ta, a1, a2⟩ := ha.ex
  exact ⟨_, pe_not a1, snd_not a2⟩
theorem de_if {c a b : Expr} {pos : Pos} {dt : DTT} {da db : DTE} (hc : PTD X c dt) (ha : PED X a da) (hb : PED X b db) : PED X (.IfExp c a b pos) (dIf dt da db) := by
  obtain ⟨tt, c1, c2⟩ := hc.ex
  obtain ⟨ta, a1, a2⟩ := ha.ex
  obtain ⟨tb, b1, b2⟩ := hb.ex
  exact ⟨_, pe_ifExp c1 a1 b1, snd_if c2 a2 b2⟩
theorem dl_if {c a b : Expr} {pos : Pos} {dt : DTT} {da db : DTL} (hc : PTD X c dt) (ha : PLD X a da) (hb : PLD X b db) : PLD X (.IfExp c a b pos) (dIfL dt da db) := by
  obtain ⟨tt, c1, c2⟩ := hc.ex
  obtain ⟨ta, a1, a2⟩ := ha.ex
  obtain ⟨tb, b1, b2⟩ := hb.ex
  exact ⟨_, pe_ifExp c1 a1 b1, snd_ifL c2 a2 b2⟩
/-- as tests -/
def dtAnd (da db : DTT) : DTT := fun ρ μ Q => da ρ μ fun b μ1 => if b = true then db ρ μ1 Q else Q false μ1
def dtOr (da db : DTT) : DTT := fun ρ μ Q => da ρ μ fun b μ1 => if b = true then Q true μ1 else db ρ μ1 Q
def dtNot (da : DTT) : DTT := fun ρ μ Q => da ρ μ fun b μ1 => Q (!b) μ1
theorem PWD.pt {e : Expr} {dt : DTT} (h : PWD X e dt) : PTD X e dt := by
  obtain ⟨tt, c1, c2⟩ := h.ex
  exact ⟨tt, c1.pt, c2⟩
theorem dw_and1 {a : Expr} {pos : Pos} {da : DTT} (ha : PTD X a da) : PWD X (.BoolOp .And [a] pos) da := by
  obtain ⟨ta, a1, a2⟩ := ha.ex
  exact ⟨_, pw_and1 a1, a2⟩
theorem dw_or1 {a : Expr} {pos : Pos} {da : DTT} (ha : PTD X a da) : PWD X (.BoolOp .Or [a] pos) da := by
  obtain ⟨ta, a1, a2⟩ := ha.ex
  exact ⟨_, pw_or1 a1, a2⟩
theorem dw_and {a b : Expr} {rest : List Expr} {pos : Pos} {da db : DTT} (ha : PTD X a da) (hb : PWD X (.BoolOp .And (b :: rest) pos) db) : PWD X (.BoolOp .And (a :: b :: rest) pos) (dtAnd da db) := by
  obtain ⟨ta, a1, a2⟩ := ha.ex
  obtain ⟨tb, b1, b2⟩ := hb.ex
  refine ⟨_, pw_and a1 b1, fun α σ H ρ μ Qd Q S E h post => a2 α σ H ρ μ _ _ S E h fun b H1 α1 μ1 g1 s1 q1 => ?_⟩
  cases b with
  | true => exact b2 α1 σ H1 ρ μ1 _ _ s1 (E.mono g1) q1 (post.mono g1)
  | false => exact post _ _ _ _ g1 s1 q1
theorem dw_or {a b : Expr} {rest : List Expr} {pos : Pos} {da db : DTT} (ha : PTD X a da) (hb : PWD X (.BoolOp .Or (b :: rest) pos) db) : PWD X (.BoolOp .Or (a :: b :: rest) pos) (dtOr da db) := by
  obtain ⟨ta, a1, a2⟩ := ha.ex
  obtain ⟨tb, b1, b2⟩ := hb.ex
  refine ⟨_, pw_or a1 b1, fun α σ H ρ μ Qd Q S E h post => a2 α σ H ρ μ _ _ S E h fun b H1 α1 μ1 g1 s1 q1 => ?_⟩
  cases b with
  | false => exact b2 α1 σ H1 ρ μ1 _ _ s1 (E.mono g1) q1 (post.mono g1)
  | true => exact post _ _ _ _ g1 s1 q1
theorem dt_not {a : Expr} {pos : Pos} {da : DTT} (ha : PTD X a da) : PTD X (.UnaryOp .Not a pos) (dtNot da) := by
  obtain ⟨ta, a1, a2⟩ := ha.ex
  exact ⟨_, pt_not a1, fun α σ H ρ μ Qd Q S E h post => a2 α σ H ρ μ _ _ S E h fun b H1 α1 μ1 g1 s1 q1 => post _ _ _ _ g1 s1 q1⟩

/-! ### argument lists, displays -/
def daNil : DTA := fun _ μ Q => Q [] μ
def daCons (de : DTE) (dr : DTA) : DTA := fun ρ μ Q => de ρ μ fun x μ1 => dr ρ μ1 fun xs μ2 => Q (x :: xs) μ2
theorem da_nil : PAD X [] daNil := ⟨_, pa_nil, fun α σ H ρ μ Qd Q S E h post => post _ _ _ _ _ (Gr.refl α H) S .nil h⟩
theorem snd_cons {te : TE} {tr : TA} {de : DTE} {dr : DTA} (h1 : SndE K te de) (h2 : SndA K tr dr) : SndA K (tCons te tr) (daCons de dr) := fun α σ H ρ μ Qd Q S E h post =>
  h1 α σ H ρ μ _ _ S E h fun v1 H1 α1 μ1 d1 g1 s1 r1 q1 => h2 α1 σ H1 ρ μ1 _ _ s1 (E.mono g1) q1 fun vs H2 α2 μ2 ds g2 s2 r2 q2 => post _ _ _ _ _ (g1.trans g2) s2 (.cons (r1.mono g2) r2) q2
theorem da_cons {e : Expr} {es : List Expr} {de : DTE} {dr : DTA} (he : PED X e de) (hr : PAD X es dr) (hs : starEach (e :: es) X.env = (false, eval e X.env) :: starEach es X.env := by rfl) : PAD X (e :: es) (daCons de dr) := by
  obtain ⟨te, a1, a2⟩ := he.ex
  obtain ⟨tr, b1, b2⟩ := hr.ex
  exact ⟨_, pa_cons a1 b1 hs, snd_cons a2 b2⟩
def dTup (da : DTA) : DTE := fun ρ μ Q => da ρ μ fun xs μ1 => xs.length ≤ sizeLine ∧ Q (.tup xs) μ1
def dLst (da : DTA) : DTL := fun ρ μ Q => da ρ μ fun xs μ1 => xs.length ≤ sizeLine ∧ Q xs μ1
theorem de_tup {es : List Expr} {da : DTA} {x1} {pos : Pos} (h : PAD X es da) : PED X (.Tuple es x1 pos) (dTup da) := by
  obtain ⟨ta, a1, a2⟩ := h.ex
  refine ⟨_, pe_tup a1, fun α σ H ρ μ Qd Q S E h post => a2 α σ H ρ μ _ _ S E h fun vs H1 α1 μ1 ds g1 s1 r1 q1 => ⟨by rw [r1.length]; exact q1.1, fun p hp => ?_⟩⟩
  exact (post.mono g1).tup s1 r1 q1.2 hp
theorem dl_lst {es : List Expr} {da : DTA} {pos : Pos} (h : PAD X es da) : PLD X (.List es pos) (dLst da) := by
  obtain ⟨ta, a1, a2⟩ := h.ex
  refine ⟨_, pe_lst a1, fun α σ H ρ μ Qd Q S E h post => a2 α σ H ρ μ _ _ S E h fun vs H1 α1 μ1 ds g1 s1 r1 q1 => ⟨by rw [r1.length]; exact q1.1, fun p hp => ?_⟩⟩
  exact (post.mono g1).here s1 r1 q1.2 hp

/-! ### operators, case by case -/
def rdI (C : Int → Int → Prop) (g : Int → Int → D) : D → D → Mu → DK → Prop := fun x y μ Q => match x, y with | .int i, .int j => C i j ∧ Q (g i j) μ | _, _ => False
def rdI0 (g : Int → Int → D) : D → D → Mu → DK → Prop := fun x y μ Q => match x, y with | .int i, .int j => Q (g i j) μ | _, _ => False
theorem snd_I {C : Int → Int → Prop} {g : Int → Int → V} {gd : Int → Int → D} (hg : ∀ i j α H, Rl K α H (g i j) (gd i j)) : SndR K (rI C g) (rdI C gd) := fun α H μ x y dx dy Qd Q S rx ry h post => by
  cases rx with
  | int i =>
    cases ry with
    | int j => exact ⟨i, j, rfl, rfl, h.1, post.here S (hg i j α H) h.2⟩
    | _ => exact False.elim h
  | _ => exact False.elim h
theorem snd_I0 {g : Int → Int → V} {gd : Int → Int → D} (hg : ∀ i j α H, Rl K α H (g i j) (gd i j)) : SndR K (rI0 g) (rdI0 gd) := fun α H μ x y dx dy Qd Q S rx ry h post => by
  cases rx with
  | int i =>
    cases ry with
    | int j => exact ⟨i, j, rfl, rfl, post.here S (hg i j α H) h⟩
    | _ => exact False.elim h
  | _ => exact False.elim h
abbrev oAdd := rdI0 fun i j => D.int (i + j)
abbrev oSub := rdI0 fun i j => D.int (i - j)
/-- a size that no sum of ours reaches -/
def bigN : Nat := 2 ^ 4000
theorem lt_big {n : Nat} (h : n < 2 ^ 250) : n < bigN := Nat.lt_trans h (Nat.pow_lt_pow_right (by decide) (by decide))
def MulOk (i j : Int) : Prop := (-(2 ^ 64) < i ∧ i < 2 ^ 64) ∨ (-(2 ^ 64) < j ∧ j < 2 ^ 64) ∨ (i.natAbs < bigN ∧ j.natAbs < bigN)
def DivOk (_ j : Int) : Prop := 0 < j ∧ j.natAbs < bigN
abbrev oMul := rdI MulOk fun i j => D.int (i * j)
abbrev oDiv := rdI DivOk fun i j => D.int (i / j)
abbrev oMod := rdI (fun _ j => 0 < j) fun i j => D.int (i % j)
abbrev oPow := rdI CPow fun i j => D.int (i ^ j.toNat)
abbrev oLt := rdI0 fun i j => D.bl (decide (i < j))
abbrev oLe := rdI0 fun i j => D.bl (decide (i ≤ j))
abbrev oGt := rdI0 fun i j => D.bl (decide (j < i))
abbrev oGe := rdI0 fun i j => D.bl (decide (j ≤ i))
theorem o_add : OpD X (binaryOp .Add) oAdd := ⟨_, op_add, snd_I0 fun _ _ _ _ => .int _⟩
theorem o_sub : OpD X (binaryOp .Sub) oSub := ⟨_, op_sub, snd_I0 fun _ _ _ _ => .int _⟩
theorem o_mul : OpD X (binaryOp .Mult) oMul := ⟨_, OpR.or op_mul op_mulW, fun α H μ x y dx dy Qd Q S rx ry h post => by
  cases rx with
  | int i =>
    cases ry with
    | int j =>
      obtain ⟨hc, h⟩ := h
      rcases hc with hc | hc | hc
      · exact .inl ⟨i, j, rfl, rfl, .inl hc, post.here S (.int _) h⟩
      · exact .inl ⟨i, j, rfl, rfl, .inr hc, post.here S (.int _) h⟩
      · exact .inr ⟨i, j, rfl, rfl, wide_mul hc.1 hc.2 (by decide) (by decide) (by decide), post.here S (.int _) h⟩
    | _ => exact False.elim h
  | _ => exact False.elim h⟩
theorem o_div : OpD X (binaryOp .FloorDiv) oDiv := ⟨_, op_fdivW, fun α H μ x y dx dy Qd Q S rx ry h post => by
  cases rx with
  | int i =>
    cases ry with
    | int j =>
      obtain ⟨hc, h⟩ := h
      exact ⟨i, j, rfl, rfl, wide_div hc.1 hc.2 (by decide) (by decide), post.here S (.int _) h⟩
    | _ => exact False.elim h
  | _ => exact False.elim h⟩
theorem o_mod : OpD X (binaryOp .Mod) oMod := ⟨_, op_mod, snd_I fun _ _ _ _ => .int _⟩
theorem o_pow : OpD X (binaryOp .Pow) oPow := ⟨_, op_pow, snd_I fun _ _ _ _ => .int _⟩
theorem o_lt : OpD X (compareOp .Lt) oLt := ⟨_, op_lt, snd_I0 fun _ _ _ _ => .bl _⟩
theorem o_le : OpD X (compareOp .LtE) oLe := ⟨_, op_le, snd_I0 fun _ _ _ _ => .bl _⟩
theorem o_gt : OpD X (compareOp .Gt) oGt := ⟨_, op_gt, snd_I0 fun _ _ _ _ => .bl _⟩
theorem o_ge : OpD X (compareOp .GtE) oGe := ⟨_, op_ge, snd_I0 fun _ _ _ _ => .bl _⟩
/-- -a -/
def uNeg : D → Mu → DK → Prop := fun x μ Q => match x with | .int i => Q (.int (-i)) μ | _ => False
theorem de_neg {a : Expr} {pos : Pos} {da : DTE} (ha : PED X a da) : PED X (.UnaryOp .USub a pos) (dUn uNeg da) := by
  obtain ⟨ta, a1, a2⟩ := ha.ex
  refine ⟨_, pe_un un_neg a1, snd_un (fun α H μ x dx Qd Q S r h post => ?_) a2⟩
  cases r with
  | int i => exact ⟨i, rfl, post.here S (.int _) h⟩
  | _ => exact False.elim h
/-- is None, is not None -/
def D.isNon : D → Bool
  | .non => true
  | _ => false
def oIsN : D → D → Mu → DK → Prop := fun x y μ Q => match y with | .non => Q (.bl x.isNon) μ | _ => False
def oNotN : D → D → Mu → DK → Prop := fun x y μ Q => match y with | .non => Q (.bl (!x.isNon)) μ | _ => False
theorem Rl.isNon {v : V} {d : D} (r : Rl K α H v d) : decide (v = .non) = d.isNon := by
  cases r <;> first | rfl | exact decide_eq_false (fun z => nomatch z)
theorem o_isN : OpD X (compareOp .Is) oIsN := ⟨_, op_isN, fun α H μ x y dx dy Qd Q S rx ry h post => by
  cases ry with
  | non => exact ⟨rfl, by rw [rx.isNon]; exact post.here S (.bl _) h⟩
  | _ => exact False.elim h⟩
theorem o_notN : OpD X (compareOp .IsNot) oNotN := ⟨_, op_notN, fun α H μ x y dx dy Qd Q S rx ry h post => by
  cases ry with
  | non => exact ⟨rfl, by rw [rx.isNon]; exact post.here S (.bl _) h⟩
  | _ => exact False.elim h⟩
end
end Dl
/-! Dat2: readings over plain data: equality, items, calls of built-ins. -/
namespace Dl
open PySem PySem.Spec PyProof.Rows L2
variable {K : PySem.W.Frag} {α α1 : List Addr} {H H1 : Hp} {X : Cx}

/-! ### data as a tree -/
mutual
inductive Rs (μ : Mu) : D → PyData → Prop
  | non : Rs μ .non .none
  | bl (b : Bool) : Rs μ (.bl b) (.bool b)
  | int (i : Int) : Rs μ (.int i) (.int i)
  | str (x : Str) : Rs μ (.str x) (.str x)
  | tup {ds : List D} {ps : List PyData} : RsAll μ ds ps → Rs μ (.tup ds) (.tuple ps)
  | frz {ds : List D} {ps : List PyData} : RsAll μ ds ps → Rs μ (.frz ds) (.list ps)
  | cell {k : Nat} {ds : List D} {ps : List PyData} : μ k = some ds → RsAll μ ds ps → Rs μ (.cell k) (.list ps)
inductive RsAll (μ : Mu) : List D → List PyData → Prop
  | nil : RsAll μ [] []
  | cons {d : D} {ds : List D} {p : PyData} {ps : List PyData} : Rs μ d p → RsAll μ ds ps → RsAll μ (d :: ds) (p :: ps)
end
mutual
theorem Rl.dp {μ : Mu} (S : Sat K α H μ) : ∀ {d : D} {p : PyData} {v : V}, Rs μ d p → Rl K α H v d → Dp K H v p
  | _, _, _, .non, .non => .non
  | _, _, _, .bl b, .bl _ => .bl b
  | _, _, _, .int i, .int _ => .int i
  | _, _, _, .str x, .str _ => .str x
  | _, _, _, .tup r, .tup q r' => .tup q (Rl.dpAll S r r')
  | _, _, _, .frz r, .frz q r' => .lst q.seq (Rl.dpAll S r r')
  | _, _, _, .cell e r, .cell q => by
    obtain ⟨a, vs, h1, h2, h3⟩ := S.cell _ _ e
    rw [q] at h1
    cases h1
    exact .lst (.inl (.inl h2)) (Rl.dpAll S r h3)
theorem Rl.dpAll {μ : Mu} (S : Sat K α H μ) : ∀ {ds : List D} {ps : List PyData} {vs : List V}, RsAll μ ds ps → RlAll K α H vs ds → DpAll K H vs ps
  | _, _, _, .nil, .nil => .nil
  | _, _, _, .cons a b, .cons a' b' => .cons (Rl.dp S a a') (Rl.dpAll S b b')
end
/-- == of data -/
def deepEq (neg : Bool) (x y : D) (μ : Mu) (Q : DK) : Prop := ∃ p q, Rs μ x p ∧ Rs μ y q ∧ SeqAt.shaped p = true ∧ SeqAt.shaped q = true ∧ Q (.bl (if neg then !PyData.eqv p q else PyData.eqv p q)) μ
def oEq : D → D → Mu → DK → Prop := fun x y μ Q => match x, y with
  | .int i, .int j => Q (.bl (decide (i = j))) μ
  | .str i, .str j => Q (.bl (decide (i = j))) μ
  | .bl i, .bl j => Q (.bl (decide (i = j))) μ
  | x, y => deepEq false x y μ Q
def oNe : D → D → Mu → DK → Prop := fun x y μ Q => match x, y with
  | .int i, .int j => Q (.bl (!decide (i = j))) μ
  | .str i, .str j => Q (.bl (!decide (i = j))) μ
  | .bl i, .bl j => Q (.bl (!decide (i = j))) μ
  | x, y => deepEq true x y μ Q
theorem dec_inj {α β : Type} [DecidableEq α] [DecidableEq β] (f : α → β) (inj : ∀ a b, f a = f b → a = b) (a b : α) : decide (f a = f b) = decide (a = b) := by
  by_cases h : a = b
  · subst h
    simp
  · rw [decide_eq_false h, decide_eq_false fun e => h (inj _ _ e)]
theorem o_eq (hu : X.A.units + 64 < cLine) : OpD X (compareOp .Eq) oEq := by
  refine ⟨_, OpR.or op_eq (op_eqD hu), fun α H μ x y dx dy Qd Q S rx ry h post => ?_⟩
  have deep : deepEq false dx dy μ Qd → rEqD X.K x y H Q := fun ⟨p, q, h1, h2, h3, h4, h5⟩ => ⟨p, q, rx.dp S h1, ry.dp S h2, h3, h4, post.here S (.bl _) h5⟩
  unfold oEq at h
  split at h
  · cases rx; cases ry
    exact .inl ⟨rfl, by rw [dec_inj V.int (fun _ _ e => V.int.inj e)]; exact post.here S (.bl _) h⟩
  · cases rx; cases ry
    exact .inl ⟨rfl, by rw [dec_inj V.str (fun _ _ e => V.str.inj e)]; exact post.here S (.bl _) h⟩
  · cases rx; cases ry
    exact .inl ⟨rfl, by rw [dec_inj V.bl (fun _ _ e => V.bl.inj e)]; exact post.here S (.bl _) h⟩
  · exact .inr (deep h)
theorem o_ne (hu : X.A.units + 64 < cLine) : OpD X (compareOp .NotEq) oNe := by
  refine ⟨_, OpR.or op_ne (op_neD hu), fun α H μ x y dx dy Qd Q S rx ry h post => ?_⟩
  have deep : deepEq true dx dy μ Qd → rNeD X.K x y H Q := fun ⟨p, q, h1, h2, h3, h4, h5⟩ => ⟨p, q, rx.dp S h1, ry.dp S h2, h3, h4, post.here S (.bl _) h5⟩
  unfold oNe at h
  split at h
  · cases rx; cases ry
    exact .inl ⟨rfl, by rw [dec_inj V.int (fun _ _ e => V.int.inj e)]; exact post.here S (.bl _) h⟩
  · cases rx; cases ry
    exact .inl ⟨rfl, by rw [dec_inj V.str (fun _ _ e => V.str.inj e)]; exact post.here S (.bl _) h⟩
  · cases rx; cases ry
    exact .inl ⟨rfl, by rw [dec_inj V.bl (fun _ _ e => V.bl.inj e)]; exact post.here S (.bl _) h⟩
  · exact .inr (deep h)

/-! ### places -/
theorem RlAll.atI {vs : List V} {ds : List D} {i : Int} {d : D} (r : RlAll K α H vs ds) (h : atI ds i = some d) : ∃ v, atI vs i = some v ∧ Rl K α H v d := by
  unfold L2.atI at h ⊢
  rw [r.length]
  cases e : ixN ds.length i with
  | none =>
    rw [e] at h
    cases h
  | some j =>
    rw [e] at h
    exact r.get h
def oIx : D → D → Mu → DK → Prop := fun x y μ Q => match items μ x, y with
  | some ds, .int i => (match atI ds i with | some d => Q d μ | none => False)
  | _, _ => False
theorem snd_ix : SndR K (fun x y H Q => rIxL K x y H Q ∨ rIxT K x y H Q) oIx := fun α H μ x y dx dy Qd Q S rx ry h post => by
  unfold oIx at h
  split at h
  · rename_i ds i e
    split at h
    · rename_i d e2
      cases ry
      obtain ⟨a, vs, rfl, q, r⟩ := S.seq rx e
      obtain ⟨v, h1, h2⟩ := r.atI e2
      rcases q with q | q
      · exact .inl ⟨a, vs, i, v, rfl, rfl, q, h1, post.here S h2 h⟩
      · exact .inr ⟨a, vs, i, v, rfl, rfl, q, h1, post.here S h2 h⟩
    · exact h.elim
  · exact h.elim
theorem de_ix {a b : Expr} {pos : Pos} {da db : DTE} (ha : PED X a da) (hb : PED X b db) (hs : PlainIx b := by exact fun _ _ => rfl) : PED X (.Subscript a b pos) (dOp oIx da db) := by
  obtain ⟨ta, a1, a2⟩ := ha.ex
  obtain ⟨tb, b1, b2⟩ := hb.ex
  exact ⟨_, pe_ix (IxR.or ix_list ix_tup) a1 b1 hs, snd_op snd_ix a2 b2⟩

/-! ### calls of built-ins -/
structure CallD (X : Cx) (f : Value) (rd : List D → Mu → DK → Prop) : Prop where
  ex : ∃ r, CallR X f r ∧ SndC X.K r rd
structure CallLD (X : Cx) (f : Value) (rd : List D → Mu → (List D → Mu → Prop) → Prop) : Prop where
  ex : ∃ r, CallR X f r ∧ SndCL X.K r rd
def dCall (rd : List D → Mu → DK → Prop) (da : DTA) : DTE := fun ρ μ Q => da ρ μ fun ds μ1 => rd ds μ1 Q
def dCallF (rd : List D → Mu → (List D → Mu → Prop) → Prop) (da : DTA) : DTL := fun ρ μ Q => da ρ μ fun ds μ1 => rd ds μ1 Q
theorem snd_call {r : List V → Hp → VK → Prop} {rd : List D → Mu → DK → Prop} {ta : TA} {da : DTA} (hr : SndC K r rd) (ha : SndA K ta da) : SndE K (tCB r ta) (dCall rd da) := fun α σ H ρ μ Qd Q S E h post =>
  ha α σ H ρ μ _ _ S E h fun vs H1 α1 μ1 ds g1 s1 r1 q1 => hr α1 H1 μ1 vs ds Qd Q s1 r1 q1 (post.mono g1)
theorem snd_callF {r : List V → Hp → VK → Prop} {rd : List D → Mu → (List D → Mu → Prop) → Prop} {ta : TA} {da : DTA} (hr : SndCL K r rd) (ha : SndA K ta da) : SndL K (tCB r ta) (dCallF rd da) := fun α σ H ρ μ Qd Q S E h post =>
  ha α σ H ρ μ _ _ S E h fun vs H1 α1 μ1 ds g1 s1 r1 q1 => hr α1 H1 μ1 vs ds Qd Q s1 r1 q1 (post.mono g1)
section
variable {x : Str} {p pos : Pos} {e : Expr} {es : List Expr} {id T : String} {da : DTA}
theorem de_callB {rd : List D → Mu → DK → Prop} (hc : CallD X (.builtin id) rd) (hm : X.mg x = none) (hv : bootBuiltins x = some (.builtin id)) (ha : PAD X (e :: es) da) (hg : Gl X x := by rfl) (hn : x ≠ "__name__" := by decide) (hdb : (x == ("__debug__" : Str)) = false := by decide)
    (he : starEach (e :: es) X.env = (false, eval e X.env) :: starEach es X.env := by rfl) (hpl : (backTo pos (starEach es X.env)).any (·.1) = false := by rfl) : PED X (.Call (.Name x p) (e :: es) [] pos) (dCall rd da) := by
  obtain ⟨r, h1, h2⟩ := hc.ex
  obtain ⟨ta, a1, a2⟩ := ha.ex
  exact ⟨_, pe_callB h1 hg hm hv a1 hn hdb he hpl, snd_call h2 a2⟩
theorem de_callTy {rd : List D → Mu → DK → Prop} (hc : CallD X (.type T) rd) (hm : X.mg x = none) (hv : bootBuiltins x = some (.type T)) (ha : PAD X (e :: es) da) (hg : Gl X x := by rfl) (hn : x ≠ "__name__" := by decide) (hdb : (x == ("__debug__" : Str)) = false := by decide)
    (he : starEach (e :: es) X.env = (false, eval e X.env) :: starEach es X.env := by rfl) (hpl : (backTo pos (starEach es X.env)).any (·.1) = false := by rfl) : PED X (.Call (.Name x p) (e :: es) [] pos) (dCall rd da) := by
  obtain ⟨r, h1, h2⟩ := hc.ex
  obtain ⟨ta, a1, a2⟩ := ha.ex
  exact ⟨_, pe_callTy h1 hg hm hv a1 hn hdb he hpl, snd_call h2 a2⟩
theorem dl_callB {rd : List D → Mu → (List D → Mu → Prop) → Prop} (hc : CallLD X (.builtin id) rd) (hm : X.mg x = none) (hv : bootBuiltins x = some (.builtin id)) (ha : PAD X (e :: es) da) (hg : Gl X x := by rfl) (hn : x ≠ "__name__" := by decide) (hdb : (x == ("__debug__" : Str)) = false := by decide)
    (he : starEach (e :: es) X.env = (false, eval e X.env) :: starEach es X.env := by rfl) (hpl : (backTo pos (starEach es X.env)).any (·.1) = false := by rfl) : PLD X (.Call (.Name x p) (e :: es) [] pos) (dCallF rd da) := by
  obtain ⟨r, h1, h2⟩ := hc.ex
  obtain ⟨ta, a1, a2⟩ := ha.ex
  exact ⟨_, pe_callB h1 hg hm hv a1 hn hdb he hpl, snd_callF h2 a2⟩
theorem dl_callTy {rd : List D → Mu → (List D → Mu → Prop) → Prop} (hc : CallLD X (.type T) rd) (hm : X.mg x = none) (hv : bootBuiltins x = some (.type T)) (ha : PAD X (e :: es) da) (hg : Gl X x := by rfl) (hn : x ≠ "__name__" := by decide) (hdb : (x == ("__debug__" : Str)) = false := by decide)
    (he : starEach (e :: es) X.env = (false, eval e X.env) :: starEach es X.env := by rfl) (hpl : (backTo pos (starEach es X.env)).any (·.1) = false := by rfl) : PLD X (.Call (.Name x p) (e :: es) [] pos) (dCallF rd da) := by
  obtain ⟨r, h1, h2⟩ := hc.ex
  obtain ⟨ta, a1, a2⟩ := ha.ex
  exact ⟨_, pe_callTy h1 hg hm hv a1 hn hdb he hpl, snd_callF h2 a2⟩
end
/-- f(xs) that reads one list (or tuple), by what it holds; tp: tuples too -/
structure SeqD (X : Cx) (f : Value) (tp : Bool) (rs : List D → Mu → DK → Prop) : Prop where
  ex : ∃ r, CallR X f r ∧ ∀ α H μ p vs xs Qd (Q : VK), Sat X.K α H μ → (SqL X.K H p vs ∨ (tp = true ∧ SqT X.K H p vs)) → RlAll X.K α H vs xs → rs xs μ Qd → PostE X.K α H Qd Q → r [.ref p] H Q
structure SeqLD (X : Cx) (f : Value) (tp : Bool) (rs : List D → Mu → (List D → Mu → Prop) → Prop) : Prop where
  ex : ∃ r, CallR X f r ∧ ∀ α H μ p vs xs Qd (Q : VK), Sat X.K α H μ → (SqL X.K H p vs ∨ (tp = true ∧ SqT X.K H p vs)) → RlAll X.K α H vs xs → rs xs μ Qd → PostL X.K α H Qd Q → r [.ref p] H Q
def sitems (tp : Bool) (μ : Mu) (d : D) : Option (List D) := if tp then items μ d else litems μ d
theorem Sat.sitems {tp : Bool} {μ : Mu} {v : V} {d : D} {xs : List D} (S : Sat K α H μ) (r : Rl K α H v d) (h : sitems tp μ d = some xs) : ∃ a vs, v = .ref a ∧ (SqL K H a vs ∨ (tp = true ∧ SqT K H a vs)) ∧ RlAll K α H vs xs := by
  unfold Dl.sitems at h
  cases tp with
  | true =>
    obtain ⟨a, vs, e, q, r⟩ := S.seq r (by simpa using h)
    exact ⟨a, vs, e, q.imp id fun z => ⟨rfl, z⟩, r⟩
  | false =>
    obtain ⟨a, vs, e, q, r⟩ := S.list r (by simpa using h)
    exact ⟨a, vs, e, .inl q, r⟩
def dSeq1 (tp : Bool) (rs : List D → Mu → DK → Prop) : List D → Mu → DK → Prop := fun ds μ Q => match ds with | [x] => (match sitems tp μ x with | some xs => rs xs μ Q | none => False) | _ => False
def dSeqL1 (tp : Bool) (rs : List D → Mu → (List D → Mu → Prop) → Prop) : List D → Mu → (List D → Mu → Prop) → Prop := fun ds μ Q => match ds with | [x] => (match sitems tp μ x with | some xs => rs xs μ Q | none => False) | _ => False
theorem SeqD.call {f : Value} {tp : Bool} {rs : List D → Mu → DK → Prop} (h : SeqD X f tp rs) : CallD X f (dSeq1 tp rs) := by
  obtain ⟨r, h1, h2⟩ := h.ex
  refine ⟨r, h1, fun α H μ vs ds Qd Q S rr h post => ?_⟩
  cases rr with
  | nil => exact False.elim h
  | cons a b =>
    cases b with
    | cons _ _ => exact False.elim h
    | nil =>
      unfold dSeq1 at h
      dsimp only at h
      split at h
      · rename_i xs e
        obtain ⟨p, vs, rfl, q, r⟩ := S.sitems a e
        exact h2 α H μ p vs xs Qd Q S q r h post
      · exact False.elim h
theorem SeqLD.call {f : Value} {tp : Bool} {rs : List D → Mu → (List D → Mu → Prop) → Prop} (h : SeqLD X f tp rs) : CallLD X f (dSeqL1 tp rs) := by
  obtain ⟨r, h1, h2⟩ := h.ex
  refine ⟨r, h1, fun α H μ vs ds Qd Q S rr h post => ?_⟩
  cases rr with
  | nil => exact False.elim h
  | cons a b =>
    cases b with
    | cons _ _ => exact False.elim h
    | nil =>
      unfold dSeqL1 at h
      dsimp only at h
      split at h
      · rename_i xs e
        obtain ⟨p, vs, rfl, q, r⟩ := S.sitems a e
        exact h2 α H μ p vs xs Qd Q S q r h post
      · exact False.elim h
/-- f([..]): the fresh list is read and dropped -/
def dOf (rs : List D → Mu → DK → Prop) (dl : DTL) : DTE := fun ρ μ Q => dl ρ μ fun xs μ1 => rs xs μ1 Q
def dOfL (rs : List D → Mu → (List D → Mu → Prop) → Prop) (dl : DTL) : DTL := fun ρ μ Q => dl ρ μ fun xs μ1 => rs xs μ1 Q
theorem fresh_of {μ : Mu} {k : Nat} {p : Addr} {xs : List D} (n : μ k = none) (a : α[k]? = some p) (S : Sat K α H (μ.upd k xs)) : Sat K α H μ ∧ ∃ vs, H p = some (.lst vs) ∧ RlAll K α H vs xs := by
  refine ⟨S.sub (Mu.sub_upd n), ?_⟩
  obtain ⟨b, vs, h1, h2, h3⟩ := S.cell k xs Mu.upd_same
  rw [a] at h1
  cases h1
  exact ⟨vs, h2, h3⟩
section
variable {x : Str} {p pos : Pos} {e : Expr} {id T : String} {dl : DTL} {tp : Bool}
theorem de_ofB {rs : List D → Mu → DK → Prop} (hc : SeqD X (.builtin id) tp rs) (hm : X.mg x = none) (hv : bootBuiltins x = some (.builtin id)) (ha : PLD X e dl) (hg : Gl X x := by rfl) (hn : x ≠ "__name__" := by decide) (hdb : (x == ("__debug__" : Str)) = false := by decide)
    (he : starEach [e] X.env = (false, eval e X.env) :: starEach [] X.env := by rfl) (hpl : (backTo pos (starEach [] X.env)).any (·.1) = false := by rfl) : PED X (.Call (.Name x p) [e] [] pos) (dOf rs dl) := by
  obtain ⟨r, h1, h2⟩ := hc.ex
  obtain ⟨ta, a1, a2⟩ := ha.ex
  refine ⟨_, pe_callB h1 hg hm hv (pa_cons a1 pa_nil he) hn hdb he hpl, fun α σ H ρ μ Qd Q S E h post => a2 α σ H ρ μ _ _ S E h fun p k H1 α1 μ1 xs g1 n1 l1 s1 q1 => ?_⟩
  obtain ⟨s2, vs, hp, r1⟩ := fresh_of n1 l1 s1
  exact h2 α1 H1 μ1 p vs xs Qd Q s2 (.inl (.inl (.inl hp))) r1 q1 (post.mono g1)
theorem de_ofTy {rs : List D → Mu → DK → Prop} (hc : SeqD X (.type T) tp rs) (hm : X.mg x = none) (hv : bootBuiltins x = some (.type T)) (ha : PLD X e dl) (hg : Gl X x := by rfl) (hn : x ≠ "__name__" := by decide) (hdb : (x == ("__debug__" : Str)) = false := by decide)
    (he : starEach [e] X.env = (false, eval e X.env) :: starEach [] X.env := by rfl) (hpl : (backTo pos (starEach [] X.env)).any (·.1) = false := by rfl) : PED X (.Call (.Name x p) [e] [] pos) (dOf rs dl) := by
  obtain ⟨r, h1, h2⟩ := hc.ex
  obtain ⟨ta, a1, a2⟩ := ha.ex
  refine ⟨_, pe_callTy h1 hg hm hv (pa_cons a1 pa_nil he) hn hdb he hpl, fun α σ H ρ μ Qd Q S E h post => a2 α σ H ρ μ _ _ S E h fun p k H1 α1 μ1 xs g1 n1 l1 s1 q1 => ?_⟩
  obtain ⟨s2, vs, hp, r1⟩ := fresh_of n1 l1 s1
  exact h2 α1 H1 μ1 p vs xs Qd Q s2 (.inl (.inl (.inl hp))) r1 q1 (post.mono g1)
theorem dl_ofB {rs : List D → Mu → (List D → Mu → Prop) → Prop} (hc : SeqLD X (.builtin id) tp rs) (hm : X.mg x = none) (hv : bootBuiltins x = some (.builtin id)) (ha : PLD X e dl) (hg : Gl X x := by rfl) (hn : x ≠ "__name__" := by decide) (hdb : (x == ("__debug__" : Str)) = false := by decide)
    (he : starEach [e] X.env = (false, eval e X.env) :: starEach [] X.env := by rfl) (hpl : (backTo pos (starEach [] X.env)).any (·.1) = false := by rfl) : PLD X (.Call (.Name x p) [e] [] pos) (dOfL rs dl) := by
  obtain ⟨r, h1, h2⟩ := hc.ex
  obtain ⟨ta, a1, a2⟩ := ha.ex
  refine ⟨_, pe_callB h1 hg hm hv (pa_cons a1 pa_nil he) hn hdb he hpl, fun α σ H ρ μ Qd Q S E h post => a2 α σ H ρ μ _ _ S E h fun p k H1 α1 μ1 xs g1 n1 l1 s1 q1 => ?_⟩
  obtain ⟨s2, vs, hp, r1⟩ := fresh_of n1 l1 s1
  exact h2 α1 H1 μ1 p vs xs Qd Q s2 (.inl (.inl (.inl hp))) r1 q1 (post.mono g1)
end

/-! ### the built-ins -/
theorem rl1 {vs : List V} {d : D} (r : RlAll K α H vs [d]) : ∃ v, vs = [v] ∧ Rl K α H v d := by
  cases r with
  | cons a b => cases b; exact ⟨_, rfl, a⟩
theorem rl2 {vs : List V} {d e : D} (r : RlAll K α H vs [d, e]) : ∃ v w, vs = [v, w] ∧ Rl K α H v d ∧ Rl K α H w e := by
  cases r with
  | cons a b =>
    obtain ⟨w, rfl, r2⟩ := rl1 b
    exact ⟨_, w, rfl, a, r2⟩
def cAbs : List D → Mu → DK → Prop := fun ds μ Q => match ds with | [.int i] => Q (.int (i.natAbs : Int)) μ | _ => False
theorem c_abs : CallD X (.builtin "abs") cAbs := ⟨_, call_abs, fun α H μ vs ds Qd Q S r h post => by
  unfold cAbs at h
  split at h
  · rename_i i
    obtain ⟨v, rfl, r1⟩ := rl1 r
    cases r1
    refine ⟨i, rfl, ?_⟩
    rw [show (if i < 0 then -i else i) = (i.natAbs : Int) by split <;> omega]
    exact post.here S (.int _) h
  · exact h.elim⟩
def cMax : List D → Mu → DK → Prop := fun ds μ Q => match ds with | [.int i, .int j] => Q (.int (max i j)) μ | _ => False
def cMin : List D → Mu → DK → Prop := fun ds μ Q => match ds with | [.int i, .int j] => Q (.int (min i j)) μ | _ => False
theorem c_max (hc : X.calm = true) : CallD X (.builtin "max") cMax := ⟨_, call_max2 hc, fun α H μ vs ds Qd Q S r h post => by
  unfold cMax at h
  split at h
  · rename_i i j
    obtain ⟨v, w, rfl, r1, r2⟩ := rl2 r
    cases r1; cases r2
    refine ⟨i, j, rfl, ?_⟩
    rw [show (if j > i then j else i) = max i j by split <;> omega]
    exact post.here S (.int _) h
  · exact h.elim⟩
theorem c_min (hc : X.calm = true) : CallD X (.builtin "min") cMin := ⟨_, call_min2 hc, fun α H μ vs ds Qd Q S r h post => by
  unfold cMin at h
  split at h
  · rename_i i j
    obtain ⟨v, w, rfl, r1, r2⟩ := rl2 r
    cases r1; cases r2
    refine ⟨i, j, rfl, ?_⟩
    rw [show (if j < i then j else i) = min i j by split <;> omega]
    exact post.here S (.int _) h
  · exact h.elim⟩
def cInt : List D → Mu → DK → Prop := fun ds μ Q => match ds with | [.int i] => Q (.int i) μ | _ => False
theorem c_int : CallD X (.type "int") cInt := ⟨_, call_int1, fun α H μ vs ds Qd Q S r h post => by
  unfold cInt at h
  split at h
  · rename_i i
    obtain ⟨v, rfl, r1⟩ := rl1 r
    cases r1
    exact .inl ⟨i, rfl, post.here S (.int _) h⟩
  · exact h.elim⟩
def cDivmod : List D → Mu → DK → Prop := fun ds μ Q => match ds with | [.int i, .int j] => CDiv i j ∧ Q (.tup [.int (i / j), .int (i % j)]) μ | _ => False
theorem c_divmod : CallD X (.builtin "divmod") cDivmod := ⟨_, call_divmod, fun α H μ vs ds Qd Q S r h post => by
  unfold cDivmod at h
  split at h
  · rename_i i j
    obtain ⟨v, w, rfl, r1, r2⟩ := rl2 r
    cases r1; cases r2
    exact ⟨i, j, rfl, h.1, fun p hp => post.tup S (.cons (.int _) (.cons (.int _) .nil)) h.2 hp⟩
  · exact h.elim⟩
def sLen : List D → Mu → DK → Prop := fun xs μ Q => Q (.int (xs.length : Nat)) μ
theorem s_len : SeqD X (.builtin "len") true sLen := ⟨_, call_len_seq, fun α H μ p vs xs Qd Q S q r h post => ⟨p, vs, rfl, q.imp id And.right, by rw [r.length]; exact post.here S (.int _) h⟩⟩
def sTup : List D → Mu → DK → Prop := fun xs μ Q => Q (.tup xs) μ
theorem s_tup : SeqD X (.type "tuple") true sTup := ⟨_, call_tuple_of, fun α H μ p vs xs Qd Q S q r h post => ⟨p, vs, rfl, by
  rcases q with q | ⟨_, q⟩
  · exact .inl ⟨q, fun l hl => post.tup S r h hl⟩
  · exact .inr ⟨q, post.here S (.tup q r) h⟩⟩⟩
def sLst : List D → Mu → (List D → Mu → Prop) → Prop := fun xs μ Q => Q xs μ
theorem s_lst : SeqLD X (.type "list") true sLst := ⟨_, call_list_of, fun α H μ p vs xs Qd Q S q r h post => ⟨p, vs, rfl, q.imp id And.right, fun l hl => post.here S r h hl⟩⟩
def sSum : List D → Mu → DK → Prop := fun xs μ Q => ∃ ns : List Int, xs = ns.map D.int ∧ Q (.int ns.sum) μ
theorem s_sum (hc : X.calm = true) : SeqD X (.builtin "sum") false sSum := ⟨_, cr_sum hc, fun α H μ p vs xs Qd Q S q r h post => by
  obtain ⟨ns, rfl, h⟩ := h
  have e := r.ints
  subst e
  exact ⟨p, ns, rfl, q.resolve_right (fun z => nomatch z.1), post.here S (.int _) h⟩⟩
def sAll : List D → Mu → DK → Prop := fun xs μ Q => ∃ bs : List Bool, xs = bs.map D.bl ∧ Q (.bl (bs.all id)) μ
def sAny : List D → Mu → DK → Prop := fun xs μ Q => ∃ bs : List Bool, xs = bs.map D.bl ∧ Q (.bl (bs.any id)) μ
theorem s_all (hc : X.calm = true) : SeqD X (.builtin "all") false sAll := ⟨_, cr_all hc, fun α H μ p vs xs Qd Q S q r h post => by
  obtain ⟨ns, rfl, h⟩ := h
  have e := r.bls
  subst e
  exact ⟨p, ns, rfl, q.resolve_right (fun z => nomatch z.1), post.here S (.bl _) h⟩⟩
theorem s_any (hc : X.calm = true) : SeqD X (.builtin "any") false sAny := ⟨_, cr_any hc, fun α H μ p vs xs Qd Q S q r h post => by
  obtain ⟨ns, rfl, h⟩ := h
  have e := r.bls
  subst e
  exact ⟨p, ns, rfl, q.resolve_right (fun z => nomatch z.1), post.here S (.bl _) h⟩⟩
/-- len of a text too -/
def sMax : List D → Mu → DK → Prop := fun xs μ Q => ∃ ns : List Int, xs = ns.map D.int ∧ 0 < ns.length ∧ ∀ m, m ∈ ns → (∀ y, y ∈ ns → y ≤ m) → Q (.int m) μ
def sMin : List D → Mu → DK → Prop := fun xs μ Q => ∃ ns : List Int, xs = ns.map D.int ∧ 0 < ns.length ∧ ∀ m, m ∈ ns → (∀ y, y ∈ ns → m ≤ y) → Q (.int m) μ
theorem s_max (hc : X.calm = true) : SeqD X (.builtin "max") false sMax := ⟨_, cr_max hc, fun α H μ p vs xs Qd Q S q r h post => by
  obtain ⟨ns, rfl, h0, h⟩ := h
  have e := r.ints
  subst e
  exact ⟨p, ns, rfl, q.resolve_right (fun z => nomatch z.1), h0, fun m h1 h2 => post.here S (.int _) (h m h1 h2)⟩⟩
theorem s_min (hc : X.calm = true) : SeqD X (.builtin "min") false sMin := ⟨_, cr_min hc, fun α H μ p vs xs Qd Q S q r h post => by
  obtain ⟨ns, rfl, h0, h⟩ := h
  have e := r.ints
  subst e
  exact ⟨p, ns, rfl, q.resolve_right (fun z => nomatch z.1), h0, fun m h1 h2 => post.here S (.int _) (h m h1 h2)⟩⟩

/-! ### isinstance -/
def tyD (μ : Mu) : D → Option String
  | .non => some "NoneType"
  | .bl _ => some "bool"
  | .int _ => some "int"
  | .str _ => some "str"
  | .tup _ => some "tuple"
  | .frz _ => some "list"
  | .cell k => (μ k).map fun _ => "list"
  | .ty _ => none
theorem Rl.tyX {μ : Mu} {v : V} {d : D} {t : String} (S : Sat K α H μ) (r : Rl K α H v d) (h : tyD μ d = some t) : TyX K H v (.type t) := by
  cases r with
  | non => cases h; exact .base .non
  | bl b => cases h; exact .base (.bl b)
  | int i => cases h; exact .base (.int i)
  | str x => cases h; exact .base (.str x)
  | ty n => cases h
  | tup q r =>
    cases h
    rcases q with (q | ⟨o, q⟩) | ⟨o, its, n, q, hc, _⟩
    · exact .base (.tup q)
    · exact .fTuple q
    · exact .kTuple q hc
  | frz q r =>
    cases h
    rcases q with ⟨o, q⟩ | q
    · exact .base (.frz q)
    · rcases q with (q | ⟨o, q⟩) | ⟨o, its, n, q, hc, _⟩
      · cases q
      · cases q
      · exact .kList q hc
  | @cell a k q =>
    cases e : μ k with
    | none =>
      rw [tyD, e] at h
      cases h
    | some xs =>
      rw [tyD, e] at h
      cases h
      obtain ⟨b, vs, h1, h2, h3⟩ := S.cell _ _ e
      rw [q] at h1
      cases h1
      exact .base (.lst h2)
def cIsi : List D → Mu → DK → Prop := fun ds μ Q => match ds with
  | [x, .ty n] => (match tyD μ x with | some t => (match kitB t n with | some b => Q (.bl b) μ | none => False) | none => False)
  | _ => False
theorem c_isi : CallD X (.builtin "isinstance") cIsi := ⟨_, call_isi, fun α H μ vs ds Qd Q S r h post => by
  unfold cIsi at h
  split at h
  · rename_i x n
    obtain ⟨v, w, rfl, r1, r2⟩ := rl2 r
    split at h
    · rename_i t e
      split at h
      · rename_i b e2
        cases r2
        exact ⟨v, .ty n, .type t, .type n, b, rfl, .ty n, r1.tyX S e, kit_ty e2, post.here S (.bl b) h⟩
      · exact h.elim
    · exact h.elim
  · exact h.elim⟩

/-! ### in, not in: numbers -/
def oIn (neg : Bool) : D → D → Mu → DK → Prop := fun x y μ Q => match x with
  | .int i => ∃ ns : List Int, items μ y = some (ns.map D.int) ∧ Q (.bl (if neg then !decide (i ∈ ns) else decide (i ∈ ns))) μ
  | _ => False
theorem inV_ints (i : Int) (ns : List Int) : inV (.int i) (ns.map V.int) = decide (i ∈ ns) := by
  unfold inV
  induction ns with
  | nil => simp
  | cons n ns ih =>
    rw [List.map_cons, List.any_cons, ih]
    have e : eqV (.int n) (.int i) = decide (n = i) := by
      by_cases h : n = i <;> simp [eqV, h]
    rw [e]
    by_cases h : n = i
    · subst h; simp
    · have h2 : ¬ i = n := fun z => h z.symm
      simp [h, h2]
theorem flat_ints (ns : List Int) : (ns.map V.int).all flatV = true := by
  rw [List.all_map, List.all_eq_true]
  intro x _
  rfl
theorem snd_in (neg : Bool) : SndR K (rIn K neg) (oIn neg) := fun α H μ x y dx dy Qd Q S rx ry h post => by
  unfold oIn at h
  split at h
  · rename_i i
    obtain ⟨ns, e, h⟩ := h
    obtain ⟨a, vs, rfl, q, r⟩ := S.seq ry e
    have e2 := r.ints
    subst e2
    cases rx
    refine ⟨a, _, rfl, q, rfl, flat_ints ns, ?_⟩
    rw [inV_ints]
    exact post.here S (.bl _) h
  · exact h.elim
theorem o_in : OpD X (compareOp .In) (oIn false) := ⟨_, op_in_seq, snd_in false⟩
theorem o_notIn : OpD X (compareOp .NotIn) (oIn true) := ⟨_, op_notIn_seq, snd_in true⟩

/-! ### tuples and lists put together, cut -/
def oCatT : D → D → Mu → DK → Prop := fun x y μ Q => match x, y with | .tup xs, .tup ys => xs.length + ys.length ≤ sizeLine ∧ Q (.tup (xs ++ ys)) μ | _, _ => False
theorem o_catT : OpD X (binaryOp .Add) oCatT := ⟨_, op_catA, fun α H μ x y dx dy Qd Q S rx ry h post => by
  unfold oCatT at h
  split at h
  · rename_i xs ys
    cases rx with
    | tup q r =>
      cases ry with
      | tup q' r' =>
        refine ⟨_, _, _, _, rfl, rfl, q, q', by rw [r.length, r'.length]; exact h.1, fun e => ?_, fun e e' => ?_, fun e e' p hp => ?_⟩
        · subst e
          have e2 := r.nilV
          subst e2
          exact post.here S (.tup q' r') h.2
        · subst e'
          have e2 := r'.nilV
          subst e2
          rw [List.append_nil] at h
          exact post.here S (.tup q r) h.2
        · exact post.tup S (r.append r') h.2 hp
  · exact h.elim⟩
def oCatL : D → D → Mu → (List D → Mu → Prop) → Prop := fun x y μ Q => match x, y with
  | .cell j, .cell k => (match μ j, μ k with | some xs, some ys => xs.length + ys.length ≤ sizeLine ∧ Q (xs ++ ys) μ | _, _ => False)
  | _, _ => False
theorem o_catL : OpLD X (binaryOp .Add) oCatL := ⟨_, op_cat, fun α H μ x y dx dy Qd Q S rx ry h post => by
  unfold oCatL at h
  split at h
  · rename_i j k
    split at h
    · rename_i xs ys e1 e2
      cases rx with
      | cell q =>
        cases ry with
        | cell q' =>
          obtain ⟨a, vs, h1, h2, h3⟩ := S.cell _ _ e1
          obtain ⟨b, ws, k1, k2, k3⟩ := S.cell _ _ e2
          rw [q] at h1
          rw [q'] at k1
          cases h1; cases k1
          exact ⟨_, _, _, _, rfl, rfl, h2, k2, by rw [h3.length, k3.length]; exact h.1, fun p hp => post.here S (h3.append k3) h.2 hp⟩
    · exact h.elim
  · exact h.elim⟩
def oRep : D → D → Mu → (List D → Mu → Prop) → Prop := fun x y μ Q => match x, y with
  | .cell j, .int n => (match μ j with | some xs => (-(2 ^ 63) ≤ n ∧ n < 2 ^ 63 ∧ xs.length * n.toNat ≤ sizeLine) ∧ Q (List.replicate n.toNat xs).flatten μ | _ => False)
  | _, _ => False
theorem o_rep : OpLD X (binaryOp .Mult) oRep := ⟨_, op_rep, fun α H μ x y dx dy Qd Q S rx ry h post => by
  unfold oRep at h
  split at h
  · rename_i j n
    split at h
    · rename_i xs e1
      cases rx with
      | cell q =>
        cases ry with
        | int n =>
          obtain ⟨a, vs, h1, h2, h3⟩ := S.cell _ _ e1
          rw [q] at h1
          cases h1
          exact ⟨_, n, _, rfl, rfl, h2, h.1.1, h.1.2.1, by rw [h3.length]; exact h.1.2.2, fun p hp => post.here S (h3.flat _) h.2 hp⟩
    · exact h.elim
  · exact h.elim⟩
/-- parts of slices -/
abbrev DTO := Rho → Mu → (Option Int → Mu → Prop) → Prop
structure POD (X : Cx) (e : Option Expr) (d : DTO) : Prop where
  ex : ∃ t, PO X e t ∧ ∀ α σ H ρ μ Qd (Q : Option Int → Hp → Prop), Sat X.K α H μ → EnvOk X.K α H σ ρ → d ρ μ Qd → (∀ o H' α' μ', Gr α H α' H' → Sat X.K α' H' μ' → Qd o μ' → Q o H') → t σ H Q
def doNone : DTO := fun _ μ Q => Q none μ
def doSome (de : DTE) : DTO := fun ρ μ Q => de ρ μ fun x μ1 => match x with | .int i => Q (some i) μ1 | _ => False
theorem do_none : POD X none doNone := ⟨_, po_none, fun α σ H ρ μ Qd Q S E h post => post _ _ _ _ (Gr.refl α H) S h⟩
theorem do_some {e : Expr} {de : DTE} (h : PED X e de) : POD X (some e) (doSome de) := by
  obtain ⟨te, a1, a2⟩ := h.ex
  refine ⟨_, po_some a1, fun α σ H ρ μ Qd Q S E h post => a2 α σ H ρ μ _ _ S E h fun v H1 α1 μ1 d g1 s1 r1 q1 => ?_⟩
  cases r1 with
  | int i => exact ⟨i, rfl, post _ _ _ _ g1 s1 q1⟩
  | _ => exact False.elim q1
/-- xs[lo:hi] of what stands at a list -/
def cutD (xs : List D) (lo hi : Option Int) : List D := (xs.drop (HT.sIx xs.length 0 lo)).take (HT.sIx xs.length xs.length hi - HT.sIx xs.length 0 lo)
theorem RlAll.cut {vs : List V} {ds : List D} (r : RlAll K α H vs ds) (lo hi : Option Int) : RlAll K α H (cutV vs lo hi) (cutD ds lo hi) := by
  unfold cutV cutD
  rw [r.length]
  exact (r.drop _).take _
def dSlL (de : DTE) (d1 d2 : DTO) : DTL := fun ρ μ Q => de ρ μ fun x μ1 => d1 ρ μ1 fun lo μ2 => d2 ρ μ2 fun hi μ3 => match litems μ3 x with | some xs => Q (cutD xs lo hi) μ3 | none => False
theorem dl_slice {e : Expr} {lo hi : Option Expr} {p2 pos : Pos} {de : DTE} {d1 d2 : DTO} (he : PED X e de) (h1 : POD X lo d1) (h2 : POD X hi d2) : PLD X (.Subscript e (.Slice lo hi none p2) pos) (dSlL de d1 d2) := by
  obtain ⟨te, a1, a2⟩ := he.ex
  obtain ⟨t1, b1, b2⟩ := h1.ex
  obtain ⟨t2, c1, c2⟩ := h2.ex
  refine ⟨_, pe_slice sl_list a1 b1 c1, fun α σ H ρ μ Qd Q S E h post => a2 α σ H ρ μ _ _ S E h fun v H1 α1 μ1 d g1 s1 r1 q1 =>
    b2 α1 σ H1 ρ μ1 _ _ s1 (E.mono g1) q1 fun o1 H2 α2 μ2 g2 s2 q2 => c2 α2 σ H2 ρ μ2 _ _ s2 ((E.mono g1).mono g2) q2 fun o2 H3 α3 μ3 g3 s3 q3 => ?_⟩
  split at q3
  · rename_i xs ex
    obtain ⟨a, vs, rfl, q, r⟩ := s3.list ((r1.mono g2).mono g3) ex
    exact ⟨a, vs, rfl, q, fun p hp => (post.mono ((g1.trans g2).trans g3)).here s3 (r.cut o1 o2) q3 hp⟩
  · exact False.elim q3
def dSlT (de : DTE) (d1 d2 : DTO) : DTE := fun ρ μ Q => de ρ μ fun x μ1 => d1 ρ μ1 fun lo μ2 => d2 ρ μ2 fun hi μ3 => match x with | .tup xs => Q (.tup (cutD xs lo hi)) μ3 | _ => False
theorem cut_all {β : Type} (xs : List β) (a b : Nat) (h0 : a = 0) (h1 : b = xs.length) : (xs.drop a).take (b - a) = xs := by
  subst h0 h1
  rw [List.drop_zero, Nat.sub_zero, List.take_length]
theorem de_sliceT {e : Expr} {lo hi : Option Expr} {p2 pos : Pos} {de : DTE} {d1 d2 : DTO} (he : PED X e de) (h1 : POD X lo d1) (h2 : POD X hi d2) : PED X (.Subscript e (.Slice lo hi none p2) pos) (dSlT de d1 d2) := by
  obtain ⟨te, a1, a2⟩ := he.ex
  obtain ⟨t1, b1, b2⟩ := h1.ex
  obtain ⟨t2, c1, c2⟩ := h2.ex
  refine ⟨_, pe_slice sl_tupA a1 b1 c1, fun α σ H ρ μ Qd Q S E h post => a2 α σ H ρ μ _ _ S E h fun v H1 α1 μ1 d g1 s1 r1 q1 =>
    b2 α1 σ H1 ρ μ1 _ _ s1 (E.mono g1) q1 fun o1 H2 α2 μ2 g2 s2 q2 => c2 α2 σ H2 ρ μ2 _ _ s2 ((E.mono g1).mono g2) q2 fun o2 H3 α3 μ3 g3 s3 q3 => ?_⟩
  have post3 := post.mono ((g1.trans g2).trans g3)
  have r3 := (r1.mono g2).mono g3
  cases r3 with
  | @tup a vs ds q r =>
    refine ⟨a, vs, rfl, q, fun w => ?_, fun _ p hp => post3.tup s3 (r.cut o1 o2) q3 hp⟩
    have e : cutD ds o1 o2 = ds := cut_all ds _ _ (by rw [← r.length]; exact w.1) (by rw [← r.length]; exact w.2)
    dsimp only at q3
    rw [e] at q3
    exact post3.here s3 (.tup q r) q3
  | _ => exact False.elim q3
end Dl
/-! Dat3: readings over plain data: statements, loops, comprehensions. -/
namespace Dl
open PySem PySem.Spec PyProof.Rows L2
variable {K : PySem.W.Frag} {α α1 : List Addr} {H H1 : Hp} {X : Cx}

structure DEnds where
  nx : Rho → Mu → Prop
  rt : DK
  bk : Rho → Mu → Prop := fun _ _ => False
  ct : Rho → Mu → Prop := fun _ _ => False
abbrev DTS := DEnds → Rho → Mu → Prop
/-- a mark whose kind names x: a simplifier told to let dependent arguments be (-dsimp) does not look into x -/
class Lk {β : Sort _} (x : β) : Type where
instance (priority := low) lkAll {β : Sort _} (x : β) : Lk x := ⟨⟩
def PostS (K : PySem.W.Frag) (α : List Addr) (H : Hp) (Qd : Rho → Mu → Prop) (Q : L2.St → Hp → Prop) : Prop := ∀ σ' H' α' ρ' μ', Gr α H α' H' → Sat K α' H' μ' → EnvOk K α' H' σ' ρ' → Qd ρ' μ' → Q σ' H'
theorem PostS.mono {Qd : Rho → Mu → Prop} {Q : L2.St → Hp → Prop} (g : Gr α H α1 H1) (p : PostS K α H Qd Q) : PostS K α1 H1 Qd Q := fun σ' H' α' ρ' μ' g' => p σ' H' α' ρ' μ' (g.trans g')
structure EndsOk (K : PySem.W.Frag) (α : List Addr) (H : Hp) (D : DEnds) (E : Ends) : Prop where
  nx : PostS K α H D.nx E.nx
  rt : PostE K α H D.rt E.rt
  bk : PostS K α H D.bk E.bk
  ct : PostS K α H D.ct E.ct
theorem EndsOk.mono {D : DEnds} {E : Ends} (g : Gr α H α1 H1) (e : EndsOk K α H D E) : EndsOk K α1 H1 D E := ⟨e.nx.mono g, e.rt.mono g, e.bk.mono g, e.ct.mono g⟩
def SndS (K : PySem.W.Frag) (ts : TS) (ds : DTS) : Prop := ∀ α σ H ρ μ (D : DEnds) (E : Ends), Sat K α H μ → EnvOk K α H σ ρ → ds D ρ μ → EndsOk K α H D E → ts E σ H
structure PSD (X : Cx) (st : Stmt) (ds : DTS) : Prop where
  ex : ∃ ts, PS X st ts ∧ SndS X.K ts ds
structure PSSD (X : Cx) (st : List Stmt) (ds : DTS) : Prop where
  ex : ∃ ts, PSs X st ts ∧ SndS X.K ts ds

def dNext : DTS := fun D ρ μ => D.nx ρ μ
/-- behind each statement what is known of the store may be less -/
def seqAt (t u : DTS) (D : DEnds) (ρ : Rho) (μ : Mu) [Lk t] [Lk u] [Lk D] : Prop := t { D with nx := fun ρ1 μ1 => ∃ μ2, Mu.Sub μ2 μ1 ∧ u D ρ1 μ2 } ρ μ
def dSeq (t u : DTS) [Lk t] [Lk u] : DTS := fun D ρ μ => seqAt t u D ρ μ
theorem dSeq_at (t u : DTS) (D : DEnds) (ρ : Rho) (μ : Mu) : dSeq t u D ρ μ = seqAt t u D ρ μ := rfl
theorem snd_next : SndS K tNext dNext := fun α σ H ρ μ D E S e h post => post.nx σ H α ρ μ (Gr.refl α H) S e h
theorem dss_nil : PSSD X [] dNext := ⟨_, pss_nil, snd_next⟩
theorem dss_cons {st : Stmt} {rest : List Stmt} {t u : DTS} (h1 : PSD X st t) (h2 : PSSD X rest u) : PSSD X (st :: rest) (dSeq t u) := by
  obtain ⟨t1, a1, a2⟩ := h1.ex
  obtain ⟨t2, b1, b2⟩ := h2.ex
  exact ⟨_, pss_cons a1 b1, fun α σ H ρ μ D E S e h post => a2 α σ H ρ μ _ _ S e h ⟨fun σ' H' α' ρ' μ' g S' e' ⟨μ2, sb, h'⟩ => b2 α' σ' H' ρ' μ2 D E (S'.sub sb) e' h' (post.mono g), post.rt, post.bk, post.ct⟩⟩
theorem dss_one {st : Stmt} {t : DTS} (h1 : PSD X st t) : PSSD X [st] t := by
  obtain ⟨t1, a1, a2⟩ := h1.ex
  exact ⟨_, pss_one a1, a2⟩
theorem ds_pass {pos : Pos} : PSD X (.Pass pos) dNext := ⟨_, ps_pass, snd_next⟩
def dBreak : DTS := fun D ρ μ => D.bk ρ μ
def dCont : DTS := fun D ρ μ => D.ct ρ μ
theorem ds_break {pos : Pos} : PSD X (.Break pos) dBreak := ⟨_, ps_break, fun α σ H ρ μ D E S e h post => post.bk σ H α ρ μ (Gr.refl α H) S e h⟩
theorem ds_continue {pos : Pos} : PSD X (.Continue pos) dCont := ⟨_, ps_continue, fun α σ H ρ μ D E S e h post => post.ct σ H α ρ μ (Gr.refl α H) S e h⟩
def dNever : DTS := fun _ _ _ => False
theorem ds_never {st : Stmt} : PSD X st dNever := ⟨_, ps_never, fun _ _ _ _ _ _ _ _ _ h _ => h.elim⟩
def dDrop (de : DTE) : DTS := fun D ρ μ => de ρ μ fun _ μ1 => D.nx ρ μ1
theorem ds_expr {e : Expr} {de : DTE} {pos : Pos} (he : PED X e de) (hs : swapsWith e none pos.line X.env = pure false := by rfl) : PSD X (.Expr e pos) (dDrop de) := by
  obtain ⟨te, a1, a2⟩ := he.ex
  exact ⟨_, ps_expr a1 hs, fun α σ H ρ μ D E S e h post => a2 α σ H ρ μ _ _ S e h fun v H' α' μ' d g S' r h' => post.nx σ H' α' ρ μ' g S' (e.mono g) h'⟩
def dRet (de : DTE) : DTS := fun D ρ μ => de ρ μ D.rt
theorem ds_ret {e : Expr} {de : DTE} {pos : Pos} (he : PED X e de) : PSD X (.Return (some e) pos) (dRet de) := by
  obtain ⟨te, a1, a2⟩ := he.ex
  exact ⟨_, ps_ret a1, fun α σ H ρ μ D E S e h post => a2 α σ H ρ μ _ _ S e h post.rt⟩
def dRetN : DTS := fun D _ μ => D.rt .non μ
theorem ds_retN {pos : Pos} : PSD X (.Return none pos) dRetN := ⟨_, ps_retN, fun α σ H ρ μ D E S e h post => post.rt _ _ _ _ _ (Gr.refl α H) S .non h⟩
def dIfS (dt : DTT) (t u : DTS) : DTS := fun D ρ μ => dt ρ μ fun b μ1 => if b = true then t D ρ μ1 else u D ρ μ1
theorem ds_if {c : Expr} {a b : List Stmt} {dt : DTT} {t u : DTS} {pos : Pos} (hc : PTD X c dt) (ha : PSSD X a t) (hb : PSSD X b u) : PSD X (.If c a b pos) (dIfS dt t u) := by
  obtain ⟨tc, c1, c2⟩ := hc.ex
  obtain ⟨ta, a1, a2⟩ := ha.ex
  obtain ⟨tb, b1, b2⟩ := hb.ex
  refine ⟨_, ps_if c1 a1 b1, fun α σ H ρ μ D E S e h post => c2 α σ H ρ μ _ _ S e h fun k H' α' μ' g S' h' => ?_⟩
  cases k with
  | true => exact a2 α' σ H' ρ μ' D E S' (e.mono g) h' (post.mono g)
  | false => exact b2 α' σ H' ρ μ' D E S' (e.mono g) h' (post.mono g)

/-! ### targets -/
abbrev DTG := D → Rho → Mu → (Rho → Mu → Prop) → Prop
abbrev DTGs := List D → Rho → Mu → (Rho → Mu → Prop) → Prop
def SndG (K : PySem.W.Frag) (g : TG) (dg : DTG) : Prop := ∀ α σ H ρ μ v d Qd (Q : L2.St → Hp → Prop), Sat K α H μ → EnvOk K α H σ ρ → Rl K α H v d → dg d ρ μ Qd → PostS K α H Qd Q → g v σ H Q
def SndGs (K : PySem.W.Frag) (g : TGs) (dg : DTGs) : Prop := ∀ α σ H ρ μ vs ds Qd (Q : L2.St → Hp → Prop), Sat K α H μ → EnvOk K α H σ ρ → RlAll K α H vs ds → dg ds ρ μ Qd → PostS K α H Qd Q → g vs σ H Q
structure PGD (X : Cx) (e : Expr) (dg : DTG) : Prop where
  ex : ∃ g, PG X e g ∧ SndG X.K g dg
structure PGsD (X : Cx) (es : List Expr) (dg : DTGs) : Prop where
  ex : ∃ g, PGs X es g ∧ SndGs X.K g dg
def gdName (i : Nat) : DTG := fun d ρ μ Q => Q (ρ.set i (some d)) μ
theorem dg_name (i : Nat) {x : Str} {pos : Pos} (hN : X.N.Nodup) (hi : X.N[i]? = some x := by rfl) (hx : Loc X.env.scope x := by first | exact Or.inl rfl | exact Or.inr rfl) (hf : X.fn x = true ∨ X.env.scope.names.lookup x = some .local := by first | exact .inl rfl | exact .inr rfl | assumption) : PGD X (.Name x pos) (gdName i) :=
  ⟨_, pg_name hN hi hx hf, fun α σ H ρ μ v d Qd Q S e r h post => post _ _ _ _ _ (Gr.refl α H) S (e.set r) h⟩
def gdNil : DTGs := fun ds ρ μ Q => match ds with | [] => Q ρ μ | _ => False
def gdCons (g : DTG) (gs : DTGs) : DTGs := fun ds ρ μ Q => match ds with | d :: r => g d ρ μ fun ρ1 μ1 => gs r ρ1 μ1 Q | [] => False
def gdTup (n : Nat) (gs : DTGs) : DTG := fun d ρ μ Q => match d with | .tup ds => ds.length = n ∧ gs ds ρ μ Q | _ => False
theorem dgs_nil : PGsD X [] gdNil := ⟨_, pgs_nil, fun α σ H ρ μ vs ds Qd Q S e r h post => by
  cases r with
  | nil => exact ⟨rfl, post _ _ _ _ _ (Gr.refl α H) S e h⟩
  | cons _ _ => exact False.elim h⟩
theorem dgs_cons {e : Expr} {es : List Expr} {g : DTG} {gs : DTGs} (h1 : PGD X e g) (h2 : PGsD X es gs) (hs : ∀ {t : TG} {u : TGs}, PG X e t → PGs X es u → PGs X (e :: es) (gCons t u) := by intro _ _ a b; exact pgs_cons a b) : PGsD X (e :: es) (gdCons g gs) := by
  obtain ⟨t1, a1, a2⟩ := h1.ex
  obtain ⟨t2, b1, b2⟩ := h2.ex
  refine ⟨_, hs a1 b1, fun α σ H ρ μ vs ds Qd Q S e r h post => ?_⟩
  cases r with
  | nil => exact False.elim h
  | cons r rs => exact ⟨_, _, rfl, a2 α σ H ρ μ _ _ _ _ S e r h fun σ' H' α' ρ' μ' g S' e' h' => b2 α' σ' H' ρ' μ' _ _ _ _ S' e' (rs.mono g) h' (post.mono g)⟩
def gdSub (da di : DTE) : DTG := fun d ρ μ Q => da ρ μ fun o μ1 => di ρ μ1 fun i μ2 => match o, i with
  | .cell k, .int j => (match μ2 k with | some xs => (match ixN xs.length j with | some n => Q ρ (μ2.upd k (xs.set n d)) | none => False) | none => False)
  | _, _ => False
theorem dg_sub {o i : Expr} {da di : DTE} {pos : Pos} (ho : PED X o da) (hi : PED X i di) (mk : ∀ {ta ti : TE}, PE X o ta → PE X i ti → PG X (.Subscript o i pos) (gSub ta ti rSetL) := by intro _ _ a b; exact pg_sub a b set_list) : PGD X (.Subscript o i pos) (gdSub da di) := by
  obtain ⟨t1, a1, a2⟩ := ho.ex
  obtain ⟨t2, b1, b2⟩ := hi.ex
  refine ⟨_, mk a1 b1, fun α σ H ρ μ v d Qd Q S e r h post => a2 α σ H ρ μ _ _ S e h fun o H1 α1 μ1 od g1 S1 r1 q1 => b2 α1 σ H1 ρ μ1 _ _ S1 (e.mono g1) q1 fun j H2 α2 μ2 jd g2 S2 r2 q2 => ?_⟩
  have r1' := r1.mono g2
  split at q2
  · rename_i k j
    split at q2
    · rename_i xs e1
      split at q2
      · rename_i n en
        cases r1' with
        | cell qa =>
          cases r2
          obtain ⟨a, vs, h1, h2, h3⟩ := S2.cell _ _ e1
          rw [qa] at h1
          cases h1
          refine ⟨_, vs, j, n, rfl, rfl, h2, by rw [h3.length]; exact en, ?_⟩
          exact post _ _ _ _ _ ((g1.trans g2).trans (gr_set h2)) (S2.set qa h2 (h3.set (r.mono (g1.trans g2)) n)) (((e.mono g1).mono g2).mono (gr_set h2)) q2
      · exact False.elim q2
    · exact False.elim q2
  · exact False.elim q2

/-! ### assignments -/
def dAsg (de : DTE) (g : DTG) : DTS := fun D ρ μ => de ρ μ fun x μ1 => g x ρ μ1 D.nx
theorem snd_asg {te : TE} {de : DTE} {g : TG} {dg : DTG} (h1 : SndE K te de) (h2 : SndG K g dg) : SndS K (tAsg te g) (dAsg de dg) := fun α σ H ρ μ D E S e h post =>
  h1 α σ H ρ μ _ _ S e h fun v H' α' μ' d g S' r h' => h2 α' σ H' ρ μ' v d _ _ S' (e.mono g) r h' (post.nx.mono g)
theorem ds_asg {tg e : Expr} {de : DTE} {dg : DTG} {pos : Pos} (he : PED X e de) (hg : PGD X tg dg) (mk : ∀ {te : TE} {g : TG}, PE X e te → PG X tg g → PS X (.Assign [tg] e pos) (tAsg te g) := by intro _ _ a b; exact ps_asg a b) : PSD X (.Assign [tg] e pos) (dAsg de dg) := by
  obtain ⟨t1, a1, a2⟩ := he.ex
  obtain ⟨t2, b1, b2⟩ := hg.ex
  exact ⟨_, mk a1 b1, snd_asg a2 b2⟩
/-- a fresh list to one name, told apart: the cell's number is any new one -/
def dPar (i j : Nat) (da : DTA) : DTS := fun D ρ μ => da ρ μ fun ds μ1 => match ds with | [v, w] => D.nx ((ρ.set i (some v)).set j (some w)) μ1 | _ => False
theorem ds_par (i j : Nat) {x y : Str} {a b : Expr} {da : DTA} {px py pt pos : Pos} {kt k2 pt2} (hN : X.N.Nodup) (ha : PAD X [a, b] da) (hc : X.calm = true := by rfl) (hi : X.N[i]? = some x := by rfl) (hj : X.N[j]? = some y := by rfl) (hij : i ≠ j := by decide)
    (hx : X.env.scope.names.lookup x = some .local := by rfl) (hy : X.env.scope.names.lookup y = some .local := by rfl)
    (hw : swappedStores [.Tuple [.Name x px, .Name y py] kt pt] (.Tuple [a, b] k2 pt2) X.env = pure (some [x, y]) := by rfl)
    (hs : swapsWithSole [.Tuple [.Name x px, .Name y py] kt pt] (.Tuple [a, b] k2 pt2) pos.line X.env = pure false := by rfl) :
    PSD X (.Assign [.Tuple [.Name x px, .Name y py] kt pt] (.Tuple [a, b] k2 pt2) pos) (dPar i j da) := by
  obtain ⟨t1, a1, a2⟩ := ha.ex
  refine ⟨_, ps_par hc hN hi hj hij hx hy a1 hw hs, fun α σ H ρ μ D E S e h post => a2 α σ H ρ μ _ _ S e h fun vs H' α' μ' ds g S' r h' => ?_⟩
  unfold dPar at h
  split at h'
  · obtain ⟨v, w, rfl, r1, r2⟩ := rl2 r
    exact ⟨v, w, rfl, post.nx _ _ _ _ _ g S' (((e.mono g).set r1).set r2) h'⟩
  · exact False.elim h'

/-! ### what is walked -/
structure Src where
  its : List D
  keep : List (Nat × List D)
def Src.held (s : Src) (μ : Mu) : Prop := ∀ p ∈ s.keep, μ p.1 = some p.2
abbrev DTI := Rho → Mu → (Src → Mu → Prop) → Prop
structure ItOk (K : PySem.W.Frag) (J : It) (s : Src) (α : List Addr) (H : Hp) : Prop where
  ok : ∀ α' H' μ', Gr α H α' H' → Sat K α' H' μ' → s.held μ' → (∀ i, i < s.its.length → J.go i H') ∧ (∀ i, s.its.length ≤ i → J.stop i H') ∧
    ∀ i d v H2, s.its[i]? = some d → J.yld i H' v H2 → Gr α' H' α' H2 ∧ Sat K α' H2 μ' ∧ Rl K α' H2 v d
def SndI (K : PySem.W.Frag) (wi : TI) (di : DTI) : Prop := ∀ α σ H ρ μ Qd (R : It → Hp → Prop), Sat K α H μ → EnvOk K α H σ ρ → di ρ μ Qd →
  (∀ J H' α' μ' s, Gr α H α' H' → Sat K α' H' μ' → s.held μ' → ItOk K J s α' H' → Qd s μ' → R J H') → wi σ H R
structure PID (X : Cx) (tg iter : Expr) (di : DTI) : Prop where
  ex : ∃ wi, PI X tg iter wi ∧ SndI X.K wi di
theorem held_nil {xs : List D} {μ : Mu} : Src.held ⟨xs, []⟩ μ := fun _ h => nomatch h
theorem held_one {xs : List D} {μ : Mu} {k : Nat} {ys : List D} (h : μ k = some ys) : Src.held ⟨xs, [(k, ys)]⟩ μ := fun p hp => by
  cases hp with
  | head => exact h
  | tail _ hp => cases hp
theorem held_of {xs : List D} {μ : Mu} {k : Nat} {ys : List D} {r : List (Nat × List D)} (h : Src.held ⟨xs, (k, ys) :: r⟩ μ) : μ k = some ys := h (k, ys) (.head _)

def diLst (de : DTE) : DTI := fun ρ μ Q => de ρ μ fun x μ1 => match x with
  | .frz ds => Q ⟨ds, []⟩ μ1
  | .cell k => (match μ1 k with | some xs => Q ⟨xs, [(k, xs)]⟩ μ1 | none => False)
  | _ => False
def diTup (de : DTE) : DTI := fun ρ μ Q => de ρ μ fun x μ1 => match x with
  | .tup ds => Q ⟨ds, []⟩ μ1
  | _ => False
theorem itl_cell {a : Addr} {k : Nat} {xs : List D} (h : α[k]? = some a) : ItOk K (Itl K a) ⟨xs, [(k, xs)]⟩ α H := ⟨fun α' H' μ' g S hd => by
  obtain ⟨b, vs, h1, h2, h3⟩ := S.cell k xs (held_of hd)
  rw [g.pre _ _ h] at h1
  cases h1
  refine ⟨fun i hi => ⟨vs, vs[i]'(by rw [h3.length]; exact hi), .of h2, by simp⟩, fun i hi => ⟨vs, .of h2, by rw [h3.length]; exact hi⟩, fun i d v H2 hd hy => ?_⟩
  obtain ⟨rfl, hy⟩ := hy
  obtain ⟨w, e, r⟩ := h3.get hd
  have e2 := hy vs (.of h2)
  rw [e] at e2
  cases e2
  exact ⟨Gr.refl _ _, S, r⟩⟩
theorem itl_frz {a : Addr} {vs : List V} {xs : List D} (q : FrzL K H a vs) (r0 : RlAll K α H vs xs) : ItOk K (Itl K a) ⟨xs, []⟩ α H := ⟨fun α' H' μ' g S hd => by
  have q' := (g.ext.frzL q).seq
  have h3 := r0.mono g
  refine ⟨fun i hi => ⟨vs, vs[i]'(by rw [h3.length]; exact hi), q', by simp⟩, fun i hi => ⟨vs, q', by rw [h3.length]; exact hi⟩, fun i d v H2 hd hy => ?_⟩
  obtain ⟨rfl, hy⟩ := hy
  obtain ⟨w, e, r⟩ := h3.get hd
  have e2 := hy vs q'
  rw [e] at e2
  cases e2
  exact ⟨Gr.refl _ _, S, r⟩⟩
theorem itt_tup {a : Addr} {vs : List V} {xs : List D} (q : SqT K H a vs) (r0 : RlAll K α H vs xs) : ItOk K (Itt K a) ⟨xs, []⟩ α H := ⟨fun α' H' μ' g S hd => by
  have q' := g.ext.seqT q
  have h3 := r0.mono g
  refine ⟨fun i hi => ⟨vs, vs[i]'(by rw [h3.length]; exact hi), q', by simp⟩, fun i hi => ⟨vs, q', by rw [h3.length]; exact hi⟩, fun i d v H2 hd hy => ?_⟩
  obtain ⟨rfl, hy⟩ := hy
  obtain ⟨w, e, r⟩ := h3.get hd
  have e2 := hy vs q'
  rw [e] at e2
  cases e2
  exact ⟨Gr.refl _ _, S, r⟩⟩
theorem di_lst {tg l : Expr} {de : DTE} (h : PED X l de) : PID X tg l (diLst de) := by
  obtain ⟨t1, a1, a2⟩ := h.ex
  refine ⟨_, pi_list a1, fun α σ H ρ μ Qd R S e h post => a2 α σ H ρ μ _ _ S e h fun v H1 α1 μ1 d g1 S1 r1 q1 => ?_⟩
  cases r1 with
  | frz q r => exact ⟨_, rfl, ⟨_, q.seq⟩, post _ _ _ _ _ g1 S1 held_nil (itl_frz q r) q1⟩
  | @cell a k q =>
    dsimp only at q1
    split at q1
    · rename_i xs ex
      obtain ⟨b, vs, h1, h2, h3⟩ := S1.cell k xs ex
      rw [q] at h1
      cases h1
      exact ⟨_, rfl, ⟨_, .of h2⟩, post _ _ _ _ _ g1 S1 (held_one ex) (itl_cell q) q1⟩
    · exact False.elim q1
  | _ => exact False.elim q1
theorem di_tup {tg l : Expr} {de : DTE} (h : PED X l de) : PID X tg l (diTup de) := by
  obtain ⟨t1, a1, a2⟩ := h.ex
  refine ⟨_, pi_tup a1, fun α σ H ρ μ Qd R S e h post => a2 α σ H ρ μ _ _ S e h fun v H1 α1 μ1 d g1 S1 r1 q1 => ?_⟩
  cases r1 with
  | tup q r => exact ⟨_, rfl, ⟨_, q⟩, post _ _ _ _ _ g1 S1 held_nil (itt_tup q r) q1⟩
  | _ => exact False.elim q1
/-- lo, lo + 1, .. below hi -/
def rangeD (lo hi : Int) : List D := (List.range (hi - lo).toNat).map fun i => .int (lo + (i : Nat))
theorem rangeD_len (lo hi : Int) : (rangeD lo hi).length = (hi - lo).toNat := by
  unfold rangeD
  rw [List.length_map, List.length_range]
theorem itr_ok (lo hi : Int) : ItOk K (Itr lo (hi - lo).toNat) ⟨rangeD lo hi, []⟩ α H := ⟨fun α' H' μ' g S hd => by
  refine ⟨fun i hi => ?_, fun i hi => ?_, fun i d v H2 hd hy => ?_⟩
  · have hi : i < (rangeD lo _).length := hi
    rw [rangeD_len] at hi
    exact hi
  · have hi : (rangeD lo _).length ≤ i := hi
    rw [rangeD_len] at hi
    exact hi
  · obtain ⟨rfl, rfl⟩ := hy
    have hd : (rangeD lo hi)[i]? = some d := hd
    have hi := (List.getElem?_eq_some_iff.mp hd).1
    rw [rangeD_len] at hi
    unfold rangeD at hd
    rw [List.getElem?_map, List.getElem?_range hi] at hd
    cases hd
    exact ⟨Gr.refl _ _, S, .int _⟩⟩
def Rg (i : Int) : Prop := -(2 ^ 62) ≤ i ∧ i < 2 ^ 62
def diR1 (da : DTA) : DTI := fun ρ μ Q => da ρ μ fun ds μ1 => match ds with | [.int n] => Rg n ∧ Q ⟨rangeD 0 n, []⟩ μ1 | _ => False
def diR2 (da : DTA) : DTI := fun ρ μ Q => da ρ μ fun ds μ1 => match ds with | [.int lo, .int hi] => (Rg lo ∧ Rg hi) ∧ Q ⟨rangeD lo hi, []⟩ μ1 | _ => False
theorem di_r1 {tg a : Expr} {da : DTA} {p pos : Pos} (hm : X.mg "range" = none) (ha : PAD X [a] da) (hg : Gl X "range" := by rfl) (hs : starEach [a] X.env = [(false, eval a X.env)] := by rfl) : PID X tg (.Call (.Name "range" p) [a] [] pos) (diR1 da) := by
  obtain ⟨t1, a1, a2⟩ := ha.ex
  refine ⟨_, pi_range1 hg hm a1 hs, fun α σ H ρ μ Qd R S e h post => a2 α σ H ρ μ _ _ S e h fun vs H1 α1 μ1 ds g1 S1 r1 q1 => ?_⟩
  split at q1
  · rename_i n
    obtain ⟨v, rfl, r⟩ := rl1 r1
    cases r
    have e0 : n.toNat = (n - 0).toNat := by rw [Int.sub_zero]
    refine ⟨n, rfl, q1.1.1, q1.1.2, ?_⟩
    rw [e0]
    exact post _ _ _ _ _ g1 S1 held_nil (itr_ok 0 n) q1.2
  · exact False.elim q1
theorem di_r2 {tg a b : Expr} {da : DTA} {p pos : Pos} (hm : X.mg "range" = none) (ha : PAD X [a, b] da) (hg : Gl X "range" := by rfl) (hs : starEach [a, b] X.env = [(false, eval a X.env), (false, eval b X.env)] := by rfl) (hs2 : starEach [b] X.env = [(false, eval b X.env)] := by rfl) :
    PID X tg (.Call (.Name "range" p) [a, b] [] pos) (diR2 da) := by
  obtain ⟨t1, a1, a2⟩ := ha.ex
  refine ⟨_, pi_range2 hg hm a1 hs hs2, fun α σ H ρ μ Qd R S e h post => a2 α σ H ρ μ _ _ S e h fun vs H1 α1 μ1 ds g1 S1 r1 q1 => ?_⟩
  split at q1
  · rename_i lo hi
    obtain ⟨v, w, rfl, r, r'⟩ := rl2 r1
    cases r; cases r'
    exact ⟨lo, hi, rfl, ⟨q1.1.1.1, q1.1.1.2, q1.1.2.1, q1.1.2.2⟩, post _ _ _ _ _ g1 S1 held_nil (itr_ok lo hi) q1.2⟩
  · exact False.elim q1
/-- what stands at a list, with its cell -/
def lsrc (μ : Mu) : D → Option Src
  | .frz ds => some ⟨ds, []⟩
  | .cell k => (μ k).map fun xs => ⟨xs, [(k, xs)]⟩
  | _ => none
def enumD (xs : List D) : List D := xs.zipIdx.map fun p => .tup [.int (p.2 : Nat), p.1]
def zipD (xs ys : List D) : List D := List.zipWith (fun x y => .tup [x, y]) xs ys
/-- a list stays as it stands as long as its cell is held -/
structure LOk (K : PySem.W.Frag) (a : Addr) (s : Src) (α : List Addr) (H : Hp) : Prop where
  ok : ∀ α' H' μ', Gr α H α' H' → Sat K α' H' μ' → s.held μ' → ∃ vs, SqL K H' a vs ∧ RlAll K α' H' vs s.its
theorem lok_of {μ : Mu} {v : V} {d : D} {s : Src} (S : Sat K α H μ) (r : Rl K α H v d) (h : lsrc μ d = some s) : s.held μ ∧ ∃ a vs, v = .ref a ∧ SqL K H a vs ∧ LOk K a s α H := by
  cases r with
  | frz q r =>
    cases h
    exact ⟨held_nil, _, _, rfl, q.seq, ⟨fun α' H' μ' g S' hd => ⟨_, (g.ext.frzL q).seq, r.mono g⟩⟩⟩
  | @cell a k q =>
    cases e : μ k with
    | none =>
      rw [lsrc, e] at h
      cases h
    | some xs =>
      rw [lsrc, e] at h
      cases h
      obtain ⟨b, vs, h1, h2, h3⟩ := S.cell _ _ e
      rw [q] at h1
      cases h1
      refine ⟨held_one e, _, vs, rfl, .of h2, ⟨fun α' H' μ' g S' hd => ?_⟩⟩
      obtain ⟨c, ws, k1, k2, k3⟩ := S'.cell k xs (held_of hd)
      rw [g.pre _ _ q] at k1
      cases k1
      exact ⟨ws, .of k2, k3⟩
  | _ => cases h
def diEnum (de : DTE) : DTI := fun ρ μ Q => de ρ μ fun x μ1 => match lsrc μ1 x with | some s => Q ⟨enumD s.its, s.keep⟩ μ1 | none => False
def diZip (d1 d2 : DTE) : DTI := fun ρ μ Q => d1 ρ μ fun x μ1 => d2 ρ μ1 fun y μ2 => match lsrc μ2 x, lsrc μ2 y with | some s, some t => Q ⟨zipD s.its t.its, s.keep ++ t.keep⟩ μ2 | _, _ => False
theorem enumD_len (xs : List D) : (enumD xs).length = xs.length := by
  unfold enumD
  rw [List.length_map, List.length_zipIdx]
theorem enumD_get {xs : List D} {i : Nat} {d : D} (h : (enumD xs)[i]? = some d) : ∃ x, xs[i]? = some x ∧ d = .tup [.int (i : Nat), x] := by
  unfold enumD at h
  rw [List.getElem?_map, List.getElem?_zipIdx] at h
  cases e : xs[i]? with
  | none =>
    rw [e] at h
    cases h
  | some x =>
    rw [e] at h
    cases h
    exact ⟨x, rfl, by simp⟩
theorem zipD_get {xs ys : List D} {i : Nat} {d : D} (h : (zipD xs ys)[i]? = some d) : ∃ x y, xs[i]? = some x ∧ ys[i]? = some y ∧ d = .tup [x, y] := by
  unfold zipD at h
  rw [List.getElem?_zipWith] at h
  cases e : xs[i]? with
  | none =>
    rw [e] at h
    cases h
  | some x =>
    cases e2 : ys[i]? with
    | none =>
      rw [e, e2] at h
      cases h
    | some y =>
      rw [e, e2] at h
      cases h
      exact ⟨x, y, rfl, rfl, rfl⟩
theorem new_pair {μ : Mu} {v w : V} {d e : D} {T : Addr} (S : Sat K α H μ) (r : Rl K α H v d) (r' : Rl K α H w e) (h : H T = none) :
    Gr α H α (upd H T (.tup [v, w])) ∧ Sat K α (upd H T (.tup [v, w])) μ ∧ Rl K α (upd H T (.tup [v, w])) (.ref T) (.tup [d, e]) :=
  ⟨gr_new h, S.new h, .tup (.inl (.inl L2.upd_same)) (.cons (r.mono (gr_new h)) (.cons (r'.mono (gr_new h)) .nil))⟩
theorem di_enum {e : Expr} {de : DTE} {p pos tpos : Pos} {elts : List Expr} {kk : Nat} (hm : X.mg "enumerate" = none) (he : PED X e de) (hg : Gl X "enumerate" := by rfl) (hs : starEach [e] X.env = [(false, eval e X.env)] := by rfl) (hs1 : starEach [e] X.env = (false, eval e X.env) :: starEach [] X.env := by rfl) :
    PID X (.Tuple elts kk tpos) (.Call (.Name "enumerate" p) [e] [] pos) (diEnum de) := by
  obtain ⟨t1, a1, a2⟩ := he.ex
  refine ⟨_, pi_enum hg hm (pa_cons a1 pa_nil hs1) hs, fun α σ H ρ μ Qd R S en h post => a2 α σ H ρ μ _ _ S en h fun v H1 α1 μ1 d g1 S1 r1 q1 => ?_⟩
  split at q1
  · rename_i s es
    obtain ⟨hd, a, vs, rfl, q, L⟩ := lok_of S1 r1 es
    refine ⟨a, vs, rfl, q, post _ _ _ _ ⟨enumD s.its, s.keep⟩ g1 S1 hd ⟨fun α' H' μ' g S' hd' => ?_⟩ q1⟩
    obtain ⟨ws, q', r'⟩ := L.ok α' H' μ' g S' hd'
    refine ⟨fun i hi => ?_, fun i hi => ?_, fun i d v H2 hg hy => ?_⟩
    · have hi : i < (enumD s.its).length := hi
      rw [enumD_len, ← r'.length] at hi
      exact ⟨ws, ws[i], q', by simp⟩
    · have hi : (enumD s.its).length ≤ i := hi
      rw [enumD_len, ← r'.length] at hi
      exact ⟨ws, q', hi⟩
    · obtain ⟨x, hx, rfl⟩ := enumD_get hg
      obtain ⟨T, y, rfl, hT, rfl, hy⟩ := hy
      obtain ⟨w, hw, rw'⟩ := r'.get hx
      have e2 := hy ws q'
      rw [hw] at e2
      cases e2
      exact new_pair S' (.int _) rw' hT
  · exact False.elim q1
theorem di_zip {e e2 : Expr} {d1 d2 : DTE} {p pos tpos : Pos} {elts : List Expr} {kk : Nat} (hm : X.mg "zip" = none) (he : PED X e d1) (he2 : PED X e2 d2) (hg : Gl X "zip" := by rfl)
    (hs : starEach [e, e2] X.env = (false, eval e X.env) :: starEach [e2] X.env := by rfl) (hs2 : starEach [e2] X.env = (false, eval e2 X.env) :: starEach [] X.env := by rfl) (hpl : (backTo pos (starEach [e2] X.env)).any (·.1) = false := by rfl) :
    PID X (.Tuple elts kk tpos) (.Call (.Name "zip" p) [e, e2] [] pos) (diZip d1 d2) := by
  obtain ⟨t1, a1, a2⟩ := he.ex
  obtain ⟨t2, b1, b2⟩ := he2.ex
  refine ⟨_, pi_zip hg hm (pa_cons a1 (pa_cons b1 pa_nil hs2) hs) hs hpl, fun α σ H ρ μ Qd R S en h post => a2 α σ H ρ μ _ _ S en h fun v H1 α1 μ1 d g1 S1 r1 q1 => b2 α1 σ H1 ρ μ1 _ _ S1 (en.mono g1) q1 fun w H2 α2 μ2 dd g2 S2 r2 q2 => ?_⟩
  split at q2
  · rename_i s t es et
    obtain ⟨hd, a, vs, rfl, q, L⟩ := lok_of S2 (r1.mono g2) es
    obtain ⟨hd2, b, us, rfl, q', L'⟩ := lok_of S2 r2 et
    refine ⟨a, b, vs, us, rfl, q, q', post _ _ _ _ _ (g1.trans g2) S2 (fun p hp => ?_) ⟨fun α' H' μ' g S' hd' => ?_⟩ q2⟩
    · rcases List.mem_append.mp hp with hp | hp
      · exact hd p hp
      · exact hd2 p hp
    obtain ⟨ws, k1, k2⟩ := L.ok α' H' μ' g S' (fun p hp => hd' p (List.mem_append.mpr (.inl hp)))
    obtain ⟨zs, m1, m2⟩ := L'.ok α' H' μ' g S' (fun p hp => hd' p (List.mem_append.mpr (.inr hp)))
    have len : (zipD s.its t.its).length = min ws.length zs.length := by
      unfold zipD
      rw [List.length_zipWith, k2.length, m2.length]
    refine ⟨fun i hi => ?_, fun i hi => ?_, fun i d v H3 hg hy => ?_⟩
    · have hi : i < (zipD s.its t.its).length := hi
      rw [len] at hi
      exact ⟨ws, zs, ws[i]'(by omega), zs[i]'(by omega), k1, m1, by simp, by simp⟩
    · have hi : (zipD s.its t.its).length ≤ i := hi
      rw [len] at hi
      exact ⟨ws, zs, k1, m1, by omega⟩
    · obtain ⟨x, y, hx, hz, rfl⟩ := zipD_get hg
      obtain ⟨T, x1, x2, rfl, hT, rfl, hy1, hy2⟩ := hy
      obtain ⟨w1, hw1, rw1⟩ := k2.get hx
      obtain ⟨w2, hw2, rw2⟩ := m2.get hz
      have e1 := hy1 ws k1
      have e2 := hy2 zs m1
      rw [hw1] at e1
      rw [hw2] at e2
      cases e1; cases e2
      exact new_pair S' rw1 rw2 hT
  · exact False.elim q2

/-! ### for, while -/
def forIn (s : Src) (g : DTG) (body : DTS) (D : DEnds) (ρ : Rho) (μ1 : Mu) [Lk s] [Lk g] [Lk body] [Lk D] [Lk ρ] [Lk μ1] : Prop := ∃ W : Nat → Rho → Mu → Prop, W 0 ρ μ1 ∧
  (∀ i x ρ' μ', s.its[i]? = some x → W i ρ' μ' → s.held μ' ∧ g x ρ' μ' fun ρ2 μ2 => body { D with nx := W (i + 1), ct := W (i + 1), bk := D.nx } ρ2 μ2) ∧
  ∀ ρ' μ', W s.its.length ρ' μ' → s.held μ' ∧ D.nx ρ' μ'
def dFor (di : DTI) (g : DTG) (body : DTS) [Lk di] [Lk g] [Lk body] : DTS := fun D ρ μ => di ρ μ fun s μ1 => forIn s g body D ρ μ1
theorem ds_for {tg iter : Expr} {body : List Stmt} {di : DTI} {g : DTG} {db : DTS} {pos : Pos} (hi : PID X tg iter di) (hg : PGD X tg g) (hb : PSSD X body db) (hp : PassesOwn (model X.prog X.w) X.A X.env X.xe := by exact PassesOwn.never) (hc : X.calm = true := by rfl)
    (hs : ∀ x, foldedSetIterable iter X.env x = pure x := by intro _; rfl) : PSD X (.For tg iter body [] pos) (dFor di g db) := by
  obtain ⟨wi, i1, i2⟩ := hi.ex
  obtain ⟨tg', g1, g2⟩ := hg.ex
  obtain ⟨tb, b1, b2⟩ := hb.ex
  refine ⟨_, ps_for hp hc i1 g1 b1 hs, fun α σ H ρ μ D E S e h post => i2 α σ H ρ μ _ _ S e h fun J H1 α1 μ1 s gr S1 hd1 I q1 => ?_⟩
  obtain ⟨W, w0, ws, wd⟩ := q1
  refine ⟨fun i m σ' H' => i ≤ s.its.length ∧ m = s.its.length - i ∧ ∃ α' ρ' μ', Gr α1 H1 α' H' ∧ Sat X.K α' H' μ' ∧ EnvOk X.K α' H' σ' ρ' ∧ W i ρ' μ',
    ⟨_, Nat.zero_le _, rfl, α1, ρ, μ1, Gr.refl _ _, S1, e.mono gr, w0⟩, fun i m σ' H' hW => ?_⟩
  obtain ⟨hi, rfl, α', ρ', μ', gr', S', e', w⟩ := hW
  by_cases hlt : i < s.its.length
  · obtain ⟨hd, q⟩ := ws i s.its[i] ρ' μ' (List.getElem?_eq_getElem hlt) w
    obtain ⟨go, _, yl⟩ := I.ok α' H' μ' gr' S' hd
    refine .inr ⟨go i hlt, fun σ2 H2 => ∃ α2 ρ2 μ2, Gr α1 H1 α2 H2 ∧ Sat X.K α2 H2 μ2 ∧ EnvOk X.K α2 H2 σ2 ρ2 ∧ W (i + 1) ρ2 μ2, fun σ2 H2 hN => ?_, fun x H2 hy => ?_⟩
    · exact ⟨s.its.length - (i + 1), by omega, hlt, rfl, hN⟩
    · obtain ⟨gy, Sy, ry⟩ := yl i _ x H2 (List.getElem?_eq_getElem hlt) hy
      refine g2 α' σ' H2 ρ' μ' x _ _ _ Sy (e'.mono gy) ry q fun σ3 H3 α3 ρ3 μ3 g3 S3 e3 q3 => ?_
      have gg : Gr α1 H1 α3 H3 := (gr'.trans gy).trans g3
      refine b2 α3 σ3 H3 ρ3 μ3 _ _ S3 e3 q3 ⟨?_, ((post.mono gr).mono gg).rt, ((post.mono gr).mono gg).nx, ?_⟩
      · exact fun σ4 H4 α4 ρ4 μ4 g4 S4 e4 q4 => ⟨α4, ρ4, μ4, gg.trans g4, S4, e4, q4⟩
      · exact fun σ4 H4 α4 ρ4 μ4 g4 S4 e4 q4 => ⟨α4, ρ4, μ4, gg.trans g4, S4, e4, q4⟩
  · have ei : i = s.its.length := by omega
    subst ei
    obtain ⟨hd, q⟩ := wd ρ' μ' w
    obtain ⟨_, st, _⟩ := I.ok α' H' μ' gr' S' hd
    exact .inl ⟨st _ (Nat.le_refl _), (post.mono gr).nx _ _ _ _ _ gr' S' e' q⟩
def dWhile (c : DTT) (body : DTS) [Lk c] [Lk body] : DTS := fun D ρ μ => ∃ (W : Rho → Mu → Prop) (m : Rho → Mu → Nat), W ρ μ ∧ ∀ ρ' μ', W ρ' μ' → c ρ' μ' fun b μ1 =>
  if b = true then body { D with nx := fun ρ2 μ2 => W ρ2 μ2 ∧ m ρ2 μ2 < m ρ' μ', ct := fun ρ2 μ2 => W ρ2 μ2 ∧ m ρ2 μ2 < m ρ' μ', bk := D.nx } ρ' μ1 else D.nx ρ' μ1
theorem ds_while {c : Expr} {body : List Stmt} {dc : DTT} {db : DTS} {pos : Pos} (hc : PTD X c dc) (hb : PSSD X body db) (hp : PassesOwn (model X.prog X.w) X.A X.env X.xe := by exact PassesOwn.never) : PSD X (.While c body [] pos) (dWhile dc db) := by
  obtain ⟨tc, c1, c2⟩ := hc.ex
  obtain ⟨tb, b1, b2⟩ := hb.ex
  refine ⟨_, ps_while hp c1 b1, fun α σ H ρ μ D E S e h post => ?_⟩
  obtain ⟨W, m, w0, ws⟩ := h
  refine ⟨fun n σ' H' => ∃ α' ρ' μ', Gr α H α' H' ∧ Sat X.K α' H' μ' ∧ EnvOk X.K α' H' σ' ρ' ∧ W ρ' μ' ∧ n = m ρ' μ', ⟨_, α, ρ, μ, Gr.refl _ _, S, e, w0, rfl⟩, fun n σ' H' hW => ?_⟩
  obtain ⟨α', ρ', μ', g', S', e', w, rfl⟩ := hW
  refine c2 α' σ' H' ρ' μ' _ _ S' e' (ws ρ' μ' w) fun b H2 α2 μ2 g2 S2 q2 => ?_
  cases b with
  | false => exact post.nx _ _ _ _ _ (g'.trans g2) S2 (e'.mono g2) q2
  | true =>
    refine ⟨fun σ3 H3 => ∃ α3 ρ3 μ3, Gr α H α3 H3 ∧ Sat X.K α3 H3 μ3 ∧ EnvOk X.K α3 H3 σ3 ρ3 ∧ W ρ3 μ3 ∧ m ρ3 μ3 < m ρ' μ', fun σ3 H3 hN => ?_, ?_⟩
    · obtain ⟨α3, ρ3, μ3, g3, S3, e3, w3, l3⟩ := hN
      exact ⟨_, l3, α3, ρ3, μ3, g3, S3, e3, w3, rfl⟩
    · have gg := g'.trans g2
      refine b2 α2 σ' H2 ρ' μ2 _ _ S2 (e'.mono g2) q2 ⟨?_, (post.mono gg).rt, (post.mono gg).nx, ?_⟩
      · exact fun σ4 H4 α4 ρ4 μ4 g4 S4 e4 q4 => ⟨α4, ρ4, μ4, gg.trans g4, S4, e4, q4.1, q4.2⟩
      · exact fun σ4 H4 α4 ρ4 μ4 g4 S4 e4 q4 => ⟨α4, ρ4, μ4, gg.trans g4, S4, e4, q4.1, q4.2⟩

/-! ### comprehensions -/
/-- k: the new list's cell; W: what holds ahead of the i-th turn -/
def lcIn (s : Src) (g : DTG) (tt : DTT) (de : DTE) (ρ : Rho) (Q : List D → Mu → Prop) (μ1 : Mu) [Lk s] [Lk g] [Lk tt] [Lk de] [Lk ρ] [Lk Q] [Lk μ1] : Prop := ∀ k, μ1 k = none → ∃ W : Nat → Mu → Prop, W 0 (μ1.upd k []) ∧
  (∀ i x μ', s.its[i]? = some x → W i μ' → s.held μ' ∧ g x ρ μ' fun ρ2 μ2 => tt ρ2 μ2 fun b μ3 => if b = true then de ρ2 μ3 fun y μ4 => ∃ acc, μ4 k = some acc ∧ acc.length < sizeLine ∧ W (i + 1) (μ4.upd k (acc ++ [y])) else W (i + 1) μ3) ∧
  ∀ μ', W s.its.length μ' → s.held μ' ∧ ∃ xs μ2, μ' k = some xs ∧ μ2 k = none ∧ Mu.Sub (μ2.upd k xs) μ' ∧ Q xs μ2
def dLc (di : DTI) (g : DTG) (tt : DTT) (de : DTE) (vs : List Nat) [Lk di] [Lk g] [Lk tt] [Lk de] [Lk vs] : DTL := fun ρ μ Q => di ρ μ fun s μ1 => lcIn s g tt de (wipeD ρ vs) Q μ1
/-- the target keeps the other slots -/
def WipeG (g : TG) (vs : List Nat) : Prop := ∀ v σ H Q, g v σ H Q → g v σ H fun σ2 H2 => L2.wipe σ2 vs = L2.wipe σ vs ∧ Q σ2 H2
structure PTsD (X : Cx) (ifs : List Expr) (dt : DTT) : Prop where
  ex : ∃ tt, PTs X ifs tt ∧ SndT X.K tt dt
def dYes : DTT := fun _ μ Q => Q true μ
theorem snd_yes : SndT K tYes dYes := fun α σ H ρ μ Qd Q S E h post => post _ _ _ _ (Gr.refl α H) S h
theorem snd_lc {wi : TI} {di : DTI} {g : TG} {dg : DTG} {tt : TT} {dt : DTT} {te : TE} {de : DTE} {vs : List Nat} (hi : SndI K wi di) (hg : SndG K g dg) (hw : ∀ σ, ∀ v H Q, g v (L2.wipe σ vs) H Q → g v (L2.wipe σ vs) H fun σ2 H2 => L2.wipe σ2 vs = L2.wipe σ vs ∧ Q σ2 H2) (ht : SndT K tt dt) (he : SndE K te de) :
    SndL K (tLc wi g tt te vs) (dLc di dg dt de vs) := fun α σ H ρ μ Qd Q S e h post => hi α σ H ρ μ _ _ S e h fun J H1 α1 μ1 s gr S1 hd1 I q1 => by
  intro Da hD
  obtain ⟨W, w0, ws, wd⟩ := q1 α1.length S1.fresh
  have gA : Gr α1 H1 (α1 ++ [Da]) (upd H1 Da (.lst [])) := gr_push (Ext.new hD)
  have SA : Sat K (α1 ++ [Da]) (upd H1 Da (.lst [])) (μ1.upd α1.length []) := S1.alloc hD .nil
  have eA : EnvOk K (α1 ++ [Da]) (upd H1 Da (.lst [])) (L2.wipe σ vs) (wipeD ρ vs) := ((e.mono gr).mono gA).wipe vs
  refine ⟨fun i m H' => i ≤ s.its.length ∧ m = s.its.length - i ∧ ∃ α' μ', Gr (α1 ++ [Da]) (upd H1 Da (.lst [])) α' H' ∧ Sat K α' H' μ' ∧ W i μ', ⟨_, Nat.zero_le _, rfl, _, _, Gr.refl _ _, SA, w0⟩, fun i m H' hW => ?_⟩
  obtain ⟨hi, rfl, α', μ', gr', S', w⟩ := hW
  have atD : α'[α1.length]? = some Da := gr'.pre _ _ at_push
  by_cases hlt : i < s.its.length
  · obtain ⟨hd, q⟩ := ws i s.its[i] μ' (List.getElem?_eq_getElem hlt) w
    obtain ⟨go, _, yl⟩ := I.ok α' H' μ' (gA.trans gr') S' hd
    refine .inr ⟨go i hlt, fun H2 => ∃ α2 μ2, Gr (α1 ++ [Da]) (upd H1 Da (.lst [])) α2 H2 ∧ Sat K α2 H2 μ2 ∧ W (i + 1) μ2, fun H2 hN => ⟨s.its.length - (i + 1), by omega, hlt, rfl, hN⟩, fun x H2 hy => ?_⟩
    obtain ⟨gy, Sy, ry⟩ := yl i _ x H2 (List.getElem?_eq_getElem hlt) hy
    refine hw σ x H2 _ (hg α' (L2.wipe σ vs) H2 (wipeD ρ vs) μ' x _ _ _ Sy ((eA.mono gr').mono gy) ry q fun σ3 H3 α3 ρ3 μ3 g3 S3 e3 q3 => ?_)
    refine ht α3 σ3 H3 ρ3 μ3 _ _ S3 e3 q3 fun b H4 α4 μ4 g4 S4 q4 => ?_
    have gg : Gr (α1 ++ [Da]) (upd H1 Da (.lst [])) α4 H4 := ((gr'.trans gy).trans g3).trans g4
    cases b with
    | false => exact ⟨α4, μ4, gg, S4, q4⟩
    | true =>
      refine he α4 σ3 H4 ρ3 μ4 _ _ S4 (e3.mono g4) q4 fun y H5 α5 μ5 dy g5 S5 r5 q5 => ?_
      obtain ⟨acc, ea, hz, w5⟩ := q5
      obtain ⟨b, us, h1, h2, h3⟩ := S5.cell _ _ ea
      have at5 := (gg.trans g5).pre _ _ (at_push (α := α1) (a := Da))
      rw [at5] at h1
      cases h1
      exact ⟨us, h2, by rw [h3.length]; exact hz, α5, _, (gg.trans g5).trans (gr_set h2), S5.set at5 h2 (h3.append (.cons r5 .nil)), w5⟩
  · have ei : i = s.its.length := by omega
    subst ei
    obtain ⟨hd, xs, μ2, ex, n2, sb, q⟩ := wd μ' w
    obtain ⟨_, st, _⟩ := I.ok α' H' μ' (gA.trans gr') S' hd
    exact .inl ⟨st _ (Nat.le_refl _), post Da _ H' α' μ2 xs ((gr.trans gA).trans gr') n2 atD (S'.sub sb) q⟩
end Dl
/-! Dat4: defs by what they do with plain data; the law's end; repr. -/
namespace Dl
open PySem PySem.Spec PyProof.Rows L2

/-- a def's promise over data -/
abbrev DSp := List D → Mu → DK → Prop
section
variable (P : Program) (w : World) (K : PySem.W.Frag) (mg : Str → Option Value) (base : Heap)
/-- the def at f keeps sp wherever no display is under way -/
structure FnG (k : Nat) (f : Addr) (fd : FuncData) (ps : List Str) (sp : DSp) : Prop where
  len : ∀ ds μ Q, sp ds μ Q → ds.length = ps.length
  run : ∀ (A : Around) (outer : List Env) (s : Shared) (H : Hp) (args : Args) (us : List Value) (vs : List V) (α : List Addr) (μ : Mu) (ds : List D) (Qd : DK) (Q : VK),
    Room k A → A.guards = some [] → Env0 P w K mg base A outer s H → us.length = ps.length → BindsTo s fd args (ps.zip us) → Vals vs us → Sat K α H μ → RlAll K α H vs ds → sp ds μ Qd → PostE K α H Qd Q →
    codeAny (model P w) A (.call (.ref f) args) (CR CX0 outer P w H s Q E0) s
/-- the module's name x holds the def st of the text, which keeps sp -/
structure Has (k : Nat) (x : Str) (st : Stmt) (ps : List Str) (sp : DSp) : Prop where
  ex : ∃ f fd, mg x = some (.ref f) ∧ Fun K x x st f fd ∧ FnG P w K mg base k f fd ps sp
/-- the module's name x holds the def st of the text -/
structure Txt (x : Str) (st : Stmt) : Prop where
  ex : ∃ f fd, mg x = some (.ref f) ∧ Fun K x x st f fd
abbrev bodyX (N : List Str) (qual : Str) (sc : Scope) (f : Addr) (cdv : Value) (A : Around) (outer : List Env) (s : Shared) (H : Hp) : Cx := (cxOf CX0 P w K mg base N qual sc f cdv A outer s H E0).nox
end
def startD (N : List Str) (ds : List D) : Rho := ds.map some ++ List.replicate (N.length - ds.length) none
def retD (Q : DK) : DEnds := { nx := fun _ μ => ∃ μ', Mu.Sub μ' μ ∧ Q .non μ', rt := fun d μ => ∃ μ', Mu.Sub μ' μ ∧ Q d μ' }

section
variable {P : Program} {w : World} {K : PySem.W.Frag} {mg : Str → Option Value} {base : Heap} {α : List Addr} {H : Hp}
theorem RlAll.at : ∀ {vs : List V} {ds : List D} {n : Nat}, RlAll K α H vs ds → ∀ (i : Nat) d, (ds.map some ++ List.replicate n none)[i]? = some (some d) → ∃ v, (vs.map some ++ List.replicate n none)[i]? = some (some v) ∧ Rl K α H v d
  | _, _, n, .nil, i, d, h => by
    simp only [List.map_nil, List.nil_append, List.getElem?_replicate] at h
    split at h <;> cases h
  | _, _, n, .cons a b, 0, d, h => by
    simp only [List.map_cons, List.cons_append, List.getElem?_cons_zero, Option.some.injEq] at h
    subst h
    exact ⟨_, rfl, a⟩
  | _, _, n, .cons a b, i + 1, d, h => by
    simp only [List.map_cons, List.cons_append, List.getElem?_cons_succ] at h ⊢
    exact RlAll.at b i d h
theorem env_start {N : List Str} {vs : List V} {ds : List D} (r : RlAll K α H vs ds) : EnvOk K α H (L2.start N vs) (startD N ds) := by
  unfold L2.start startD
  rw [r.length]
  refine ⟨?_, r.at⟩
  simp only [List.length_append, List.length_map, List.length_replicate, r.length]
/-- THE RULE for a def of the text -/
theorem Txt.has {x : Str} {st : Stmt} {N ps : List Str} {k : Nat} {sp : DSp} (T : Txt K mg x st) (S : FnScope N ps (defScope st)) (len : ∀ ds μ Q, sp ds μ Q → ds.length = ps.length)
    (hbody : ∀ (f : Addr) (cdv : Value) (A : Around) (outer : List Env) (s : Shared) (H : Hp), Room k (bodyX P w K mg base N x (defScope st) f cdv A outer s H).A → (bodyX P w K mg base N x (defScope st) f cdv A outer s H).A.guards = some [] →
      ∃ db, PSSD (bodyX P w K mg base N x (defScope st) f cdv A outer s H) (defBody st) db ∧ ∀ ds μ Q, sp ds μ Q → db (retD Q) (startD N ds) μ) : Has P w K mg base (k + 1) x st ps sp := by
  obtain ⟨f, fd, hm, F⟩ := T.ex
  refine ⟨f, fd, hm, F, ⟨len, ?_⟩⟩
  intro A outer s H args us vs α μ ds Qd Q hr hgd e0 hl hb rv S0 rd hsp post
  obtain ⟨oc, od, kV, doc, pm, an, cdv, ct, osl, rfl, lk, hcd⟩ := F.ex
  have kin : K.In s.heap := e0.mod.kin.keeps (fun b o z => (e0.bs b o z).1)
  have nol : s.heap.NoLimit := e0.mod.nolimit.keeps (fun b o z => (e0.bs b o z).1)
  have kinds : ∀ y ∈ ps.zip us, (defScope st).names.lookup y.1 = some .local ∨ ((defScope st).names.lookup y.1 = some .cell ∧ ((cellsFrom (s.heap.objs.size + 1) (defScope st).names []).lookup y.1).isSome = true) := by
    rintro ⟨n, u⟩ hy
    cases S.par n (List.of_mem_zip hy).1 with
    | inl q => exact Or.inl q
    | inr q => exact Or.inr ⟨q, PySem.W.cellsFrom_some _ _ _ (Or.inl q)⟩
  refine codeAny_call_function hr.depth (kin _ _ lk) rfl S.co S.gen rfl (PySem.W.codeRec_of kin hcd) (hb _ _ _ _ ?_)
  refine wpAny_newFunctionEnv_cells S.kind kinds fun env he s1 new => ?_
  subst he
  refine ⟨nol.keeps new.toInCall.keep, codeAny_func ?_⟩
  obtain ⟨db, B, hq⟩ := hbody f cdv A outer s H (hr.deeper _) hgd
  obtain ⟨t, ht, snd⟩ := B.ex
  have J : Inv (bodyX P w K mg base N x (defScope st) f cdv A outer s H) [] (L2.start N vs) H s1 := (inv_start (E := E0) (CX := CX0) S hr.hd e0 (by rw [rv.length]; exact hl) rv new).wish _
  have fin : ∀ {σ2 : L2.St} {H2 : Hp} {v : V} {u : Value} {s2 : Shared}, Inv (bodyX P w K mg base N x (defScope st) f cdv A outer s H) [] σ2 H2 s2 → RelV v u → Q v H2 → CE outer P w H s Q u s2 :=
    fun {σ2 H2 v u s2} I rv q => ⟨v, H2, I.os, I.bare, I.base, I.hok, rv, q⟩
  have q0 : t { nx := fun _ H' => Q .non H', rt := Q } (L2.start N vs) H := by
    refine snd α (L2.start N vs) H (startD N ds) μ _ _ S0 (env_start rd) (hq ds μ Qd hsp) ⟨?_, ?_, ?_, ?_⟩
    · rintro σ' H' α' ρ' μ' g S' _ ⟨μ'', sb, q⟩
      exact post _ _ _ _ _ g (S'.sub sb) .non q
    · rintro v H' α' μ' d g S' r ⟨μ'', sb, q⟩
      exact post _ _ _ _ _ g (S'.sub sb) r q
    · intro σ' H' α' ρ' μ' _ _ _ q
      exact q.elim
    · intro σ' H' α' ρ' μ' _ _ _ q
      exact q.elim
  refine wpAny_mono (ht.run [] s1 _ H _ J q0) (fun fl s2 hs => ?_) fun e s2 hs => hs.elim
  cases fl with
  | next =>
    obtain ⟨σ2, H2, I2, q⟩ := hs
    exact fin (v := V.non) (u := Value.none) I2 rfl q
  | ret u =>
    obtain ⟨v, σ2, H2, I2, rv2, q⟩ := hs
    exact fin I2 rv2 q
  | brk => exact hs.elim fun _ h => h.elim fun _ h => h.2.elim
  | cont => exact hs.elim fun _ h => h.elim fun _ h => h.2.elim
theorem Has.mono {j k : Nat} {x : Str} {st : Stmt} {ps : List Str} {sp : DSp} (h : Has P w K mg base j x st ps sp) (hk : j ≤ k) : Has P w K mg base k x st ps sp := by
  obtain ⟨f, fd, hm, F, G⟩ := h.ex
  exact ⟨f, fd, hm, F, ⟨G.len, fun A outer s H args us vs α μ ds Qd Q hr => G.run A outer s H args us vs α μ ds Qd Q (hr.mono hk)⟩⟩
end

/-! ### calls -/
section
variable {X : Cx} {k : Nat} {x : Str} {st : Stmt} {ps : List Str} {sp : DSp} {p pos : Pos}
/-- how a def binds so many arguments, and keywords: g puts them in the parameters' order -/
def BindK (st : Stmt) (x : Str) (ps ks : List Str) (n : Nat) (g : {β : Type} → List β → List β → List β) : Prop :=
  ∀ (kV doc pm : Value) (an : Option Addr) (cdv ct : Value) (us ws : List Value), us.length = n → ws.length = ks.length → (g us ws).length = ps.length ∧ bindArgs (PySem.W.fnOf x x (defArgs st) (defBody st) (defScope st) .none kV doc pm an cdv ct) ⟨us, ks.zip ws⟩ = pure (ps.zip (g us ws))
/-- the places of a list, in another sequence -/
def permG (l : List Nat) {β : Type} (_ as : List β) : List β := l.filterMap fun i => as[i]?
theorem perm_rl {K : PySem.W.Frag} {α : List Addr} {H : Hp} {vs : List V} {ds : List D} (r : RlAll K α H vs ds) : ∀ (l : List Nat), RlAll K α H (permG l [] vs) (permG l [] ds)
  | [] => .nil
  | i :: l => by
    unfold permG
    rw [List.filterMap_cons, List.filterMap_cons]
    cases e : ds[i]? with
    | some d =>
      obtain ⟨v, h1, h2⟩ := r.get e
      rw [h1]
      exact .cons h2 (perm_rl r l)
    | none =>
      have e2 : vs[i]? = none := by
        cases q : vs[i]? with
        | none => rfl
        | some v =>
          obtain ⟨d, h1, _⟩ := r.getV q
          rw [e] at h1
          cases h1
      rw [e2]
      exact perm_rl r l
theorem perm_vals {vs : List V} {us : List Value} (r : Vals vs us) : ∀ (l : List Nat), Vals (permG l [] vs) (permG l [] us)
  | [] => .nil
  | i :: l => by
    unfold permG
    rw [List.filterMap_cons, List.filterMap_cons]
    cases e : vs[i]? with
    | some v =>
      obtain ⟨u, h1, h2⟩ := r.get e
      rw [h1]
      exact .cons h2 (perm_vals r l)
    | none =>
      rw [r.none_of e]
      exact perm_vals r l
theorem run_g {X : Cx} {f : Addr} {fd : FuncData} (F : FnG X.prog X.w X.K X.mg X.base k f fd ps sp) (hr : Room k X.A) (hgd : X.A.guards = some []) {pins : List (Addr × Obj)} {σ : L2.St} {H : Hp} {s : Shared} {Q : VK} {us : List Value} {kw : List (Str × Value)} {zs : List Value} {vs : List V} {α : List Addr} {μ : Mu} {ds : List D} {Qd : DK}
    (I : Inv X pins σ H s) (hl : zs.length = ps.length) (hb : BindsTo s fd ⟨us, kw⟩ (ps.zip zs)) (r : Vals vs zs) (S : Sat X.K α H μ) (rd : RlAll X.K α H vs ds) (h : sp ds μ Qd) (post : PostE X.K α H Qd Q) :
    wpAny (model X.prog X.w) X.A (call (.ref f) us kw) (EP X pins σ Q) X.xe s := by
  refine wpAny_call (codeAny_mono (F.run X.A X.stack s H _ zs vs α μ ds Qd Q hr hgd I.env0 hl hb r S rd h post) fun res s' hq => ?_)
  cases res with
  | error e => exact False.elim hq
  | ok fl =>
    cases fl with
    | ret u => exact I.after hq
    | _ => exact False.elim hq
def dFn (sp : DSp) (da : DTA) : DTE := fun ρ μ Q => da ρ μ fun ds μ1 => sp ds μ1 Q
/-- f(e, ..): the arguments' number is told by their shape -/
theorem de_fn {e : Expr} {es : List Expr} {da : DTA} (h : Has X.prog X.w X.K X.mg X.base k x st ps sp) (hr : Room k X.A) (hgd : X.A.guards = some []) (ha : PAD X (e :: es) da)
    (hb : BindK st x ps [] ps.length (fun as _ => as)) (hn : es.length + 1 = ps.length := by rfl) (hg : Gl X x := by rfl) (hdb : (x == ("__debug__" : Str)) = false := by decide)
    (he : starEach (e :: es) X.env = (false, eval e X.env) :: starEach es X.env := by rfl) (hpl : (backTo pos (starEach es X.env)).any (·.1) = false := by rfl) :
    PED X (.Call (.Name x p) (e :: es) [] pos) (dFn sp da) := by
  obtain ⟨f, fd, hm, F, G⟩ := h.ex
  obtain ⟨ta, a1, a2⟩ := ha.ex
  refine ⟨fun σ H Q => ta σ H fun vs H1 => ∃ α μ ds Qd, Sat X.K α H1 μ ∧ RlAll X.K α H1 vs ds ∧ sp ds μ Qd ∧ PostE X.K α H1 Qd Q, ⟨fun pins s σ H Q I h => ?_⟩, fun α σ H ρ μ Qd Q S E h post => ?_⟩
  · refine wpAny_Call_Name_kw (ld_glob I hg hm ?_ hdb)
    refine PySem.W.callWith_K (h₀ := X.base) I.ok.mod.kin F.kp (thn (a1.run pos pins s σ H _ I h) fun us s1 ⟨vs, H1, I1, r, α, μ, ds, Qd, S1, rd, hs, post⟩ => ⟨I1.kIn, ?_⟩) he hpl
    obtain ⟨oc, od, kV, doc, pm, an, cdv, ct, osl, rfl, lk, hcd⟩ := F.ex
    have hl : us.length = ps.length := by rw [← r.length, rd.length]; exact G.len _ _ _ hs
    exact run_g G hr hgd I1 hl (.of_eq (hb kV doc pm an cdv ct us [] hl rfl).2) r S1 rd hs post
  · exact a2 α σ H ρ μ _ _ S E h fun vs H1 α1 μ1 ds g1 S1 r1 q1 => ⟨α1, μ1, ds, Qd, S1, r1, q1, post.mono g1⟩
/-- keywords' values, from the left -/
def taLen (n : Nat) (K : PySem.W.Frag) (da : DTA) : TA := fun σ H Q => ∃ α ρ μ Qd, Sat K α H μ ∧ EnvOk K α H σ ρ ∧ da ρ μ Qd ∧
  ∀ vs H' α' μ' ds, Gr α H α' H' → Sat K α' H' μ' → RlAll K α' H' vs ds → vs.length = n → Qd ds μ' → Q vs H'
structure PKD (X : Cx) (n : Nat) (kws : List Keyword) (da : DTA) : Prop where
  ex : PK X kws (taLen n X.K da)
theorem dk_nil : PKD X 0 [] daNil := ⟨⟨fun pos pins s σ H Q I h => by
  obtain ⟨α, ρ, μ, Qd, S, E, h, post⟩ := h
  exact pk_nil.run pos pins s σ H Q I (post [] H α μ [] (Gr.refl α H) S .nil rfl h)⟩⟩
theorem dk_cons {n : Nat} {e : Expr} {kws : List Keyword} {nm : Option Str} {kpos : Pos} {de : DTE} {dr : DTA} (he : PED X e de) (hr : PKD X n kws dr) : PKD X (n + 1) (⟨nm, e, kpos⟩ :: kws) (daCons de dr) := ⟨⟨fun pos pins s σ H Q I h => by
  obtain ⟨te, a1, a2⟩ := he.ex
  obtain ⟨α, ρ, μ, Qd, S, E, h, post⟩ := h
  refine (pk_cons (nm := nm) (kpos := kpos) a1 hr.ex).run pos pins s σ H Q I (a2 α σ H ρ μ _ _ S E h fun v H1 α1 μ1 d g1 S1 r1 q1 => ?_)
  exact ⟨α1, ρ, μ1, _, S1, E.mono g1, q1, fun vs H2 α2 μ2 ds g2 S2 r2 l2 q2 => post _ _ _ _ _ (g1.trans g2) S2 (.cons (r1.mono g2) r2) (by rw [List.length_cons, l2]) q2⟩⟩⟩
def dFnK (sp : DSp) (l : List Nat) (da : DTA) : DTE := fun ρ μ Q => da ρ μ fun ds μ1 => sp (permG l [] ds) μ1 Q
/-- f(k = e, ..): keywords alone; l: which keyword each parameter takes -/
theorem de_fnK (l : List Nat) {n : Nat} {kws : List Keyword} {ks : List Str} {da : DTA} (h : Has X.prog X.w X.K X.mg X.base k x st ps sp) (hr : Room k X.A) (hgd : X.A.guards = some []) (ha : PKD X n kws da)
    (hb : BindK st x ps ks 0 (permG l)) (hn : ks.length = n := by rfl) (hg : Gl X x := by rfl) (hdb : (x == ("__debug__" : Str)) = false := by decide)
    (hall : (backToKw pos (keywordEach kws X.env)).all (·.1.isSome) = true := by rfl) (hks : (backToKw pos (keywordEach kws X.env)).filterMap (·.1) = ks := by rfl)
    (hpl : ((backTo pos (starEach [] X.env)).any (·.1) || (backToKw pos (keywordEach kws X.env)).any (·.1.isNone)) = false := by rfl) : PED X (.Call (.Name x p) [] kws pos) (dFnK sp l da) := by
  obtain ⟨f, fd, hm, F, G⟩ := h.ex
  refine ⟨fun σ H Q => taLen n X.K da σ H fun vs H1 => vs.length = n ∧ ∃ α μ ds Qd, Sat X.K α H1 μ ∧ RlAll X.K α H1 (permG l [] vs) ds ∧ sp ds μ Qd ∧ PostE X.K α H1 Qd Q, ⟨fun pins s σ H Q I h => ?_⟩, fun α σ H ρ μ Qd Q S E h post => ?_⟩
  · refine wpAny_Call_Name_kw (ld_glob I hg hm ?_ hdb)
    refine PySem.W.callWith_KW0 (h₀ := X.base) I.ok.mod.kin F.kp hall (thn (ha.ex.run pos pins s σ H _ I h) fun us s1 ⟨vs, H1, I1, r, hl, α, μ, ds, Qd, S1, rd, hs, post⟩ => ⟨I1.kIn, ?_⟩) hpl
    obtain ⟨oc, od, kV, doc, pm, an, cdv, ct, osl, rfl, lk, hcd⟩ := F.ex
    rw [hks]
    obtain ⟨h1, h2⟩ := hb kV doc pm an cdv ct [] us rfl (by rw [← r.length, hn]; exact hl)
    exact run_g G hr hgd I1 h1 (.of_eq h2) (perm_vals r l) S1 rd hs post
  · exact ⟨α, ρ, μ, _, S, E, h, fun vs H1 α1 μ1 ds g1 S1 r1 l1 q1 => ⟨l1, α1, μ1, _, Qd, S1, perm_rl r1 l, q1, post.mono g1⟩⟩
end

/-! ### repr -/
section
variable {X : Cx} {K : PySem.W.Frag} {α : List Addr} {H : Hp}
def cRepr : List D → Mu → DK → Prop := fun ds μ Q => match ds with
  | [x] => ∃ p, Rs μ x p ∧ isDisplay p = true ∧ p.showable = true ∧ p.hasDict = false ∧ p.depth ≤ 60 ∧ p.shown.length ≤ sizeLine ∧ Q (.str p.shown) μ
  | _ => False
theorem c_repr (hgd : X.A.guards = some []) (hu : X.A.units + 64 < cLine) : CallD X (.builtin "repr") cRepr := by
  refine ⟨fun xs H Q => ∃ v d, xs = [v] ∧ Dp X.K H v d ∧ isDisplay d = true ∧ d.showable = true ∧ d.hasDict = false ∧ d.depth ≤ 60 ∧ d.shown.length ≤ sizeLine ∧ Q (.str d.shown) H, ?_, ?_⟩
  · intro pins s σ H xs us Q I r h
    obtain ⟨v, d, rfl, hd, h1, h2, h3, h4, h5, q⟩ := h
    obtain ⟨u, rfl, rv⟩ := vals1 r
    obtain ⟨as, rd⟩ := hd.reads I d v u rv
    obtain ⟨a, rfl⟩ := isRef_of_reads rd h1
    refine repr_of_reads' rd h2 (PyData.noDict_hsm h3) hgd (by omega) (fun _ _ e => e) (fun h' t tk hk => ?_) h5
    exact ⟨.str d.shown, H, I.kept (t' := tk) hk, ⟨t, rfl⟩, q⟩
  · intro α H μ xs dxs Qd Q S r h post
    unfold cRepr at h
    split at h
    · rename_i x
      obtain ⟨p, h0, h1, h2, h3, h4, h5, q⟩ := h
      obtain ⟨v, rfl, rx⟩ := rl1 r
      exact ⟨v, p, rfl, rx.dp S h0, h1, h2, h3, h4, h5, post.here S (.str _) q⟩
    · exact h.elim

/-! ### methods of lists -/
def mApp (do_ de : DTE) : DTE := fun ρ μ Q => do_ ρ μ fun o μ1 => match o with
  | .cell k => (μ1 k).isSome = true ∧ de ρ μ1 fun y μ2 => ∃ xs, μ2 k = some xs ∧ xs.length < sizeLine ∧ Q .non (μ2.upd k (xs ++ [y]))
  | _ => False
theorem de_append {o e : Expr} {apos cpos : Pos} {d1 d2 : DTE} (ho : PED X o d1) (he : PED X e d2)
    (mk : ∀ {to te : TE}, PE X o to → PE X e te → PE X (.Call (.Attribute o "append" apos) [e] [] cpos) (tBM X.K "list" rAppend to (tCons te tNil)) := by
      intro _ _ a b; exact pe_bm PySem.F.plainAttrs_list PySem.F.slot_list_append PySem.F.type_list_append mt_append a (pa_cons b pa_nil)) : PED X (.Call (.Attribute o "append" apos) [e] [] cpos) (mApp d1 d2) := by
  obtain ⟨t1, a1, a2⟩ := ho.ex
  obtain ⟨t2, b1, b2⟩ := he.ex
  refine ⟨_, mk a1 b1, fun α σ H ρ μ Qd Q S E h post => a2 α σ H ρ μ _ _ S E h fun v H1 α1 μ1 d g1 S1 r1 q1 => ?_⟩
  cases r1 with
  | @cell a k q =>
    obtain ⟨q1, q2⟩ := q1
    cases ex : μ1 k with
    | none =>
      rw [ex] at q1
      cases q1
    | some xs =>
      obtain ⟨b, vs, h1, h2, h3⟩ := S1.cell _ _ ex
      rw [q] at h1
      cases h1
      refine ⟨.inl ⟨rfl, vs, .of h2⟩, b2 α1 σ H1 ρ μ1 _ _ S1 (E.mono g1) q2 fun y H2 α2 μ2 dy g2 S2 r2 q2 => ?_⟩
      obtain ⟨ys, ey, hz, q2⟩ := q2
      obtain ⟨c, ws, k1, k2, k3⟩ := S2.cell _ _ ey
      have at2 := g2.pre _ _ q
      rw [at2] at k1
      cases k1
      exact ⟨_, ws, y, rfl, rfl, k2, by rw [k3.length]; exact hz, post _ _ _ _ _ ((g1.trans g2).trans (gr_set k2)) (S2.set at2 k2 (k3.append (.cons r2 .nil))) .non q2⟩
  | _ => exact False.elim q1
/-- xs.extend([..]), a fresh list -/
def mExtL (do_ : DTE) (dl : DTL) : DTE := fun ρ μ Q => do_ ρ μ fun o μ1 => match o with
  | .cell k => (μ1 k).isSome = true ∧ dl ρ μ1 fun ys μ2 => ∃ xs, μ2 k = some xs ∧ xs.length + ys.length ≤ sizeLine ∧ Q .non (μ2.upd k (xs ++ ys))
  | _ => False
theorem de_extendL {o e : Expr} {apos cpos : Pos} {d1 : DTE} {d2 : DTL} (ho : PED X o d1) (he : PLD X e d2)
    (mk : ∀ {to te : TE}, PE X o to → PE X e te → PE X (.Call (.Attribute o "extend" apos) [e] [] cpos) (tBM X.K "list" rExtend to (tCons te tNil)) := by
      intro _ _ a b; exact pe_bm PySem.F.plainAttrs_list PySem.F.slot_list_extend PySem.F.type_list_extend mt_extend a (pa_cons b pa_nil)) : PED X (.Call (.Attribute o "extend" apos) [e] [] cpos) (mExtL d1 d2) := by
  obtain ⟨t1, a1, a2⟩ := ho.ex
  obtain ⟨t2, b1, b2⟩ := he.ex
  refine ⟨_, mk a1 b1, fun α σ H ρ μ Qd Q S E h post => a2 α σ H ρ μ _ _ S E h fun v H1 α1 μ1 d g1 S1 r1 q1 => ?_⟩
  cases r1 with
  | @cell a k q =>
    obtain ⟨q1, q2⟩ := q1
    cases ex : μ1 k with
    | none =>
      rw [ex] at q1
      cases q1
    | some xs =>
      obtain ⟨b, vs, h1, h2, h3⟩ := S1.cell _ _ ex
      rw [q] at h1
      cases h1
      refine ⟨.inl ⟨rfl, vs, .of h2⟩, b2 α1 σ H1 ρ μ1 _ _ S1 (E.mono g1) q2 fun p j H2 α2 μ2 ys g2 n2 l2 S2 q2 => ?_⟩
      obtain ⟨S3, us, hp, r3⟩ := fresh_of n2 l2 S2
      obtain ⟨zs, ey, hz, q2⟩ := q2
      obtain ⟨c, ws, k1, k2, k3⟩ := S3.cell _ _ ey
      have at2 := g2.pre _ _ q
      rw [at2] at k1
      cases k1
      exact ⟨_, p, ws, us, rfl, rfl, k2, hp, by rw [k3.length, r3.length]; exact hz, post _ _ _ _ _ ((g1.trans g2).trans (gr_set k2)) (S3.set at2 k2 (k3.append r3)) .non q2⟩
  | _ => exact False.elim q1

/-! ### comprehensions, given to a name or not -/
variable {own : List (Str × Nat)} {elt tg iter : Expr} {ifs : List Expr} {scope : Scope} {pos spos : Pos} {di : DTI} {dg : DTG} {dt : DTT} {de : DTE}
theorem dts_nil {X : Cx} : PTsD X [] dYes := ⟨_, pts_nil, snd_yes⟩
theorem dts_one {X : Cx} {c : Expr} {d : DTT} (h : PTD X c d) : PTsD X [c] d := by
  obtain ⟨t, a, b⟩ := h.ex
  exact ⟨t, pts_one a, b⟩
/-- the reading that a reading over data gives, told outright -/
def teOf (K : PySem.W.Frag) (de : DTE) : TE := fun σ H Q => ∃ α ρ μ Qd, Sat K α H μ ∧ EnvOk K α H σ ρ ∧ de ρ μ Qd ∧ PostE K α H Qd Q
def ttOf (K : PySem.W.Frag) (dt : DTT) : TT := fun σ H Q => ∃ α ρ μ Qd, Sat K α H μ ∧ EnvOk K α H σ ρ ∧ dt ρ μ Qd ∧ PostT K α H Qd Q
theorem snd_teOf : SndE K (teOf K de) de := fun α σ H ρ μ Qd Q S E h post => ⟨α, ρ, μ, Qd, S, E, h, post⟩
theorem snd_ttOf : SndT K (ttOf K dt) dt := fun α σ H ρ μ Qd Q S E h post => ⟨α, ρ, μ, Qd, S, E, h, post⟩
theorem PED.pe {X : Cx} {e : Expr} (h : PED X e de) : PE X e (teOf X.K de) := by
  obtain ⟨te, a, b⟩ := h.ex
  exact ⟨fun pins s σ H Q I ⟨α, ρ, μ, Qd, S, E, h, post⟩ => a.run pins s σ H Q I (b α σ H ρ μ Qd Q S E h post)⟩
theorem PTsD.pts {X : Cx} {es : List Expr} (h : PTsD X es dt) : PTs X es (ttOf X.K dt) := by
  obtain ⟨te, a, b⟩ := h.ex
  exact ⟨fun pins s σ H Q I ⟨α, ρ, μ, Qd, S, E, h, post⟩ => a.run pins s σ H Q I (b α σ H ρ μ Qd Q S E h post)⟩
theorem wipe_set_in {i : Nat} {y : Option V} : ∀ {vs : List Nat} {σ : L2.St}, i ∈ vs → L2.wipe (σ.set i y) vs = L2.wipe σ vs
  | v :: vs, σ, h => by
    show (L2.wipe (σ.set i y) vs).set v none = (L2.wipe σ vs).set v none
    by_cases hv : i ∈ vs
    · rw [wipe_set_in hv]
    · have e : i = v := by
        cases h with
        | head => rfl
        | tail _ h => exact absurd h hv
      subst e
      have go : ∀ (us : List Nat), i ∉ us → L2.wipe (σ.set i y) us = (L2.wipe σ us).set i y := by
        intro us
        induction us with
        | nil => intro _; rfl
        | cons u us ih =>
          intro hu
          have h1 : u ≠ i := fun z => hu (z ▸ List.mem_cons_self ..)
          show (L2.wipe (σ.set i y) us).set u none = ((L2.wipe σ us).set u none).set i y
          rw [ih (fun z => hu (List.mem_cons_of_mem _ z)), List.set_comm _ _ h1.symm]
      rw [go vs hv, List.set_set]
theorem wipe_idem : ∀ {vs us : List Nat} {σ : L2.St}, (∀ v ∈ us, v ∈ vs) → L2.wipe (L2.wipe σ us) vs = L2.wipe σ vs
  | vs, [], σ, _ => rfl
  | vs, u :: us, σ, h => by
    show L2.wipe ((L2.wipe σ us).set u none) vs = _
    rw [wipe_set_in (h u (List.mem_cons_self ..)), wipe_idem fun v hv => h v (List.mem_cons_of_mem _ hv)]
/-- a target of a comprehension: one name, two names, three -/
structure OwnG (X : Cx) (scope : Scope) (own : List (Str × Nat)) (tg : Expr) (dg : DTG) : Prop where
  ex : ∃ g : TG, SndG X.K g dg ∧ (∀ σ v H Q, g v (L2.wipe σ (own.map (·.2))) H Q → g v (L2.wipe σ (own.map (·.2))) H fun σ2 H2 => L2.wipe σ2 (own.map (·.2)) = L2.wipe σ (own.map (·.2)) ∧ Q σ2 H2) ∧
    ∀ (s : Shared) (H : Hp) (C : Addr) (cl : List (Str × Addr)) (fp : List Addr), PG (X.blk s H scope (compEnvC scope cl C X.env) fp) tg g
theorem own_name {X : Cx} (i : Nat) {y : Str} {p : Pos} (hg : ∀ (s : Shared) (H : Hp) (C : Addr) (cl : List (Str × Addr)) (fp : List Addr), PG (X.blk s H scope (compEnvC scope cl C X.env) fp) (.Name y p) (gName i)) (hi : i ∈ own.map (·.2) := by decide) : OwnG X scope own (.Name y p) (gdName i) :=
  ⟨gName i, fun α σ H ρ μ v d Qd Q S e r h post => post _ _ _ _ _ (Gr.refl α H) S (e.set r) h, fun σ v H Q h => ⟨by rw [wipe_set_in hi, wipe_idem fun _ z => z], h⟩, hg⟩
theorem snd_gname {K : PySem.W.Frag} (i : Nat) : SndG K (gName i) (gdName i) := fun α σ H ρ μ v d Qd Q S e r h post => post _ _ _ _ _ (Gr.refl α H) S (e.set r) h
theorem own_pair {X : Cx} (i j : Nat) {tg : Expr} (hg : ∀ (s : Shared) (H : Hp) (C : Addr) (cl : List (Str × Addr)) (fp : List Addr), PG (X.blk s H scope (compEnvC scope cl C X.env) fp) tg (gTup X.K 2 (gCons (gName i) (gCons (gName j) gNil))))
    (hi : i ∈ own.map (·.2) := by decide) (hj : j ∈ own.map (·.2) := by decide) : OwnG X scope own tg (gdTup 2 (gdCons (gdName i) (gdCons (gdName j) gdNil))) := by
  refine ⟨_, fun α σ H ρ μ v d Qd Q S e r h post => ?_, fun σ v H Q h => ?_, hg⟩
  · unfold gdTup at h
    split at h
    · rename_i ds
      obtain ⟨hl, h⟩ := h
      cases r with
      | tup q r =>
        refine ⟨_, _, rfl, q, by rw [r.length]; exact hl, ?_⟩
        cases r with
        | nil => cases hl
        | cons r1 r =>
          cases r with
          | nil => cases hl
          | cons r2 r =>
            cases r with
            | cons _ _ => cases hl
            | nil => exact ⟨_, _, rfl, _, _, rfl, rfl, post _ _ _ _ _ (Gr.refl α H) S ((e.set r1).set r2) h⟩
    · exact h.elim
  · obtain ⟨a, xs, rfl, q, hl, v1, r1, rfl, v2, r2, rfl, rfl, h⟩ := h
    refine ⟨a, _, rfl, q, hl, v1, _, rfl, v2, _, rfl, rfl, ?_, h⟩
    rw [wipe_set_in hj, wipe_set_in hi, wipe_idem fun _ z => z]
theorem own_triple {X : Cx} (i j l : Nat) {tg : Expr} (hg : ∀ (s : Shared) (H : Hp) (C : Addr) (cl : List (Str × Addr)) (fp : List Addr), PG (X.blk s H scope (compEnvC scope cl C X.env) fp) tg (gTup X.K 3 (gCons (gName i) (gCons (gName j) (gCons (gName l) gNil)))))
    (hi : i ∈ own.map (·.2) := by decide) (hj : j ∈ own.map (·.2) := by decide) (hk : l ∈ own.map (·.2) := by decide) : OwnG X scope own tg (gdTup 3 (gdCons (gdName i) (gdCons (gdName j) (gdCons (gdName l) gdNil)))) := by
  refine ⟨_, fun α σ H ρ μ v d Qd Q S e r h post => ?_, fun σ v H Q h => ?_, hg⟩
  · unfold gdTup at h
    split at h
    · rename_i ds
      obtain ⟨hl, h⟩ := h
      cases r with
      | tup q r =>
        refine ⟨_, _, rfl, q, by rw [r.length]; exact hl, ?_⟩
        cases r with
        | nil => cases hl
        | cons r1 r =>
          cases r with
          | nil => cases hl
          | cons r2 r =>
            cases r with
            | nil => cases hl
            | cons r3 r =>
              cases r with
              | cons _ _ => cases hl
              | nil => exact ⟨_, _, rfl, _, _, rfl, _, _, rfl, rfl, post _ _ _ _ _ (Gr.refl α H) S (((e.set r1).set r2).set r3) h⟩
    · exact h.elim
  · obtain ⟨a, xs, rfl, q, hl, v1, r1, rfl, v2, r2, rfl, v3, r3, rfl, rfl, h⟩ := h
    refine ⟨a, _, rfl, q, hl, v1, _, rfl, v2, _, rfl, v3, _, rfl, rfl, ?_, h⟩
    rw [wipe_set_in hk, wipe_set_in hj, wipe_set_in hi, wipe_idem fun _ z => z]
theorem dl_lc {X : Cx} (own : List (Str × Nat)) (hN : X.N.Nodup) (hi : PID X tg iter di) (ho : OwnG X scope own tg dg) (ht : ∀ (s : Shared) (H : Hp) (C : Addr) (cl : List (Str × Addr)) (fp : List Addr), PTsD (X.blk s H scope (compEnvC scope cl C X.env) fp) ifs dt)
    (he : ∀ (s : Shared) (H : Hp) (C : Addr) (cl : List (Str × Addr)) (fp : List Addr), PED (X.blk s H scope (compEnvC scope cl C X.env) fp) elt de) (ok : blkC X.N X.env.scope scope own = true := by first | kernel_rfl | rfl) (hc : X.calm = true := by rfl)
    (hs : ∀ x, foldedSetIterable iter X.env x = pure x := by intro _; rfl) : PLD X (.ListComp elt [⟨tg, iter, ifs, 0⟩] scope pos) (dLc di dg dt de (own.map (·.2))) := by
  obtain ⟨wi, i1, i2⟩ := hi.ex
  obtain ⟨g, g1, g2, g3⟩ := ho.ex
  exact ⟨_, pe_lc (tt := ttOf X.K dt) (te := teOf X.K de) hc hN i1 (blkOk_by ok) g3 (fun s H C cl fp => (ht s H C cl fp).pts) (fun s H C cl fp => (he s H C cl fp).pe) hs, snd_lc i2 g1 g2 snd_ttOf snd_teOf⟩
theorem ds_setLc {X : Cx} (i : Nat) (own : List (Str × Nat)) {y : Str} {py : Pos} (hN : X.N.Nodup) (hi : PID X tg iter di) (ho : OwnG X scope own tg dg) (ht : ∀ (s : Shared) (H : Hp) (C : Addr) (cl : List (Str × Addr)) (fp : List Addr), PTsD (X.blk s H scope (compEnvC scope cl C X.env) fp) ifs dt)
    (he : ∀ (s : Shared) (H : Hp) (C : Addr) (cl : List (Str × Addr)) (fp : List Addr), PED (X.blk s H scope (compEnvC scope cl C X.env) fp) elt de) (ok : blkC X.N X.env.scope scope own = true := by first | kernel_rfl | rfl) (hc : X.calm = true := by rfl)
    (hy : X.N[i]? = some y := by rfl) (hyl : X.env.scope.names.lookup y = some .local := by rfl) (hsw : swapsWith (.ListComp elt [⟨tg, iter, ifs, 0⟩] scope pos) (some (.Name y py)) spos.line X.env = pure true := by exact sw_true rfl rfl rfl (by decide +kernel))
    (hs : ∀ x, foldedSetIterable iter X.env x = pure x := by intro _; rfl) : PSD X (.Assign [.Name y py] (.ListComp elt [⟨tg, iter, ifs, 0⟩] scope pos) spos) (dAsg (dNew (dLc di dg dt de (own.map (·.2)))) (gdName i)) := by
  obtain ⟨wi, i1, i2⟩ := hi.ex
  obtain ⟨g, g1, g2, g3⟩ := ho.ex
  refine ⟨_, ps_setLc (tt := ttOf X.K dt) (te := teOf X.K de) hc hN hy hyl hsw i1 (blkOk_by ok) g3 (fun s H C cl fp => (ht s H C cl fp).pts) (fun s H C cl fp => (he s H C cl fp).pe) hs, snd_asg ?_ (snd_gname i)⟩
  exact fun α σ H ρ μ Qd Q S E q post => snd_lc i2 g1 g2 snd_ttOf snd_teOf α σ H ρ μ _ Q S E q fun p k H' α' μ' xs g n a S' q' => post _ _ _ _ (.cell k) g S' (.cell a) (q' k n)
end
end Dl
/-! Dat5: operators and walks whatever the kind. -/
namespace Dl
open PySem PySem.Spec PyProof.Rows L2
variable {K : PySem.W.Frag} {α α1 : List Addr} {H H1 : Hp} {X : Cx}

/-- + of ints, texts, tuples, lists (a new list: a new cell) -/
def oPlus : D → D → Mu → DK → Prop := fun x y μ Q => match x, y with
  | .int i, .int j => Q (.int (i + j)) μ
  | .str i, .str j => i.length + j.length ≤ sizeLine ∧ Q (.str (i ++ j)) μ
  | .tup xs, .tup ys => xs.length + ys.length ≤ sizeLine ∧ Q (.tup (xs ++ ys)) μ
  | .cell j, .cell k => (match μ j, μ k with | some xs, some ys => xs.length + ys.length ≤ sizeLine ∧ ∀ n, μ n = none → Q (.cell n) (μ.upd n (xs ++ ys)) | _, _ => False)
  | _, _ => False
/-- .. and of lists where the answer is to be a fresh list -/
theorem PostL.of {Qd : DK} {Q : VK} (p : PostE K α H Qd Q) : PostL K α H (fun xs μ => ∀ n, μ n = none → Qd (.cell n) (μ.upd n xs)) Q :=
  fun a k H' α' μ' xs g n l S q => p _ _ _ _ (.cell k) g S (.cell l) (q k n)
theorem o_plus : OpD X (binaryOp .Add) oPlus := by
  obtain ⟨r1, a1, a2⟩ := (o_add (X := X)).ex
  obtain ⟨r3, c1, c2⟩ := (o_catT (X := X)).ex
  obtain ⟨r4, d1, d2⟩ := (o_catL (X := X)).ex
  refine ⟨_, OpR.or (OpR.or a1 op_add_str) (OpR.or c1 d1), fun α H μ x y dx dy Qd Q S rx ry h post => ?_⟩
  unfold oPlus at h
  split at h
  · exact .inl (.inl (a2 α H μ x y _ _ Qd Q S rx ry h post))
  · cases rx; cases ry
    exact .inl (.inr ⟨_, _, rfl, rfl, h.1, post.here S (.str _) h.2⟩)
  · exact .inr (.inl (c2 α H μ x y _ _ Qd Q S rx ry h post))
  · rename_i j k
    refine .inr (.inr (d2 α H μ x y (.cell j) (.cell k) (fun xs μ => ∀ n, μ n = none → Qd (.cell n) (μ.upd n xs)) Q S rx ry ?_ (PostL.of post)))
    show (match μ j, μ k with | some xs, some ys => _ | _, _ => False)
    split at h
    · exact h
    · exact h.elim
  · exact h.elim
/-- * of ints, of a list and an int -/
def oTimes : D → D → Mu → DK → Prop := fun x y μ Q => match x, y with
  | .int i, .int j => MulOk i j ∧ Q (.int (i * j)) μ
  | .cell j, .int n => (match μ j with | some xs => (-(2 ^ 63) ≤ n ∧ n < 2 ^ 63 ∧ xs.length * n.toNat ≤ sizeLine) ∧ ∀ m, μ m = none → Q (.cell m) (μ.upd m (List.replicate n.toNat xs).flatten) | _ => False)
  | _, _ => False
theorem o_times : OpD X (binaryOp .Mult) oTimes := by
  obtain ⟨r1, a1, a2⟩ := (o_mul (X := X)).ex
  obtain ⟨r4, d1, d2⟩ := (o_rep (X := X)).ex
  refine ⟨_, OpR.or a1 d1, fun α H μ x y dx dy Qd Q S rx ry h post => ?_⟩
  unfold oTimes at h
  split at h
  · exact .inl (a2 α H μ x y _ _ Qd Q S rx ry h post)
  · rename_i j n
    refine .inr (d2 α H μ x y (.cell j) (.int n) (fun xs μ => ∀ n, μ n = none → Qd (.cell n) (μ.upd n xs)) Q S rx ry ?_ (PostL.of post))
    show (match μ j with | some xs => _ | _ => False)
    split at h
    · exact h
    · exact h.elim
  · exact h.elim
/-- xs[lo:hi], xs a tuple or a list (a new cell) -/
def dSl (de : DTE) (d1 d2 : DTO) : DTE := fun ρ μ Q => de ρ μ fun x μ1 => d1 ρ μ1 fun lo μ2 => d2 ρ μ2 fun hi μ3 => match x with
  | .tup xs => Q (.tup (cutD xs lo hi)) μ3
  | x => (match litems μ3 x with | some xs => ∀ n, μ3 n = none → Q (.cell n) (μ3.upd n (cutD xs lo hi)) | none => False)
theorem de_slice {e : Expr} {lo hi : Option Expr} {p2 pos : Pos} {de : DTE} {d1 d2 : DTO} (he : PED X e de) (h1 : POD X lo d1) (h2 : POD X hi d2) : PED X (.Subscript e (.Slice lo hi none p2) pos) (dSl de d1 d2) := by
  obtain ⟨te, a1, a2⟩ := he.ex
  obtain ⟨t1, b1, b2⟩ := h1.ex
  obtain ⟨t2, c1, c2⟩ := h2.ex
  refine ⟨_, pe_slice (SlR.or sl_tupA sl_list) a1 b1 c1, fun α σ H ρ μ Qd Q S E h post => a2 α σ H ρ μ _ _ S E h fun v H1 α1 μ1 d g1 s1 r1 q1 =>
    b2 α1 σ H1 ρ μ1 _ _ s1 (E.mono g1) q1 fun o1 H2 α2 μ2 g2 s2 q2 => c2 α2 σ H2 ρ μ2 _ _ s2 ((E.mono g1).mono g2) q2 fun o2 H3 α3 μ3 g3 s3 q3 => ?_⟩
  have post3 := post.mono ((g1.trans g2).trans g3)
  have r3 := (r1.mono g2).mono g3
  have lists : ∀ {xs : List D}, litems μ3 d = some xs → (∀ n, μ3 n = none → Qd (.cell n) (μ3.upd n (cutD xs o1 o2))) → rSlL X.K v o1 o2 H3 Q := by
    intro xs ex q
    obtain ⟨a, vs, rfl, hq, r⟩ := s3.list r3 ex
    exact ⟨a, vs, rfl, hq, fun p hp => (PostL.of post3).here s3 (r.cut o1 o2) q hp⟩
  cases r3 with
  | @tup a vs ds q r =>
    refine .inl ⟨a, vs, rfl, q, fun w => ?_, fun _ p hp => post3.tup s3 (r.cut o1 o2) q3 hp⟩
    have e : cutD ds o1 o2 = ds := cut_all ds _ _ (by rw [← r.length]; exact w.1) (by rw [← r.length]; exact w.2)
    dsimp only at q3
    rw [e] at q3
    exact post3.here s3 (.tup q r) q3
  | frz q r =>
    dsimp only [litems] at q3
    exact .inr (lists rfl q3)
  | @cell a k q =>
    dsimp only [litems] at q3
    split at q3
    · rename_i xs ex
      exact .inr (lists ex q3)
    · exact False.elim q3
  | _ => exact False.elim q3
/-- walked: a list or a tuple -/
def diSeq (de : DTE) : DTI := fun ρ μ Q => de ρ μ fun x μ1 => match x with
  | .tup ds => Q ⟨ds, []⟩ μ1
  | x => (match lsrc μ1 x with | some s => Q s μ1 | none => False)
def iSeq (K : PySem.W.Frag) (tl : TE) : TI := fun σ H R => tl σ H fun x H1 => ∃ a, x = .ref a ∧ (((∃ xs, SqL K H1 a xs) ∧ R (Itl K a) H1) ∨ ((∃ xs, SqT K H1 a xs) ∧ R (Itt K a) H1))
theorem pi_seq {tg l : Expr} {tl : TE} (hl : PE X l tl) : PI X tg l (iSeq X.K tl) := by
  refine ⟨fun pins s σ H R I h => thn (hl.run pins s σ H _ I h) fun v s1 w => ?_⟩
  obtain ⟨x, H1, I1, r1, a, e, q⟩ := w
  subst e
  obtain rfl : v = Value.ref a := r1
  have own : ∀ b ∈ [s1.heap.objs.size], FpOk X pins H1 b := by
    intro b hb
    obtain rfl : b = s1.heap.objs.size := List.mem_singleton.mp hb
    exact I1.fpOk (Nat.le_refl _) (I1.hok.fresh (Nat.le_refl _))
  rcases q with ⟨⟨xs, hq⟩, q⟩ | ⟨⟨xs, hq⟩, q⟩
  · obtain ⟨its, _, pl, _⟩ := I1.list hq
    exact wpAny_pyIter_list pl.isList ⟨_, [s1.heap.objs.size], _, _, H1, rfl, I1.kept (t' := s1.toks) (fun b o z => Heap.get?_push_of_some _ z), turn_list a _, ⟨_, Heap.get?_push_size _ rfl, rfl, rfl⟩, own, q⟩
  · obtain ⟨its, _, pl, _⟩ := I1.tuple hq
    exact wpAny_pyIter_tuple (show s1.heap.IsTuple a its.toArray from pl) ⟨_, [s1.heap.objs.size], _, _, H1, rfl, I1.kept (t' := s1.toks) (fun b o z => Heap.get?_push_of_some _ z), turn_tuple a _, ⟨_, Heap.get?_push_size _ rfl, rfl, rfl⟩, own, q⟩
theorem di_seq {tg l : Expr} {de : DTE} (h : PED X l de) : PID X tg l (diSeq de) := by
  obtain ⟨t1, a1, a2⟩ := h.ex
  refine ⟨_, pi_seq a1, fun α σ H ρ μ Qd R S e h post => a2 α σ H ρ μ _ _ S e h fun v H1 α1 μ1 d g1 S1 r1 q1 => ?_⟩
  cases r1 with
  | tup q r => exact ⟨_, rfl, .inr ⟨⟨_, q⟩, post _ _ _ _ _ g1 S1 held_nil (itt_tup q r) q1⟩⟩
  | frz q r => exact ⟨_, rfl, .inl ⟨⟨_, q.seq⟩, post _ _ _ _ _ g1 S1 held_nil (itl_frz q r) q1⟩⟩
  | @cell a k q =>
    dsimp only [lsrc] at q1
    cases ex : μ1 k with
    | none =>
      rw [ex] at q1
      exact False.elim q1
    | some xs =>
      rw [ex] at q1
      obtain ⟨b, vs, h1, h2, h3⟩ := S1.cell k xs ex
      rw [q] at h1
      cases h1
      exact ⟨_, rfl, .inl ⟨⟨_, .of h2⟩, post _ _ _ _ _ g1 S1 (held_one ex) (itl_cell q) q1⟩⟩
  | _ => exact False.elim q1
/-- len of a text, a list, a tuple -/
def cLen : List D → Mu → DK → Prop := fun ds μ Q => match ds with
  | [.str z] => z.length ≤ sizeLine ∧ Q (.int (z.length : Nat)) μ
  | [x] => (match items μ x with | some xs => Q (.int (xs.length : Nat)) μ | none => False)
  | _ => False
theorem c_len : CallD X (.builtin "len") cLen := by
  refine ⟨_, CallR.or call_len_str call_len_seq, fun α H μ vs ds Qd Q S r h post => ?_⟩
  unfold cLen at h
  split at h
  · rename_i z
    obtain ⟨v, rfl, r1⟩ := rl1 r
    cases r1
    exact .inl ⟨z, rfl, h.1, post.here S (.int _) h.2⟩
  · rename_i x _
    obtain ⟨v, rfl, r1⟩ := rl1 r
    split at h
    · rename_i xs ex
      obtain ⟨a, us, rfl, q, r2⟩ := S.seq r1 ex
      exact .inr ⟨a, us, rfl, q, by rw [r2.length]; exact post.here S (.int _) h⟩
    · exact h.elim
  · exact h.elim
/-- list(range(lo, hi)) -/
def dlRange (d1 d2 : DTE) : DTL := fun ρ μ Q => d1 ρ μ fun x μ1 => d2 ρ μ1 fun y μ2 => match x, y with
  | .int lo, .int hi => ((Rg lo ∧ Rg hi) ∧ (hi - lo).toNat ≤ 2 ^ 24) ∧ Q (rangeD lo hi) μ2
  | _, _ => False
theorem rl_range (lo hi : Int) : RlAll K α H (rgV lo hi) (rangeD lo hi) := by
  unfold rgV rangeD
  generalize List.range (hi - lo).toNat = l
  induction l with
  | nil => exact .nil
  | cons a l ih => exact .cons (.int _) ih
theorem dl_range {a b : Expr} {d1 d2 : DTE} {p pos p2 pos2 : Pos} (hm : X.mg "list" = none) (hm2 : X.mg "range" = none) (ha : PED X a d1) (hb : PED X b d2) (hc : X.calm = true := by rfl)
    (mk : ∀ {ta tb : TE}, X.mg "list" = none → X.mg "range" = none → PE X a ta → PE X b tb → PE X (.Call (.Name "list" p) [.Call (.Name "range" p2) [a, b] [] pos2] [] pos) (tLstRg (tRg2 ta tb)) := by intro _ _ z1 z2 u v; exact pe_listRg (by rfl) (by rfl) z1 (prg_2 (by rfl) z2 u v)) :
    PLD X (.Call (.Name "list" p) [.Call (.Name "range" p2) [a, b] [] pos2] [] pos) (dlRange d1 d2) := by
  obtain ⟨t1, a1, a2⟩ := ha.ex
  obtain ⟨t2, b1, b2⟩ := hb.ex
  refine ⟨_, mk hm hm2 a1 b1, fun α σ H ρ μ Qd Q S E h post => a2 α σ H ρ μ _ _ S E h fun v1 H1 α1 μ1 x g1 s1 r1 q1 => b2 α1 σ H1 ρ μ1 _ _ s1 (E.mono g1) q1 fun v2 H2 α2 μ2 y g2 s2 r2 q2 => ?_⟩
  split at q2
  · rename_i lo hi
    cases r1; cases r2
    obtain ⟨⟨⟨k1, k2⟩, k3⟩, q2⟩ := q2
    exact ⟨lo, hi, rfl, rfl, ⟨k1.1, k1.2, k2.1, k2.2, k3⟩, fun q hq => (post.mono (g1.trans g2)).here s2 (rl_range lo hi) q2 hq⟩
  · exact False.elim q2
/-- isinstance(x, (A, B)), built-in classes -/
def cIsi2 (a b : String) (de : DTE) : DTE := fun ρ μ Q => de ρ μ fun x μ1 => match tyD μ1 x with
  | some t => (match kitB t a, kitB t b with | some u, some v => 2 ≤ sizeLine ∧ Q (.bl (u || v)) μ1 | _, _ => False)
  | none => False
/-- a, b, .. = a tuple -/
theorem dg_tup {es : List Expr} {k n : Nat} {pos : Pos} {gs : DTGs} (h : PGsD X es gs) (mk : ∀ {t : TGs}, PGs X es t → PG X (.Tuple es k pos) (gTup X.K n t) := by intro _ a; exact pg_tup (by rfl) a) : PGD X (.Tuple es k pos) (gdTup n gs) := by
  obtain ⟨t, a, b⟩ := h.ex
  refine ⟨_, mk a, fun α σ H ρ μ v d Qd Q S e r h post => ?_⟩
  unfold gdTup at h
  split at h
  · rename_i ds
    cases r with
    | tup q r => exact ⟨_, _, rfl, q, by rw [r.length]; exact h.1, b α σ H ρ μ _ _ _ _ S e r h.2 post⟩
  · exact h.elim
theorem bt_abs : bootBuiltins "abs" = some (.builtin "abs") := by decide +kernel
theorem bt_max : bootBuiltins "max" = some (.builtin "max") := by decide +kernel
theorem bt_min : bootBuiltins "min" = some (.builtin "min") := by decide +kernel
theorem bt_sum : bootBuiltins "sum" = some (.builtin "sum") := by decide +kernel
theorem bt_all : bootBuiltins "all" = some (.builtin "all") := by decide +kernel
theorem bt_any : bootBuiltins "any" = some (.builtin "any") := by decide +kernel
theorem bt_len : bootBuiltins "len" = some (.builtin "len") := by decide +kernel
theorem bt_divmod : bootBuiltins "divmod" = some (.builtin "divmod") := by decide +kernel
theorem bt_isinstance : bootBuiltins "isinstance" = some (.builtin "isinstance") := by decide +kernel
theorem bt_repr : bootBuiltins "repr" = some (.builtin "repr") := by decide +kernel
theorem bt_sorted : bootBuiltins "sorted" = some (.builtin "sorted") := by decide +kernel
theorem bt_int : bootBuiltins "int" = some (.type "int") := by decide +kernel
theorem bt_bool : bootBuiltins "bool" = some (.type "bool") := by decide +kernel
theorem bt_str : bootBuiltins "str" = some (.type "str") := by decide +kernel
theorem bt_tuple : bootBuiltins "tuple" = some (.type "tuple") := by decide +kernel
theorem bt_list : bootBuiltins "list" = some (.type "list") := by decide +kernel
theorem bt_dict : bootBuiltins "dict" = some (.type "dict") := by decide +kernel
end Dl
/-! Dat6: enumerate over a tuple, too. -/
namespace Dl
open PySem PySem.Spec PyProof.Rows L2

/-- one argument: a thing whose walk begins with the object o -/
theorem enum1_meets {v : Value} {o : Obj} {G : Heap → Prop} (B : Begins v o G) :
    Meets (Builtin.«enumerate.__new__» ⟨[.type "enumerate", v], []⟩) (fun _ R s => G s.heap ∧
      R (.ok (.ret (.ref (s.heap.push o).objs.size))) { s with heap := (s.heap.push o).push { cls := .type "enumerate", data := .fields #[.none, .bool false, .ref s.heap.objs.size, rawInt 0, .none, .none] } }) :=
  .of_wp fun prog w A R s hh => by
    obtain ⟨hp, g, d, tk, os⟩ := s
    obtain ⟨g1, hh⟩ := hh
    have hsub := sub_enumerate
    have go : ∀ {A' : Around} {E : Value → Shared → Prop} {Q : Value → Shared → Prop}, Q (.ref hp.objs.size) ⟨hp.push o, g, d, tk, os⟩ → wpAny (model prog w) A' (pyIter v) Q E ⟨hp, g, d, tk, os⟩ :=
      fun q => B.iter prog w _ _ ⟨hp, g, d, tk, os⟩ _ g1 q
    wp_walk using go
    refine wpAny_stack_any fun st => wpAny_pure ?_
    split
    · rename_i c _ _ _ _ _
      cases (c == Value.type "enumerate") <;>
      · wp_walk using go
        exact ⟨_, rfl, hh⟩
    · wp_walk using go
      exact ⟨_, rfl, hh⟩
theorem enum1_call {P : Program} {w : World} {A : Around} {E : Value → Shared → Prop} {s : Shared} {v : Value} {o : Obj} {G : Heap → Prop} {Q : Value → Shared → Prop} (B : Begins v o G) (g : G s.heap)
    (hh : ∀ h', IsEnum h' (s.heap.objs.size + 1) s.heap.objs.size 0 .none → h'.get? s.heap.objs.size = some o → (∀ b ob, s.heap.get? b = some ob → h'.get? b = some ob) → Q (.ref (s.heap.objs.size + 1)) { s with heap := h' }) :
    wpAny (model P w) A (call (.type "enumerate") [v]) Q E s := by
  refine callType_new F.called_enumerate (by decide) (F.typeCall_enumerate_1 _) (F.newCall_enumerate_1 _) (fun ob => F.args_object_init_2 ob _) F.entry_enumerate_new (enum1_meets B) ⟨g, ?_⟩
  have z : (s.heap.push o).objs.size = s.heap.objs.size + 1 := Heap.size_push ..
  show _ ∧ _
  rw [z]
  have e0 := Heap.get?_push_size (s.heap.push o) (o := { cls := .type "enumerate", data := .fields #[.none, .bool false, .ref s.heap.objs.size, rawInt 0, .none, .none] }) rfl
  rw [z] at e0
  exact ⟨⟨_, e0, rfl⟩, hh _ e0 (Heap.get?_push_of_some _ (Heap.get?_push_size _ B.free)) fun b ob q => Heap.get?_push_of_some _ (Heap.get?_push_of_some _ q)⟩
/-- the items of the tuple at a, in new pairs with their places -/
def Iet (K : PySem.W.Frag) (a : Addr) : It :=
  ⟨fun i H => ∃ (xs : List V) (x : V), SqT K H a xs ∧ xs[i]? = some x, fun i H v H' => ∃ T x, v = .ref T ∧ H T = none ∧ H' = upd H T (.tup [.int (i : Nat), x]) ∧ ∀ xs, SqT K H a xs → xs[i]? = some x, fun i H => ∃ xs : List V, SqT K H a xs ∧ xs.length ≤ i⟩
/-- a tuple's walk that is through -/
theorem draws_done {P : Program} {w : World} {A : Around} (hh : A.handled = none) {it t : Addr} (hne : t ≠ it) {xs : Array Value} {m : Nat} (hm : xs[m]? = none) :
    Draws P w A it [it, t] m (fun i v => xs[i]? = some v) (fun i h => i = m ∧ h.IsTupleIter it t i ∧ h.IsTuple t xs) where
  live := fun _ _ st => let ⟨o, ho, _⟩ := st.2.1; ⟨o, ho⟩
  frame := fun _ _ _ st hk => ⟨st.1, st.2.1.at fun o e => hk it (by simp) o e, st.2.2.at fun o e => hk t (by simp) o e⟩
  item := fun i s Q E hi st hQ => absurd hi (by rw [st.1]; exact Nat.lt_irrefl _)
  done := fun s Q E st hE => wpAny_nextOf_tuple_end hh st.2.1 st.2.2 hm hE
theorem turn_enumT {P : Program} {w : World} {K : PySem.W.Frag} {elts : List Expr} {kk : Nat} {tpos : Pos} (a e it : Addr) (hae : e ≠ a) (hai : a ≠ it) :
    Turn P w K (.Tuple elts kk tpos) (Iet K a) [e, it] e (fun i h => (∃ old, IsEnum h e it ((i : Nat) : Int) old) ∧ h.IsTupleIter it a i ∧ e ≠ it) where
  mem := by simp
  obj := fun i h st b hb => by
    obtain ⟨⟨old, he⟩, ⟨o, ho, hc, hd⟩, _⟩ := st
    rcases (show b = e ∨ b = it by simpa using hb) with rfl | rfl
    · exact ⟨_, he, fun v q => nomatch q⟩
    · exact ⟨o, ho, fun v q => by rw [hd] at q; cases q⟩
  keep := fun i h h' st k => let ⟨⟨old, he⟩, hi, hne⟩ := st; ⟨⟨old, k e (by simp) _ he⟩, hi.at fun o q => k it (by simp) o q, hne⟩
  item := by
    rintro X rfl rfl rfl hc i pins s σ H E I hf ⟨⟨old, he⟩, hit, hne⟩ ⟨xs, x, hq, hx⟩
    obtain ⟨its, rv, p, hz⟩ := I.tuple hq
    obtain ⟨u, hu, ru⟩ := rv.get hx
    have hel : e < s.heap.objs.size := Heap.lt_size he
    have hil : it < s.heap.objs.size := by obtain ⟨_, q, _⟩ := hit; exact Heap.lt_size q
    have hi : i < its.toArray.size := by
      rw [List.size_toArray]
      exact (List.getElem?_eq_some_iff.mp hu).1
    refine wpAny_pyNext_enum_itemD (Draws.tuple (A := X.A.in1) (I.ok.hd hc) it a hai its.toArray) he ⟨hit, p⟩ hi hne (by simp [hne, hae]) fun y h' tk hy ho st' hT hsz hk => ?_
    have ey : y = u := by
      have hy : its.toArray[i]? = some y := hy
      rw [List.getElem?_toArray, hu] at hy
      exact (Option.some.inj hy).symm
    subst ey
    refine ⟨_, rfl, wpAny_letOwnedTupleGo_enum (s := { s with heap := h', toks := tk + 1 }) ho fun h'' he' sb => ?_⟩
    have hT2 : h''.get? s.heap.objs.size = some { cls := .type "tuple", data := .seq #[.int i tk, y] } := (sb.2 _ (Nat.ne_of_gt hel)).trans hT
    have new : ObjOk X.prog X.w (upd H s.heap.objs.size (.tup [.int (i : Nat), x])) h'' s.heap.objs.size (.tup [.int (i : Nat), x]) :=
      ⟨by show 2 ≤ sizeLine; decide, [.int i tk, y], .cons ⟨_, rfl⟩ (.cons ru .nil), ⟨_, hT2, rfl, _, rfl⟩⟩
    have I1 : Inv X pins σ (upd H s.heap.objs.size (.tup [.int (i : Nat), x])) { s with heap := h'', toks := tk + 1 } :=
      I.turnedNew (ch := [e, it]) (fun b ob hb q => (sb.2 b (fun z => hb (by simp [z]))).trans (hk b ob (fun z => hb (by simp [z])) (fun z => hb (by simp [z])) q)) hf (Nat.le_refl _) new
    refine ⟨.ref s.heap.objs.size, _, I1, rfl, ⟨_, x, rfl, I.hok.fresh (Nat.le_refl _), rfl, fun ys hy => by rw [I.tuple_inj hy hq]; exact hx⟩, ⟨⟨y, ?_⟩, st'.1.at fun o q => (sb.2 it (Ne.symm hne)).trans q, hne⟩, fun b hb => ?_⟩
    · rw [show ((i + 1 : Nat) : Int) = (i : Int) + 1 by omega]
      exact he'
    · have hb' : b < s.heap.objs.size := by
        rcases (show b = e ∨ b = it by simpa using hb) with rfl | rfl
        · exact hel
        · exact hil
      rw [upd_ne (Nat.ne_of_lt hb')]
      exact (hf b hb).1
  done := by
    rintro X rfl rfl rfl hc i pins s σ H E I hf ⟨⟨old, he⟩, hit, hne⟩ ⟨xs, hq, hx⟩
    obtain ⟨its, rv, p, hz⟩ := I.tuple hq
    obtain ⟨f0, f1, f2, f3, f4, f5⟩ := hf it (by simp)
    have hl := rv.length
    have hm : its.toArray[i]? = none := by
      rw [List.getElem?_toArray]
      exact List.getElem?_eq_none (by omega)
    exact wpAny_pyNext_enum_endD (draws_done (A := X.A.in1) (I.ok.hd hc) hai hm) he ⟨rfl, hit, p⟩ fun h' eb => ⟨rfl, I.turned (t' := s.toks) (fun b o hb q => eb b o hb q) f0 f1 f3 f4 f5⟩
  self := fun A i s Q E st h => let ⟨⟨_, he⟩, _⟩ := st; wpAny_pyIter_enum he h
def iEnumQ (K : PySem.W.Frag) (ta : TA) : TI := fun σ H R => ta σ H fun vs H1 => ∃ a, vs = [.ref a] ∧ (((∃ xs, SqL K H1 a xs) ∧ R (Ite K a) H1) ∨ ((∃ xs, SqT K H1 a xs) ∧ R (Iet K a) H1))
theorem pi_enumQ {X : Cx} {e : Expr} {ta : TA} {p pos tpos : Pos} {elts : List Expr} {kk : Nat} (hg : Gl X "enumerate") (hm : X.mg "enumerate" = none) (ha : PA X [e] ta) (hs : starEach [e] X.env = [(false, eval e X.env)] := by rfl) :
    PI X (.Tuple elts kk tpos) (.Call (.Name "enumerate" p) [e] [] pos) (iEnumQ X.K ta) := by
  refine ⟨fun pins s σ H R I h => Call_ (ld_blt I hg hm boot_enumerate (PyProof.Rows.callWith_type1 (thn (ha.run pos pins s σ H _ I h) fun us s1 w => ?_) hs rfl))⟩
  obtain ⟨vs, H1, I1, r1, a, rfl, q⟩ := w
  obtain ⟨u, rfl, r⟩ : ∃ u, us = [u] ∧ RelV (.ref a) u := by
    cases r1 with
    | cons r rr =>
      cases rr
      exact ⟨_, rfl, r⟩
  obtain rfl : u = Value.ref a := r
  have own : ∀ b ∈ [s1.heap.objs.size + 1, s1.heap.objs.size], FpOk X pins H1 b := by
    intro b hb
    have le : s1.heap.objs.size ≤ b := by
      rcases (show b = s1.heap.objs.size + 1 ∨ b = s1.heap.objs.size by simpa using hb) with rfl | rfl
      · exact Nat.le_succ _
      · exact Nat.le_refl _
    exact I1.fpOk le (I1.hok.fresh le)
  rcases q with ⟨⟨xs, hq⟩, q⟩ | ⟨⟨xs, hq⟩, q⟩
  · obtain ⟨its, rv, pl, hz⟩ := I1.list hq
    exact enum1_call (begins_list a its.toArray) pl.isList fun h' he ho hk => wpAny_pyIter_enum he
      ⟨_, [s1.heap.objs.size + 1, s1.heap.objs.size], _, _, H1, rfl, I1.kept (t' := s1.toks) hk, turn_enum a _ _, ⟨⟨.none, he⟩, ⟨_, ho, rfl, rfl⟩, Nat.succ_ne_self _⟩, own, q⟩
  · obtain ⟨its, rv, pl, hz⟩ := I1.tuple hq
    have al : a < s1.heap.objs.size := by
      obtain ⟨o, e, _⟩ := (show s1.heap.IsTuple a its.toArray from pl)
      exact Heap.lt_size e
    exact enum1_call (begins_tuple a its.toArray) pl fun h' he ho hk => wpAny_pyIter_enum he
      ⟨_, [s1.heap.objs.size + 1, s1.heap.objs.size], _, _, H1, rfl, I1.kept (t' := s1.toks) hk, turn_enumT a _ _ (Nat.ne_of_gt (Nat.lt_succ_of_lt al)) (Nat.ne_of_lt al), ⟨⟨.none, he⟩, ⟨_, ho, rfl, rfl⟩, Nat.succ_ne_self _⟩, own, q⟩
/-- counted: a list or a tuple -/
def diEnum2 (de : DTE) : DTI := fun ρ μ Q => de ρ μ fun x μ1 => match x with
  | .tup ds => Q ⟨enumD ds, []⟩ μ1
  | x => (match lsrc μ1 x with | some s => Q ⟨enumD s.its, s.keep⟩ μ1 | none => False)
theorem ite_ok {X : Cx} {α : List Addr} {H : Hp} {a : Addr} {s : Src} (L : LOk X.K a s α H) : ItOk X.K (Ite X.K a) ⟨enumD s.its, s.keep⟩ α H := ⟨fun α' H' μ' g S' hd' => by
  obtain ⟨ws, q', r'⟩ := L.ok α' H' μ' g S' hd'
  have len : (enumD s.its).length = ws.length := by rw [enumD_len, r'.length]
  refine ⟨fun i hi => ?_, fun i hi => ?_, fun i d v H2 hg hy => ?_⟩
  · have hi : i < (enumD s.its).length := hi
    rw [len] at hi
    exact ⟨ws, ws[i], q', by simp⟩
  · have hi : (enumD s.its).length ≤ i := hi
    rw [len] at hi
    exact ⟨ws, q', hi⟩
  · obtain ⟨x, hx, rfl⟩ := enumD_get hg
    obtain ⟨T, y, rfl, hT, rfl, hy⟩ := hy
    obtain ⟨w, hw, rw'⟩ := r'.get hx
    have e2 := hy ws q'
    rw [hw] at e2
    cases e2
    exact new_pair S' (.int _) rw' hT⟩
theorem iet_ok {X : Cx} {α : List Addr} {H : Hp} {a : Addr} {vs : List V} {ds : List D} (q : SqT X.K H a vs) (r : RlAll X.K α H vs ds) : ItOk X.K (Iet X.K a) ⟨enumD ds, []⟩ α H := ⟨fun α' H' μ' g S' hd' => by
  have q' := g.ext.seqT q
  have r' := r.mono g
  have len : (enumD ds).length = vs.length := by rw [enumD_len, r'.length]
  refine ⟨fun i hi => ?_, fun i hi => ?_, fun i d v H2 hg hy => ?_⟩
  · have hi : i < (enumD ds).length := hi
    rw [len] at hi
    exact ⟨vs, vs[i], q', by simp⟩
  · have hi : (enumD ds).length ≤ i := hi
    rw [len] at hi
    exact ⟨vs, q', hi⟩
  · obtain ⟨x, hx, rfl⟩ := enumD_get hg
    obtain ⟨T, y, rfl, hT, rfl, hy⟩ := hy
    obtain ⟨w, hw, rw'⟩ := r'.get hx
    have e2 := hy vs q'
    rw [hw] at e2
    cases e2
    exact new_pair S' (.int _) rw' hT⟩
theorem di_enum2 {X : Cx} {e : Expr} {de : DTE} {p pos tpos : Pos} {elts : List Expr} {kk : Nat} (hm : X.mg "enumerate" = none) (he : PED X e de) (hg : Gl X "enumerate" := by rfl) (hs : starEach [e] X.env = [(false, eval e X.env)] := by rfl) (hs1 : starEach [e] X.env = (false, eval e X.env) :: starEach [] X.env := by rfl) :
    PID X (.Tuple elts kk tpos) (.Call (.Name "enumerate" p) [e] [] pos) (diEnum2 de) := by
  obtain ⟨t1, a1, a2⟩ := he.ex
  refine ⟨_, pi_enumQ hg hm (pa_cons a1 pa_nil hs1) hs, fun α σ H ρ μ Qd R S en h post => a2 α σ H ρ μ _ _ S en h fun v H1 α1 μ1 d g1 S1 r1 q1 => ?_⟩
  have lists : ∀ {s : Src}, lsrc μ1 d = some s → Qd ⟨enumD s.its, s.keep⟩ μ1 → ∃ a, [v] = [V.ref a] ∧ (((∃ xs, SqL X.K H1 a xs) ∧ R (Ite X.K a) H1) ∨ ((∃ xs, SqT X.K H1 a xs) ∧ R (Iet X.K a) H1)) := by
    intro s es q
    obtain ⟨hd, a, vs, rfl, q0, L⟩ := lok_of S1 r1 es
    exact ⟨a, rfl, .inl ⟨⟨vs, q0⟩, post _ _ _ _ ⟨enumD s.its, s.keep⟩ g1 S1 hd (ite_ok L) q⟩⟩
  cases r1 with
  | tup q r => exact ⟨_, rfl, .inr ⟨⟨_, q⟩, post _ _ _ _ ⟨enumD _, []⟩ g1 S1 held_nil (iet_ok q r) q1⟩⟩
  | frz q r => exact lists rfl q1
  | @cell a k q =>
    dsimp only [lsrc] at q1 lists
    cases ex : μ1 k with
    | none =>
      rw [ex] at q1
      exact False.elim q1
    | some xs =>
      rw [ex] at q1 lists
      exact lists rfl q1
  | _ => exact False.elim q1
/-- three names at once -/
def dPar3 (i j l : Nat) (da : DTA) : DTS := fun D ρ μ => da ρ μ fun ds μ1 => match ds with | [u, v, w] => D.nx (((ρ.set i (some u)).set j (some v)).set l (some w)) μ1 | _ => False
theorem ds_par3 {X : Cx} (i j l : Nat) {x y z : Str} {a b c : Expr} {da : DTA} {px py pz pt pos : Pos} {kt k2 pt2} (hN : X.N.Nodup) (ha : PAD X [a, b, c] da) (hc : X.calm = true := by rfl) (hi : X.N[i]? = some x := by rfl) (hj : X.N[j]? = some y := by rfl) (hl : X.N[l]? = some z := by rfl)
    (hij : i ≠ j := by decide) (hil : i ≠ l := by decide) (hjl : j ≠ l := by decide)
    (hx : X.env.scope.names.lookup x = some .local := by rfl) (hy : X.env.scope.names.lookup y = some .local := by rfl) (hz : X.env.scope.names.lookup z = some .local := by rfl)
    (hw : swappedStores [.Tuple [.Name x px, .Name y py, .Name z pz] kt pt] (.Tuple [a, b, c] k2 pt2) X.env = pure (some [x, y, z]) := by rfl)
    (hs : swapsWithSole [.Tuple [.Name x px, .Name y py, .Name z pz] kt pt] (.Tuple [a, b, c] k2 pt2) pos.line X.env = pure false := by rfl) :
    PSD X (.Assign [.Tuple [.Name x px, .Name y py, .Name z pz] kt pt] (.Tuple [a, b, c] k2 pt2) pos) (dPar3 i j l da) := by
  obtain ⟨t1, a1, a2⟩ := ha.ex
  refine ⟨_, ps_par3 hc hN hi hj hl hij hil hjl hx hy hz a1 hw hs, fun α σ H ρ μ D E S e h post => a2 α σ H ρ μ _ _ S e h fun vs H' α' μ' ds g S' r h' => ?_⟩
  unfold dPar3 at h
  split at h'
  · cases r with
    | cons r1 r =>
      obtain ⟨v, w, rfl, r2, r3⟩ := rl2 r
      exact ⟨_, v, w, rfl, post.nx _ _ _ _ _ g S' ((((e.mono g).set r1).set r2).set r3) h'⟩
  · exact False.elim h'
end Dl
/-! Dat7: sorted over a list of tuples of ints. -/
namespace Dl
open PySem PySem.Spec PyProof.Rows L2 PySem.W

section
variable {prog : Program} {w : World} {A : Around} {E : Value → Shared → Prop} {s : Shared}
/-- tuple.__lt__, as the sort asks it of one kind of keys -/
theorem lt_one {v u : Value} {ns ms : List Int} {Q : Bool → Shared → Prop} (hu : A.units < cLine) (hv : TS.TupInts s.heap v ns) (hw : TS.TupInts s.heap u ms) (q : Q (HT.lexLt ns ms) s) : wpAny (model prog w) A (keyLt' oneType' v u) Q E s := by
  obtain ⟨a, xs, rfl, ⟨⟨c1, d1, dt1, sl1⟩, ga, hc, n1, hd⟩, ia⟩ := hv
  obtain ⟨b, ys, rfl, ⟨⟨c2, d2, dt2, sl2⟩, gb, hc2, n2, hd2⟩, ib⟩ := hw
  simp only at hc hd hc2 hd2
  subst hc hd hc2 hd2
  rw [keyLt'_oneType, oneLt'_eq]
  simp only [if_true]
  refine wpAny_bind (wpAny_cRoomFor hu ?_)
  refine wpAny_bind (wpAny_callSpecialIfBound?_slot (T := "tuple") ⟨_, ga, rfl⟩ PySem.F.slot_tuple_lt ?_)
  exact call_meets PySem.F.slot_tuple_lt ⟨_, ga, rfl⟩ PySem.F.entry_tuple_lt (PySem.F.args_tuple_lt_2 _ _) (HT.tuple_lt_ints a b xs ys n1 n2 d1 d2 sl1 sl2 ns ms ia ib) ⟨ga, gb, wpAny_truthy_bool q⟩
/-- .. of tuples, item by item -/
theorem lt_lex {b fin : Bool} {Q : Bool → Shared → Prop} : ∀ {xs ys : List Value} {ns ms : List Int} (i : Nat), IntsAre xs ns → IntsAre ys ms → fin = decide (ns.length < ms.length) → Q (HT.lexLt ns ms) s → PySem.W.KatLex prog w A b fin Q (xs.zip ys) i s
  | _, _, _, _, i, .nil, .nil, hf, q => by
    rw [HT.lexLt_nil_nil] at q
    subst hf
    exact PySem.W.kat_nil q
  | _, _, _, _, i, .nil, .cons y t r, hf, q => by
    rw [HT.lexLt_nil_cons] at q
    subst hf
    refine PySem.W.kat_nil ?_
    rw [decide_eq_true (by rw [List.length_nil, List.length_cons]; omega)]
    exact q
  | _, _, _, _, i, .cons x t r, .nil, hf, q => by
    rw [HT.lexLt_cons_nil] at q
    subst hf
    refine PySem.W.kat_nil ?_
    rw [decide_eq_false (by rw [List.length_nil, List.length_cons]; omega)]
    exact q
  | _, _, _, _, i, .cons x t r, .cons y u r', hf, q => by
    rw [HT.lexLt_cons] at q
    refine PySem.W.kat_cons (wpAny_eqBool_int ?_)
    by_cases e : x = y
    · subst e
      rw [if_pos rfl] at q
      rw [beq_self_eq_true]
      refine PySem.W.kat_yes (lt_lex (i + 1) r r' ?_ q)
      rw [hf, List.length_cons, List.length_cons]
      exact decide_eq_decide.mpr (by omega)
    · rw [if_neg e] at q
      rw [show (x == y) = false from beq_eq_false_iff_ne.mpr e]
      exact PySem.W.kat_no (TS.oneLt_ints _ q)
theorem lt_tups {b : Bool} {v u : Value} {ns ms : List Int} {Q : Bool → Shared → Prop} (hv : TS.TupInts s.heap v ns) (hw : TS.TupInts s.heap u ms) (q : Q (HT.lexLt ns ms) s) : wpAny (model prog w) A (keyLt' (tuples' b) v u) Q (fun _ _ => False) s := by
  obtain ⟨a, xs, rfl, ⟨o, ga, hc, n1, hd⟩, ia⟩ := hv
  obtain ⟨c, ys, rfl, ⟨o2, gb, hc2, n2, hd2⟩, ib⟩ := hw
  refine PySem.W.kat_lt ga hd gb hd2 ?_
  refine lt_lex 0 ia ib ?_ q
  have l1 := ia.length
  have l2 := ib.length
  rw [Array.length_toList] at l1 l2
  exact decide_eq_decide.mpr (by omega)
/-- all keys are tuples; the first is empty -/
theorem kind_emp {vs : List Value} {k : Value → List Int} {Q : SortKind → Shared → Prop} {v : Value} {rest : List Value} (e : vs = v :: rest) (h2 : 2 ≤ vs.length) (hv : ∀ u ∈ vs, TS.TupInts s.heap u (k u)) (h0 : k v = []) (h : Q oneType' s) :
    wpAny (model prog w) A (keyKind' vs.toArray) Q E s := by
  have ty : ∀ {M : Model}, ∀ u ∈ vs, Looks M s.heap (typeOf u) (.type "tuple") := by
    intro M u hm
    obtain ⟨a, xs, rfl, ⟨o, ga, hc, n1, hd⟩, ia⟩ := hv u hm
    rw [← hc]
    exact (Looks.ld ga).andThen .now
  have firsts : ∀ (us : List Value) {Q' : List (Option Value) → Shared → Prop}, (∀ u ∈ us, u ∈ vs) → (∀ rs, rs.length = us.length → (∀ u us', us = u :: us' → k u = [] → ∃ rs', rs = none :: rs') → Q' rs s) → wpAny (model prog w) A (us.mapM firstOfTuple') Q' E s := by
    intro us
    induction us with
    | nil =>
      intro Q' _ q
      rw [List.mapM_nil]
      exact wpAny_pure (q [] rfl fun u us' z => nomatch z)
    | cons u us ih =>
      intro Q' hm q
      rw [List.mapM_cons]
      refine wpAny_bind ?_
      rw [kas_first_eq]
      refine wpAny_bind ((ty u (hm u (List.mem_cons_self ..))).here ?_)
      rw [if_neg (by decide)]
      obtain ⟨a, xs, eu, ⟨o, ga, hc, n1, hd⟩, ia⟩ := hv u (hm u (List.mem_cons_self ..))
      rw [eu]
      refine wpAny_bind (listItems_at ga hd (wpAny_pure ?_))
      refine wpAny_bind (ih (fun z hz => hm z (List.mem_cons_of_mem _ hz)) fun rs hl _ => wpAny_pure ?_)
      refine q _ (by rw [List.length_cons, List.length_cons, hl]) fun u' us' z hk => ?_
      obtain ⟨rfl, rfl⟩ := List.cons.inj z
      rw [hk] at ia
      have : xs.size = 0 := by
        have := ia.length
        rw [Array.length_toList] at this
        exact this
      exact ⟨rs, by rw [Array.getElem?_eq_none (by omega)]⟩
  rw [kat_kind_eq, List.mapM_toArray, map_eq_pure_bind]
  refine wpAny_bind (wpAny_bind (firsts vs (fun _ z => z) fun rs hl hh => wpAny_pure ?_))
  obtain ⟨rs', rfl⟩ := hh v rest e h0
  rw [if_neg (by simp), if_neg (by simp)]
  rw [oneTypeOnly'_eq, List.mapM_toArray, map_eq_pure_bind]
  refine wpAny_bind (wpAny_bind (wpAny_bind (kas_mapM (r := Value.type "tuple") _ (fun v hv Q' hq => (ty v hv).here hq) (wpAny_pure ?_))))
  have hall : ((List.map (fun _ => Value.type "tuple") vs).toArray.all fun x => x == Value.type "tuple") = true := by
    simp only [List.all_toArray, List.all_map, List.all_eq_true]
    intro _ _
    show (Value.type "tuple" == Value.type "tuple") = true
    decide +kernel
  have h0' : (List.map (fun _ => Value.type "tuple") vs).toArray[0]? = some (Value.type "tuple") := by rw [e]; simp
  rw [h0']
  simp only [hall, if_true]
  exact wpAny_pure (wpAny_pure h)
/-- which lists of tuples: all with an item at least, or the first is empty -/
def SrtMode (nss : List (List Int)) : Prop := (∀ ns ∈ nss, ns ≠ []) ∨ ∃ r, nss = [] :: r
theorem tups_sortable {a : Addr} {vs : List Value} {k : Value → List Int} (h2 : 2 ≤ vs.length) (hu : A.units < cLine) (hv : ∀ v ∈ vs, TS.TupInts s.heap v (k v)) (hm : SrtMode (vs.map k)) (ha : ∀ o, s.heap.get? a = some o → o.cls ≠ .type "tuple") :
    SrtO.SortableO prog w A s a vs fun v u => HT.lexLt (k v) (k u) := by
  intro h' keep
  have hv' : ∀ v ∈ vs, TS.TupInts h' v (k v) := fun v hm => (hv v hm).keeps fun b o e c => keep b o (fun z => by subst z; exact ha o e c) e
  rcases hm with hm | ⟨r, hm⟩
  · obtain ⟨fs, t, hl, hi⟩ : ∃ fs, PySem.W.KatTups h' vs fs ∧ fs.length = vs.length ∧ ∀ f, f ∈ fs → ∃ n t, f = Value.int n t := by
      clear h2 ha keep hv
      induction vs with
      | nil => exact ⟨[], PySem.W.KatTups.nil, rfl, fun f hf => nomatch hf⟩
      | cons v vs ih =>
        obtain ⟨fs, t, hl, hi⟩ := ih (fun u hu => hv' u (List.mem_cons_of_mem _ hu)) fun ns hn => hm ns (List.mem_cons_of_mem _ hn)
        obtain ⟨b, xs, rfl, ⟨o, gb, hc, n, hd⟩, ib⟩ := hv' v (List.mem_cons_self ..)
        have ne := hm (k (.ref b)) (List.mem_cons_self ..)
        obtain ⟨m, ms, em⟩ : ∃ m ms, k (.ref b) = m :: ms := by
          cases e : k (.ref b) with
          | nil => exact absurd e ne
          | cons m ms => exact ⟨m, ms, rfl⟩
        rw [em] at ib
        cases hx : xs.toList with
        | nil =>
          rw [hx] at ib
          cases ib
        | cons y ys =>
          rw [hx] at ib
          cases ib with
          | cons _ t2 _ =>
            refine ⟨_ :: fs, PySem.W.KatTups.cons gb hc hd (f := Value.int m t2) ?_ t, by simp [hl], fun f hf => ?_⟩
            · have z := congrArg (fun l : List Value => l[0]?) hx
              simpa using z
            · rcases List.mem_cons.mp hf with rfl | hf
              · exact ⟨_, _, rfl⟩
              · exact hi f hf
    refine ⟨tuples' true, fun Q E hq => ?_, fun p q hp hq => lt_tups (s := { s with heap := h' }) (hv' _ hp) (hv' _ hq) ⟨rfl, rfl⟩⟩
    refine PySem.W.kat_kind (T := .type "int") t (by omega) (fun f hm => ?_) (by rfl) ?_
    · obtain ⟨x, t, rfl⟩ := hi f hm
      exact PySem.W.Looks.of_pure rfl
    · have e : (Value.type "int" != Value.type "tuple") = true := by decide +kernel
      rw [e]
      exact hq
  · obtain ⟨v, rest, e⟩ : ∃ v rest, vs = v :: rest := by
      cases vs with
      | nil => simp at h2
      | cons v rest => exact ⟨v, rest, rfl⟩
    have h0 : k v = [] := by
      rw [e, List.map_cons] at hm
      exact (List.cons.inj hm).1
    exact ⟨oneType', fun Q E hq => kind_emp (s := { s with heap := h' }) e h2 hv' h0 hq, fun p q hp hq => lt_one (s := { s with heap := h' }) hu (hv' _ hp) (hv' _ hq) ⟨rfl, rfl⟩⟩
theorem sorted_tups {l : Addr} {vs : List Value} {k : Value → List Int} {Q : Value → Shared → Prop} (hu : A.units + 8 < cLine) (hl : s.heap.IsList l vs.toArray) (hz : vs.length ≤ sizeLine) (hp : ∀ v ∈ vs, TS.TupInts s.heap v (k v)) (hm : SrtMode (vs.map k))
    (h : ∀ (h' : Heap) (d : Addr) (out : List Value), out.Perm vs → out.Pairwise (fun v u => HT.lexLt (k u) (k v) = false) → (∀ b o, s.heap.get? b = some o → h'.get? b = some o) → s.heap.objs.size ≤ d → (∃ n, h'.get? d = some (seqObj "list" out.toArray n)) → Q (.ref d) { s with heap := h' }) :
    wpAny (model prog w) A (call (.builtin "sorted") [.ref l]) Q E s := by
  refine SrtO.sorted_ord (NtL.swo_lexL k) hl hz (fun h2 h₁ a ha kk => ?_) fun out hs hb => ?_
  · refine tups_sortable (s := { s with heap := h₁ }) h2 ?_ (fun v hm => (hp v hm).keeps fun b o e _ => (kk b o e).2) hm fun o e => ?_
    · show A.units + 1 + 1 < cLine
      omega
    · have e' : some o = some (seqObj "list" vs.toArray 0) := e.symm.trans ha
      cases e'
      intro c
      exact absurd (Value.type.inj c) (by decide)
  · exact h _ _ out hb.perm hs (fun b o e => sortedAll_old e) (Nat.le_succ _) (sortedAll_at s.heap vs out.toArray)
end
section
variable {X : Cx}
/-- sorted over a list of tuples of ints (with what each holds) -/
def rSortT (K : PySem.W.Frag) : List V → Hp → VK → Prop := fun vs H Q => ∃ (a : Addr) (ps : List (V × List Int)), vs = [.ref a] ∧ SqL K H a (ps.map (·.1)) ∧ (∀ p ∈ ps, ∃ t, p.1 = .ref t ∧ SqT K H t (p.2.map V.int)) ∧ SrtMode (ps.map (·.2)) ∧
  ∀ (out : List (V × List Int)) (q : Addr), out.Perm ps → out.Pairwise (fun x y => HT.lexLt y.2 x.2 = false) → H q = none → Q (.ref q) (upd H q (.lst (out.map (·.1))))
theorem cr_sortT (hu : X.A.units + 64 < cLine) : CallR X (.builtin "sorted") (rSortT X.K) := by
  intro pins s σ H vs us Q I r h
  obtain ⟨a, ps, rfl, hs, hp, hm, q⟩ := h
  obtain ⟨its, rv, hl, hz⟩ := I.list hs
  obtain ⟨u, rfl, ru⟩ := vals1 r
  obtain rfl : u = Value.ref a := ru
  -- each item's numbers are those that the heap holds
  have pair : ∀ (ps : List (V × List Int)) (its : List Value), (∀ p ∈ ps, ∃ t, p.1 = .ref t ∧ SqT X.K H t (p.2.map V.int)) → Vals (ps.map (·.1)) its →
      ps = its.map (fun u => (backV u, TS.intsOf s.heap u)) ∧ ∀ u ∈ its, TS.TupInts s.heap u (TS.intsOf s.heap u) ∧ ∃ t, u = Value.ref t := by
    intro ps
    induction ps with
    | nil =>
      intro its _ rv
      cases rv
      exact ⟨rfl, fun u hu => nomatch hu⟩
    | cons p ps ih =>
      intro its hp rv
      rw [List.map_cons] at rv
      cases rv with
      | cons r1 r2 =>
        obtain ⟨e1, e2⟩ := ih _ (fun z hz => hp z (List.mem_cons_of_mem _ hz)) r2
        obtain ⟨t, et, st⟩ := hp p (List.mem_cons_self ..)
        rw [et] at r1
        rename_i u us
        obtain rfl : u = Value.ref t := r1
        obtain ⟨its2, rv2, tp, _⟩ := I.tuple st
        have ti : TS.TupInts s.heap (.ref t) p.2 := ⟨t, its2.toArray, rfl, tp, intsAre_of rv2⟩
        have ei := ti.ints
        refine ⟨?_, fun u hu => ?_⟩
        · rw [List.map_cons, ← e1, ei]
          exact congrArg (· :: ps) (Prod.ext et rfl)
        · rcases List.mem_cons.mp hu with rfl | hu
          · rw [ei]
            exact ⟨ti, t, rfl⟩
          · exact e2 u hu
  obtain ⟨e1, e2⟩ := pair ps its hp rv
  have lz : its.length ≤ sizeLine := by rw [← rv.length]; exact hz
  refine sorted_tups (k := TS.intsOf s.heap) (by omega) hl.isList lz (fun v hv => (e2 v hv).1) ?_ fun h' d out hpm hso kp hd hn => ?_
  · rw [e1, List.map_map] at hm
    exact hm
  · obtain ⟨n, hn⟩ := hn
    have h3 : ∀ u ∈ out, ∃ a, u = Value.ref a := fun u hu => (e2 u (hpm.mem_iff.mp hu)).2
    have em : (out.map fun u => (backV u, TS.intsOf s.heap u)).map (·.1) = out.map backV := by rw [List.map_map]; rfl
    refine ⟨.ref d, upd H d (.lst ((out.map fun u => (backV u, TS.intsOf s.heap u)).map (·.1))), I.laid (t' := s.toks) kp hd ⟨?_, out, n, ?_, hn⟩, rfl, q _ d ?_ ?_ (I.hok.fresh hd)⟩
    · rw [em, List.length_map, hpm.length_eq]
      exact lz
    · rw [em]
      exact vals_back h3
    · rw [e1]
      exact hpm.map _
    · exact List.pairwise_map.mpr hso
/-! ### over data -/
def encI (ns : List Int) : D := .tup (ns.map D.int)
def sSrt : List D → Mu → (List D → Mu → Prop) → Prop := fun xs μ Q => ∃ nss : List (List Int), xs = nss.map encI ∧ SrtMode nss ∧ ∀ out : List (List Int), out.Perm nss → out.Pairwise (fun x y => HT.lexLt y x = false) → Q (out.map encI) μ
theorem rl_pairs {K : PySem.W.Frag} {α : List Addr} {H : Hp} : ∀ {out : List (V × List Int)}, (∀ p ∈ out, Rl K α H p.1 (encI p.2)) → RlAll K α H (out.map (·.1)) ((out.map (·.2)).map encI)
  | [], _ => .nil
  | p :: out, h => .cons (h p (List.mem_cons_self ..)) (rl_pairs fun z hz => h z (List.mem_cons_of_mem _ hz))
theorem pairs_rl {K : PySem.W.Frag} {α : List Addr} {H : Hp} : ∀ {nss : List (List Int)} {vs : List V}, RlAll K α H vs (nss.map encI) → ∃ ps : List (V × List Int), ps.map (·.1) = vs ∧ ps.map (·.2) = nss ∧ ∀ p ∈ ps, Rl K α H p.1 (encI p.2)
  | [], _, r => by
    cases r
    exact ⟨[], rfl, rfl, fun p hp => nomatch hp⟩
  | ns :: nss, _, r => by
    cases r with
    | cons a b =>
      obtain ⟨ps, e1, e2, h⟩ := pairs_rl b
      refine ⟨(_, ns) :: ps, by rw [List.map_cons, e1], by rw [List.map_cons, e2], fun p hp => ?_⟩
      rcases List.mem_cons.mp hp with rfl | hp
      · exact a
      · exact h p hp
theorem s_srt (hu : X.A.units + 64 < cLine) : SeqLD X (.builtin "sorted") false sSrt := ⟨_, cr_sortT hu, fun α H μ p vs xs Qd Q S q r h post => by
  obtain ⟨nss, rfl, hm, h⟩ := h
  obtain ⟨ps, e1, e2, hr⟩ := pairs_rl r
  refine ⟨p, ps, rfl, ?_, fun z hz => ?_, by rw [e2]; exact hm, fun out l hp ho hl => ?_⟩
  · rw [e1]
    exact q.resolve_right fun z => nomatch z.1
  · have rz := hr z hz
    obtain ⟨zv, zn⟩ := z
    unfold encI at rz
    cases rz with
    | tup q r => exact ⟨_, rfl, by rw [← RlAll.ints r]; exact q⟩
  · refine post.here S (rl_pairs fun z hz => hr z (hp.mem_iff.mp hz)) (h _ ?_ ?_) hl
    · rw [← e2]
      exact hp.map _
    · exact List.pairwise_map.mpr ho⟩
end
/-! ### sum over a list or a tuple -/
section
variable {X : Cx}
def rSumT (K : PySem.W.Frag) : List V → Hp → VK → Prop := fun vs H Q => ∃ (a : Addr) (ns : List Int), vs = [V.ref a] ∧ SqT K H a (ns.map V.int) ∧ Q (.int ns.sum) H
theorem cr_sumT (hc : X.calm = true) : CallR X (.builtin "sum") (rSumT X.K) := by
  intro pins s σ H vs us Q I r h
  obtain ⟨a, ns, rfl, hs, q⟩ := h
  obtain ⟨its, rv, hl, _⟩ := I.tuple hs
  rw [Vals.ref1 r]
  have hi : IntsAre its ns := rv.ints
  obtain ⟨xs, e⟩ := hi.allInts.items
  have hn : numsOf (intItems xs).toList = ns := by rw [← e]; exact hi.numsOf
  rw [nums_intItems] at hn
  rw [e] at hl
  refine PySem.W.ktm_sumG (I.ok.hd hc) hl fun h' tk t' hk => ?_
  rw [preSum_eq, List.take_of_length_le (by simp), hn]
  exact ⟨.int _, H, I.kept hk, ⟨_, rfl⟩, q⟩
theorem s_sum2 (hc : X.calm = true) : SeqD X (.builtin "sum") true sSum := ⟨_, CallR.or (cr_sum hc) (cr_sumT hc), fun α H μ p vs xs Qd Q S q r h post => by
  obtain ⟨ns, rfl, h⟩ := h
  have e := r.ints
  subst e
  rcases q with q | ⟨_, q⟩
  · exact .inl ⟨p, ns, rfl, q, post.here S (.int _) h⟩
  · exact .inr ⟨p, ns, rfl, q, post.here S (.int _) h⟩⟩
end
end Dl
/-! Se: set(tuple of ints) == set(list of ints), the same members, each once. -/
namespace Dl
open PySem PySem.Spec PyProof.Rows L2
theorem entry_set_eq : entryFor table "set.__eq__" = some Builtin.«frozenset.__eq__» := entryFor_alias (id' := "frozenset.__eq__") (by kernel_rfl) rfl (by decide +kernel) (by kernel_rfl)
theorem sub_set_frz : isSubtype (.type "set") (.type "frozenset") = pure false := by rw [isSubtype_type]; kernel_rfl
theorem forIn_same {β γ : Type} {M : Model} {A : Around} {E : Value → Shared → Prop} {s : Shared} (f : β → γ → Sem (ForInStep γ)) (c : γ) {Q : γ → Shared → Prop} : ∀ l : List β,
    (∀ e ∈ l, ∀ Q' : ForInStep γ → Shared → Prop, Q' (.yield c) s → wpAny M A (f e c) Q' E s) → Q c s → wpAny M A (ForIn.forIn l c f) Q E s
  | [], _, h => by
    rw [List.forIn_nil]
    exact wpAny_pure h
  | e :: l, hf, h => by
    rw [List.forIn_cons]
    exact wpAny_bind (hf e (List.mem_cons_self ..) _ (forIn_same f c l (fun x hx => hf x (List.mem_cons_of_mem _ hx)) h))
section
variable {P : Program} {w : World} {A : Around} {E : Value → Shared → Prop} {s : Shared} {a b : Addr} {S S2 : Int → Bool} {n m : Nat}
theorem size_of {Q : Nat → Shared → Prop} (R : s.heap.SetOf (intKind P w) a S n) (h : Q n s) : wpAny (model P w) A (Builtin.Frozenset.sizeOf a) Q E s := by
  obtain ⟨o, es, ep, t, ho, hx, hd, g, hm, hb, hf, hn⟩ := R
  unfold Builtin.Frozenset.sizeOf
  refine wpAny_bind (wpAny_setEntries_of ho hd hf (wpAny_pure ?_))
  rw [hn]
  exact h
theorem sub_at {id : String} {Q : Bool → Shared → Prop} (R : s.heap.SetOf (intKind P w) a S n) (R2 : s.heap.SetOf (intKind P w) b S2 m) (hn : n = m) (hS : ∀ k, S k = true → S2 k = true) (h : Q true s) : wpAny (model P w) A (Builtin.Frozenset.subsetOf id a b) Q E s := by
  unfold Builtin.Frozenset.subsetOf
  refine wpAny_bind (size_of R (wpAny_bind (size_of R2 ?_)))
  rw [if_neg (by omega)]
  have so := R2
  obtain ⟨o, es, ep, t, ho, hx, hd, g, hm, hb, hf, hn⟩ := R
  obtain ⟨o2, es2, ep2, t2, ho2, hx2, hd2, g2, hm2, hb2, hf2, hn2⟩ := R2
  refine wpAny_bind (wpAny_setEpoch_of ho hd hf ?_)
  unfold Builtin.Frozenset.walkUnseen
  refine wpAny_bind (wpAny_bind (wpAny_setEntries_of ho hd hf (wpAny_bind (wpAny_setEntries_of ho2 hd2 hf2 (wpAny_bind (forIn_same _ _ _ (fun e he Q' q => ?_) ?_))))))
  · have ge : e.2.scannable = true := by
      rcases List.mem_append.mp he with z | z
      · exact (g e z).2
      · exact (g2 e z).2
    obtain ⟨h0, x⟩ := e
    dsimp only at ge ⊢
    have qx : Builtin.Frozenset.quietEq x = pure true := by
      unfold Builtin.Frozenset.quietEq
      cases x <;> first | rfl | (simp [Value.scannable] at ge)
    rw [qx]
    exact wpAny_bind (wpAny_pure (wpAny_pure q))
  · refine wpAny_pure ?_
    refine wpAny_bind (forIn_same _ _ _ (fun e he Q' q => ?_) (wpAny_pure h))
    obtain ⟨⟨k, e1, e2⟩, e3⟩ := g e he
    have hk : S2 k = true := hS k ((hm k).mpr ⟨e, he, e1⟩)
    obtain ⟨h0, x⟩ := e
    dsimp only at e1 e2 e3 ⊢
    subst e2
    refine wpAny_bind (wpAny_holding (wpAny_setFind_of (knd := intKind P w) (k := k) e1 e3 so fun r hr => ?_))
    rw [hk] at hr
    have hn0 : r.isNone = false := by
      cases r with
      | none => cases hr
      | some _ => rfl
    rw [hn0]
    unfold Builtin.Frozenset.unchanged
    refine wpAny_bind (wpAny_bind (wpAny_setEpoch_of ho hd hf ?_))
    rw [if_neg (by simp)]
    exact wpAny_pure (wpAny_pure q)
theorem eq_body {Q : Value → Shared → Prop} (R : s.heap.SetOf (intKind P w) a S n) (R2 : s.heap.SetOf (intKind P w) b S2 m) (hn : n = m) (hS : ∀ k, S k = true → S2 k = true) (h : Q (.bool true) s) : wpAny (model P w) A (Builtin.«frozenset.__eq__» ⟨[.ref a, .ref b], []⟩) (fun fin s' => ∃ v, fin = .done (.ret v) ∧ Q v s') E s := by
  unfold Builtin.«frozenset.__eq__»
  have tb := R2.typeIs
  have ta := R.typeIs
  refine wpAny_bind (m := Builtin.Frozenset.slot1 _ _) (wpAny_pure ?_)
  refine wpAny_bind (m := Builtin.Frozenset.isAnySet _) ?_
  unfold Builtin.Frozenset.isAnySet orM
  refine wpAny_bind (wpAny_isInstance tb sub_set_self ?_)
  refine wpAny_pure ?_
  rw [if_neg (by decide)]
  unfold Builtin.Frozenset.addrOf
  refine wpAny_bind (m := Builtin.Frozenset.sizeOf a) (size_of R ?_)
  refine wpAny_bind (m := Builtin.Frozenset.sizeOf b) (size_of R2 ?_)
  refine wpAny_bind ?_
  rw [if_neg (by simpa using hn)]
  unfold andM
  refine wpAny_bind (wpAny_bind (wpAny_isInstance ta sub_set_frz ?_))
  refine wpAny_pure ?_
  exact sub_at R R2 hn hS (wpAny_pure ⟨_, rfl, h⟩)
theorem eq_sets {Q : Value → Shared → Prop} (R : s.heap.SetOf (intKind P w) a S n) (R2 : s.heap.SetOf (intKind P w) b S2 m) (hn : n = m) (hS : ∀ k, S k = true → S2 k = true) (hu : A.units < cLine) (h : Q (.bool true) s) : wpAny (model P w) A (compareOp .Eq (.ref a) (.ref b)) Q E s :=
  wpAny_richCompare_same_room (op := .Eq) R.typeIs R2.typeIs F.slot_set_eq (wpAny_call_entry F.slot_set_eq R.typeIs entry_set_eq (eq_body R R2 hn hS ⟨(fun e => nomatch e), h⟩) (F.args_set_eq_2 _ _)) hu
end
/-! ### over the layer -/
/-- the set at a holds just ns -/
def HoldsF (P : Program) (w : World) (h : Heap) (a : Addr) (ns : List Int) : Prop := ∃ S, h.SetOf (intKind P w) a S ns.length ∧ ∀ k, S k = true ↔ k ∈ ns
def SetF (P : Program) (w : World) (a : Addr) (ns : List Int) : HO := .ext fun h => HoldsF P w h a ns
theorem HoldsF.at {P : Program} {w : World} {h h' : Heap} {a : Addr} {ns : List Int} (R : HoldsF P w h a ns) (k : ∀ o, h.get? a = some o → h'.get? a = some o) : HoldsF P w h' a ns := by
  obtain ⟨S, ⟨o, es, ep, t, ho, r⟩, m⟩ := R
  exact ⟨S, ⟨o, es, ep, t, k o ho, r⟩, m⟩
section
variable {X : Cx}
theorem setF_new {w : World} {P : Program} {H : Hp} {h : Heap} {a : Addr} {ns : List Int} (R : HoldsF P w h a ns) : ObjOk P w H h a (SetF P w a ns) := by
  have ⟨S, ⟨o, _, _, _, ho, _⟩, _⟩ := R
  exact ⟨R, ⟨o, ho⟩, fun h1 h2 p k => HoldsF.at p k⟩
theorem setF_get {pins : List (Addr × Obj)} {σ : L2.St} {H : Hp} {s : Shared} {a : Addr} {ns : List Int} (I : Inv X pins σ H s) (ha : H a = some (SetF X.prog X.w a ns)) : HoldsF X.prog X.w s.heap a ns := (I.hok a _ ha).1
def rSetF (K : PySem.W.Frag) (P : Program) (w : World) : List V → Hp → VK → Prop := fun xs H Q => ∃ (l : Addr) (ns : List Int), xs = [.ref l] ∧ (SqL K H l (ns.map V.int) ∨ SqT K H l (ns.map V.int)) ∧ ns.Nodup ∧ ns.length ≤ 1000 ∧ ∀ p, H p = none → Q (.ref p) (upd H p (SetF P w p ns))
theorem cr_setF (hc : X.calm = true) : CallR X (.type "set") (rSetF X.K X.prog X.w) := by
  intro pins s σ H xs us Q I r h
  obtain ⟨l, ns, rfl, hq, hnd, hl, q⟩ := h
  rw [Vals.ref1 r]
  rcases hq with hq | hq
  · obtain ⟨its, rv, pl, hz⟩ := I.list hq
    have hlen : its.toArray.size = ns.length := by rw [List.size_toArray, ← rv.length, List.length_map]
    refine call_set_list (I.ok.hd hc) pl.isList (by simpa using RZ.intsAre_vals rv) (by rw [hlen]; unfold scanBound; omega) fun h' tk hS hk => ?_
    rw [hlen, RZ.firstMet_nodup hnd ns.length (Nat.le_refl _), List.take_length] at hS
    have new : HoldsF X.prog X.w h' s.heap.objs.size ns := ⟨_, hS, fun k => by
      rw [List.any_eq_true]
      exact ⟨fun ⟨y, hy, e⟩ => eq_of_beq e ▸ hy, fun z => ⟨k, z, beq_self_eq_true k⟩⟩⟩
    exact ⟨.ref _, upd H s.heap.objs.size (SetF X.prog X.w s.heap.objs.size ns), I.laid (t' := tk) (fun b u e => hk b u (Heap.lt_size e) e) (Nat.le_refl _) (setF_new new), rfl, q _ (I.hok.fresh (Nat.le_refl _))⟩
  · obtain ⟨its, rv, pt, hz⟩ := I.tuple hq
    have hi : IntsAre its.toArray.toList ns := ints_of_vals rv
    refine call_set_tupI ns (I.ok.hd hc) (show s.heap.IsTuple l its.toArray from pt) hi (by unfold scanBound; omega) fun h' tk c R1 hcn k => ?_
    have so := R1.setOf (P := X.prog)
    obtain ⟨o, es, ep, t, ho, hex, hdt, g, nd, hm2, hb, hf, hn, hr, hl2⟩ := R1
    have pm : (es.toList.map keyOf).Perm ns := (List.perm_ext_iff_of_nodup nd hnd).mpr fun j => by rw [← hm2 j, decide_eq_true_eq]
    have ec : c = ns.length := by
      have := pm.length_eq
      rw [List.length_map, Array.length_toList] at this
      omega
    subst ec
    have new : HoldsF X.prog X.w h' s.heap.objs.size ns := ⟨_, so, fun k => decide_eq_true_iff⟩
    exact ⟨.ref _, upd H s.heap.objs.size (SetF X.prog X.w s.heap.objs.size ns), I.laid (t' := tk) k (Nat.le_refl _) (setF_new new), rfl, q _ (I.hok.fresh (Nat.le_refl _))⟩
def rSetEq (P : Program) (w : World) : R2 := fun x y H Q => ∃ (a b : Addr) (ns ms : List Int), x = .ref a ∧ y = .ref b ∧ H a = some (SetF P w a ns) ∧ H b = some (SetF P w b ms) ∧ ns.length = ms.length ∧ (∀ k ∈ ns, k ∈ ms) ∧ Q (.bl true) H
theorem or_setEq (hu : X.A.units + 64 < cLine) : OpR X (compareOp .Eq) (rSetEq X.prog X.w) := by
  intro pins s σ H x y v u Q I rx ry h
  obtain ⟨a, b, ns, ms, rfl, rfl, ha, hb, hl, hs, q⟩ := h
  cases rx
  cases ry
  obtain ⟨S, so, m⟩ := setF_get I ha
  obtain ⟨S2, so2, m2⟩ := setF_get I hb
  exact eq_sets so so2 hl (fun k hk => (m2 k).mpr (hs k ((m k).mp hk))) (by omega) ⟨.bl true, H, I, rfl, q⟩
def dSetEq (d1 : DTE) (i : Nat) : DTE := fun ρ μ Q => d1 ρ μ fun x μ1 => match ρ[i]? with
  | some (some d) => ∃ ns ms : List Int, items μ1 x = some (ns.map D.int) ∧ items μ1 d = some (ms.map D.int) ∧ (ns.Nodup ∧ ms.Nodup ∧ ns.length ≤ 1000 ∧ ns.length = ms.length ∧ ∀ k ∈ ns, k ∈ ms) ∧ Q (.bl true) μ1
  | _ => False
theorem de_setEq {a : Expr} {y : Str} {d1 : DTE} {p p2 p3 q q2 pos : Pos} (i : Nat) (hc : X.calm = true) (hu : X.A.units + 64 < cLine) (hm : X.mg "set" = none) (ha : PED X a d1) (hN : X.N[i]? = some y := by rfl) (hv : Vis X.env.scope y := by first | exact Or.inl rfl | exact Or.inr (Or.inl rfl) | exact Or.inr (Or.inr rfl))
    (hd : (y == ("__debug__" : Str)) = false := by decide) (hcd : (y == ("__classdict__" : Str)) = false := by decide) (hg : Gl X "set" := by rfl) (he : starEach [a] X.env = (false, eval a X.env) :: starEach [] X.env := by rfl) (hpl : (backTo q (starEach [] X.env)).any (·.1) = false := by rfl) :
    PED X (.Compare (.Call (.Name "set" p) [a] [] q) [.Eq] [.Call (.Name "set" p2) [.Name y p3] [] q2] pos) (dSetEq d1 i) := by
  obtain ⟨ta, a1, a2⟩ := ha.ex
  refine ⟨_, pe_cmpR (or_setEq hu) (pe_callTy (cr_setF hc) hg hm PyProof.Rows.boot_set (pa_cons (hs := he) a1 pa_nil) (by decide) (by decide) he hpl) (pe_callTy (cr_setF hc) hg hm PyProof.Rows.boot_set (pa_cons (pe_var hN hv hd hcd) pa_nil)) (by first | exact nomark _ | rfl),
    fun α σ H ρ μ Qd Q S E h post => a2 α σ H ρ μ _ _ S E h fun v1 H1 α1 μ1 x1 g1 s1 r1 q1 => ?_⟩
  split at q1
  · rename_i d ed
    obtain ⟨ns, ms, i1, i2, ⟨n1, n2, l1, l2, sub⟩, q1⟩ := q1
    obtain ⟨b1, vs, rfl, sq1, ra⟩ := s1.seq r1 i1
    have ev := ra.ints
    subst ev
    refine ⟨b1, ns, rfl, sq1, n1, l1, fun p hp => ?_⟩
    obtain ⟨v, h1, h2⟩ := (E.mono g1).2 i d ed
    have gp : Gr α1 H1 α1 (upd H1 p (SetF X.prog X.w p ns)) := gr_new hp
    have sp := s1.new (o := SetF X.prog X.w p ns) hp
    refine ⟨v, h1, ?_⟩
    obtain ⟨b2, vs2, rfl, sq2, rb⟩ := sp.seq (h2.mono gp) i2
    have ev2 := rb.ints
    subst ev2
    refine ⟨b2, ms, rfl, sq2, n2, by omega, fun p2 hp2 => ?_⟩
    have ne : p ≠ p2 := fun z => by
      rw [← z, L2.upd_same] at hp2
      cases hp2
    refine ⟨p, p2, ns, ms, rfl, rfl, by rw [L2.upd_ne ne]; exact L2.upd_same, L2.upd_same, l2, sub, ?_⟩
    exact post _ _ α1 μ1 (.bl true) (g1.trans (gp.trans (gr_new hp2))) (sp.new hp2) (.bl true) q1
  · exact q1.elim
end
/-! ### zip of two tuples, or two lists -/
def diZip2 (d1 d2 : DTE) : DTI := fun ρ μ Q => d1 ρ μ fun x μ1 => d2 ρ μ1 fun y μ2 => match x with
  | .tup xs => (match y with | .tup ys => Q ⟨zipD xs ys, []⟩ μ2 | _ => False)
  | x => (match lsrc μ2 x, lsrc μ2 y with | some s, some t => Q ⟨zipD s.its t.its, s.keep ++ t.keep⟩ μ2 | _, _ => False)
theorem izt_ok {X : Cx} {α : List Addr} {H : Hp} {a b : Addr} {vs us : List V} {ds es : List D} (q : SqT X.K H a vs) (r : RlAll X.K α H vs ds) (q2 : SqT X.K H b us) (r2 : RlAll X.K α H us es) : ItOk X.K (RZ.ItzT X.K a b) ⟨zipD ds es, []⟩ α H := ⟨fun α' H' μ' g S' hd' => by
  have k1 := g.ext.seqT q
  have k2 := r.mono g
  have m1 := g.ext.seqT q2
  have m2 := r2.mono g
  have len : (zipD ds es).length = min vs.length us.length := by
    unfold zipD
    rw [List.length_zipWith, k2.length, m2.length]
  refine ⟨fun i hi => ?_, fun i hi => ?_, fun i d v H3 hg hy => ?_⟩
  · have hi : i < (zipD ds es).length := hi
    rw [len] at hi
    exact ⟨vs, us, vs[i]'(by omega), us[i]'(by omega), k1, m1, by simp, by simp⟩
  · have hi : (zipD ds es).length ≤ i := hi
    rw [len] at hi
    exact ⟨vs, us, k1, m1, by omega⟩
  · obtain ⟨x, y, hx, hz, rfl⟩ := zipD_get hg
    obtain ⟨T, x1, x2, rfl, hT, rfl, hy1, hy2⟩ := hy
    obtain ⟨w1, hw1, rw1⟩ := k2.get hx
    obtain ⟨w2, hw2, rw2⟩ := m2.get hz
    have e1 := hy1 vs k1
    have e2 := hy2 us m1
    rw [hw1] at e1
    rw [hw2] at e2
    cases e1; cases e2
    exact new_pair S' rw1 rw2 hT⟩
theorem izl_ok {X : Cx} {α : List Addr} {H : Hp} {a b : Addr} {s t : Src} (L : LOk X.K a s α H) (L' : LOk X.K b t α H) : ItOk X.K (Itz X.K a b) ⟨zipD s.its t.its, s.keep ++ t.keep⟩ α H := ⟨fun α' H' μ' g S' hd' => by
  obtain ⟨ws, k1, k2⟩ := L.ok α' H' μ' g S' (fun p hp => hd' p (List.mem_append.mpr (.inl hp)))
  obtain ⟨zs, m1, m2⟩ := L'.ok α' H' μ' g S' (fun p hp => hd' p (List.mem_append.mpr (.inr hp)))
  have len : (zipD s.its t.its).length = min ws.length zs.length := by
    unfold zipD
    rw [List.length_zipWith, k2.length, m2.length]
  refine ⟨fun i hi => ?_, fun i hi => ?_, fun i d v H3 hg hy => ?_⟩
  · have hi : i < (zipD s.its t.its).length := hi
    rw [len] at hi
    exact ⟨ws, zs, ws[i]'(by omega), zs[i]'(by omega), k1, m1, by simp, by simp⟩
  · have hi : (zipD s.its t.its).length ≤ i := hi
    rw [len] at hi
    exact ⟨ws, zs, k1, m1, by omega⟩
  · obtain ⟨x, y, hx, hz, rfl⟩ := zipD_get hg
    obtain ⟨T, x1, x2, rfl, hT, rfl, hy1, hy2⟩ := hy
    obtain ⟨w1, hw1, rw1⟩ := k2.get hx
    obtain ⟨w2, hw2, rw2⟩ := m2.get hz
    have e1 := hy1 ws k1
    have e2 := hy2 zs m1
    rw [hw1] at e1
    rw [hw2] at e2
    cases e1; cases e2
    exact new_pair S' rw1 rw2 hT⟩
theorem di_zip2 {X : Cx} {e e2 : Expr} {d1 d2 : DTE} {p pos tpos : Pos} {elts : List Expr} {kk : Nat} (hm : X.mg "zip" = none) (he : PED X e d1) (he2 : PED X e2 d2) (hg : Gl X "zip" := by rfl)
    (hs : starEach [e, e2] X.env = (false, eval e X.env) :: starEach [e2] X.env := by rfl) (hs2 : starEach [e2] X.env = (false, eval e2 X.env) :: starEach [] X.env := by rfl) (hpl : (backTo pos (starEach [e2] X.env)).any (·.1) = false := by rfl) :
    PID X (.Tuple elts kk tpos) (.Call (.Name "zip" p) [e, e2] [] pos) (diZip2 d1 d2) := by
  obtain ⟨t1, a1, a2⟩ := he.ex
  obtain ⟨t2, b1, b2⟩ := he2.ex
  refine ⟨_, RZ.pi_zipA hg hm (pa_cons a1 (pa_cons b1 pa_nil hs2) hs) hs hpl, fun α σ H ρ μ Qd R S en h post => a2 α σ H ρ μ _ _ S en h fun v H1 α1 μ1 d g1 S1 r1 q1 => b2 α1 σ H1 ρ μ1 _ _ S1 (en.mono g1) q1 fun w H2 α2 μ2 dd g2 S2 r2 q2 => ?_⟩
  have lists : ∀ {s t : Src}, lsrc μ2 d = some s → lsrc μ2 dd = some t → Qd ⟨zipD s.its t.its, s.keep ++ t.keep⟩ μ2 → ∃ a b xs ys, [v, w] = [V.ref a, V.ref b] ∧ ((SqL X.K H2 a xs ∧ SqL X.K H2 b ys ∧ R (Itz X.K a b) H2) ∨ (SqT X.K H2 a xs ∧ SqT X.K H2 b ys ∧ R (RZ.ItzT X.K a b) H2)) := by
    intro s t es et q
    obtain ⟨hd, a, vs, rfl, q0, L⟩ := lok_of S2 (r1.mono g2) es
    obtain ⟨hd2, b, us, rfl, q', L'⟩ := lok_of S2 r2 et
    refine ⟨a, b, vs, us, rfl, .inl ⟨q0, q', post _ _ _ _ _ (g1.trans g2) S2 (fun p hp => ?_) (izl_ok L L') q⟩⟩
    rcases List.mem_append.mp hp with hp | hp
    · exact hd p hp
    · exact hd2 p hp
  have rr := r1.mono g2
  have rest : (match lsrc μ2 d, lsrc μ2 dd with | some s, some t => Qd ⟨zipD s.its t.its, s.keep ++ t.keep⟩ μ2 | _, _ => False) → ∃ a b xs ys, [v, w] = [V.ref a, V.ref b] ∧ ((SqL X.K H2 a xs ∧ SqL X.K H2 b ys ∧ R (Itz X.K a b) H2) ∨ (SqT X.K H2 a xs ∧ SqT X.K H2 b ys ∧ R (RZ.ItzT X.K a b) H2)) := by
    intro q
    split at q
    · rename_i s t es et
      exact lists es et q
    · exact q.elim
  cases rr with
  | tup q r =>
    cases r2 with
    | tup q' r' => exact ⟨_, _, _, _, rfl, .inr ⟨q, q', post _ _ _ _ ⟨zipD _ _, []⟩ (g1.trans g2) S2 held_nil (izt_ok q r q' r') q2⟩⟩
    | _ => exact False.elim q2
  | _ => exact rest q2
end Dl
/-! Op2: x in a list of nested data; is True. -/
namespace Dl
open PySem PySem.Spec PyProof.Rows L2
theorem u200 {k : Nat} {A : Around} (r : Room k A) : A.units + 200 < cLine := by have := r.un; omega
def deepIn (neg : Bool) (x y : D) (μ : Mu) (Q : DK) : Prop := ∃ p ps, Rs μ x p ∧ Rs μ y (.list ps) ∧ SeqAt.shaped p = true ∧ SeqAt.shaped (.list ps) = true ∧ Q (.bl (if neg then !(ps.any fun z => PyData.eqv z p) else ps.any fun z => PyData.eqv z p)) μ
def oIn2 (neg : Bool) : D → D → Mu → DK → Prop := fun x y μ Q => match x with
  | .int i => ∃ ns : List Int, items μ y = some (ns.map D.int) ∧ Q (.bl (if neg then !decide (i ∈ ns) else decide (i ∈ ns))) μ
  | x => deepIn neg x y μ Q
section
variable {X : Cx}
theorem snd_in2 (neg : Bool) {K : PySem.W.Frag} {r : R2} (hr : ∀ x y H Q, (∃ d ds, Dp K H x d ∧ Dp K H y (.list ds) ∧ SeqAt.shaped d = true ∧ SeqAt.shaped (.list ds) = true ∧ Q (.bl (if neg then !(ds.any fun z => PyData.eqv z d) else ds.any fun z => PyData.eqv z d)) H) → r x y H Q) : SndR K (fun x y H Q => rIn K neg x y H Q ∨ r x y H Q) (oIn2 neg) := fun α H μ x y dx dy Qd Q S rx ry h post => by
  unfold oIn2 at h
  split at h
  · exact .inl (snd_in neg α H μ x y _ dy Qd Q S rx ry h post)
  · obtain ⟨p, ps, h1, h2, h3, h4, h5⟩ := h
    exact .inr (hr _ _ _ _ ⟨p, ps, rx.dp S h1, ry.dp S h2, h3, h4, post.here S (.bl _) h5⟩)
theorem o_in2 (hu : X.A.units + 200 < cLine) : OpD X (compareOp .In) (oIn2 false) := ⟨_, OpR.or op_in_seq (op_inD (by omega)), snd_in2 false fun x y H Q h => h⟩
theorem o_notIn2 (hu : X.A.units + 200 < cLine) : OpD X (compareOp .NotIn) (oIn2 true) := ⟨_, OpR.or op_notIn_seq (op_notInD (by omega)), snd_in2 true fun x y H Q h => h⟩
def oIs2 : D → D → Mu → DK → Prop := fun x y μ Q => match y with
  | .bl b => (match x with | .bl a => Q (.bl (decide (a = b))) μ | _ => False)
  | y => oIsN x y μ Q
def oNot2 : D → D → Mu → DK → Prop := fun x y μ Q => match y with
  | .bl b => (match x with | .bl a => Q (.bl (!decide (a = b))) μ | _ => False)
  | y => oNotN x y μ Q
theorem o_is2 : OpD X (compareOp .Is) oIs2 := by
  obtain ⟨r, h1, h2⟩ := (o_isN (X := X)).ex
  refine ⟨_, OpR.or h1 op_isBl, fun α H μ x y dx dy Qd Q S rx ry h post => ?_⟩
  unfold oIs2 at h
  split at h
  · rename_i b
    split at h
    · cases rx; cases ry
      exact .inr ⟨_, _, rfl, rfl, post.here S (.bl _) h⟩
    · exact h.elim
  · exact .inl (h2 α H μ x y dx _ Qd Q S rx ry h post)
theorem o_not2 : OpD X (compareOp .IsNot) oNot2 := by
  obtain ⟨r, h1, h2⟩ := (o_notN (X := X)).ex
  refine ⟨_, OpR.or h1 op_notBl, fun α H μ x y dx dy Qd Q S rx ry h post => ?_⟩
  unfold oNot2 at h
  split at h
  · rename_i b
    split at h
    · cases rx; cases ry
      exact .inr ⟨_, _, rfl, rfl, post.here S (.bl _) h⟩
    · exact h.elim
  · exact .inl (h2 α H μ x y dx _ Qd Q S rx ry h post)
end
end Dl
namespace Dl
open PySem PySem.Spec PyProof.Rows L2
section
variable {X : Cx}
def cInt2 : List D → Mu → DK → Prop := fun ds μ Q => match ds with | [.int i] => Q (.int i) μ | [.bl b] => Q (.int (if b = true then 1 else 0)) μ | _ => False
theorem c_int2 : CallD X (.type "int") cInt2 := ⟨_, call_int1, fun α H μ vs ds Qd Q S r h post => by
  unfold cInt2 at h
  split at h
  · rename_i i
    obtain ⟨v, rfl, r1⟩ := rl1 r
    cases r1
    exact .inl ⟨i, rfl, post.here S (.int _) h⟩
  · rename_i b
    obtain ⟨v, rfl, r1⟩ := rl1 r
    cases r1
    exact .inr ⟨b, rfl, post.here S (.int _) h⟩
  · exact h.elim⟩
end
end Dl
/-! Zp: zip of two or three lists or tuples, in any mix. -/
namespace Dl
open PySem PySem.Spec PyProof.Rows L2
/-- k: a list, else a tuple -/
def SqK (k : Bool) (K : PySem.W.Frag) (H : Hp) (a : Addr) (xs : List V) : Prop := match k with | true => SqL K H a xs | false => SqT K H a xs
def ItK (k : Bool) (h : Heap) (it a : Addr) (i : Nat) : Prop := match k with | true => h.IsListIter it a i | false => h.IsTupleIter it a i
def obK (k : Bool) (a : Addr) : Obj := match k with
  | true => { cls := .type "list_iterator", data := .fields #[.ref a, .int 0 0] }
  | false => { cls := .type "tuple_iterator", data := .fields #[.ref a, .int 0 0] }
theorem itK_obj {k : Bool} {h : Heap} {it a : Addr} {i : Nat} (x : ItK k h it a i) : ∃ o, h.get? it = some o ∧ ∀ v, o.data ≠ .cell v := by
  cases k <;> (obtain ⟨o, e, _, d⟩ := x; exact ⟨o, e, fun v q => by rw [d] at q; cases q⟩)
theorem itK_at {k : Bool} {h h' : Heap} {it a : Addr} {i : Nat} (x : ItK k h it a i) (q : ∀ o, h.get? it = some o → h'.get? it = some o) : ItK k h' it a i := by
  cases k
  · exact Heap.IsTupleIter.at x q
  · exact Heap.IsListIter.at x q
theorem itK_new {k : Bool} {h : Heap} {it a : Addr} (e : h.get? it = some (obK k a)) : ItK k h it a 0 := by
  cases k <;> exact ⟨_, e, rfl, rfl⟩
theorem draws_doneL {P : Program} {w : World} {A : Around} (hh : A.handled = none) {it t : Addr} (hne : t ≠ it) {xs : Array Value} {m : Nat} (hm : xs[m]? = none) :
    Draws P w A it [it, t] m (fun i v => xs[i]? = some v) (fun i h => i = m ∧ h.IsListIter it t i ∧ h.IsList t xs) where
  live := fun _ _ st => let ⟨o, ho, _⟩ := st.2.1; ⟨o, ho⟩
  frame := fun _ _ _ st hk => ⟨st.1, st.2.1.at fun o e => hk it (by simp) o e, st.2.2.at fun o e => hk t (by simp) o e⟩
  item := fun i s Q E hi st hQ => absurd hi (by rw [st.1]; exact Nat.lt_irrefl _)
  done := fun s Q E st hE => wpAny_nextOf_list_end hh st.2.1 st.2.2 hm hE
section
variable {X : Cx} {pins : List (Addr × Obj)} {σ : L2.St} {H : Hp} {s : Shared} {a it : Addr} {k : Bool} {xs : List V}
theorem sqK_lt (I : Inv X pins σ H s) (h : SqK k X.K H a xs) : a < s.heap.objs.size := by
  cases k
  · obtain ⟨its, r, p, z⟩ := I.tuple h
    obtain ⟨o, e, _⟩ := (show s.heap.IsTuple a its.toArray from p)
    exact Heap.lt_size e
  · obtain ⟨its, r, p, z⟩ := I.list h
    exact p.lt
theorem sqK_inj {ys : List V} (I : Inv X pins σ H s) (h : SqK k X.K H a xs) (h' : SqK k X.K H a ys) : xs = ys := by
  cases k
  · exact I.tuple_inj h h'
  · exact I.list_inj h h'
/-- what a turn draws from it -/
theorem dr_item (hc : X.calm = true) (I : Inv X pins σ H s) (h : SqK k X.K H a xs) (hne : a ≠ it) : ∃ (its : List Value) (St : Nat → Heap → Prop), Vals xs its ∧ Draws X.prog X.w X.A.in1 it [it, a] its.length (fun i v => its[i]? = some v) St ∧
    (∀ i, ItK k s.heap it a i → St i s.heap) ∧ ∀ i h', St i h' → ItK k h' it a i := by
  cases k
  · obtain ⟨its, r, p, z⟩ := I.tuple h
    have D := Draws.tuple (prog := X.prog) (w := X.w) (A := X.A.in1) (I.ok.hd hc) it a hne its.toArray
    simp only [List.size_toArray, List.getElem?_toArray] at D
    exact ⟨its, _, r, D, fun i q => ⟨q, p⟩, fun i h' st => st.1⟩
  · obtain ⟨its, r, p, z⟩ := I.list h
    have D := Draws.list (prog := X.prog) (w := X.w) (A := X.A.in1) (I.ok.hd hc) it a hne its.toArray
    simp only [List.size_toArray, List.getElem?_toArray] at D
    exact ⟨its, _, r, D, fun i q => ⟨q, p.isList⟩, fun i h' st => st.1⟩
theorem dr_done {i : Nat} (hc : X.calm = true) (I : Inv X pins σ H s) (h : SqK k X.K H a xs) (hne : a ≠ it) (hle : xs.length ≤ i) (hit : ItK k s.heap it a i) : ∃ (Pv : Nat → Value → Prop) (St : Nat → Heap → Prop), Draws X.prog X.w X.A.in1 it [it, a] i Pv St ∧ St i s.heap := by
  cases k
  · obtain ⟨its, r, p, z⟩ := I.tuple h
    have l := r.length
    have hm : its.toArray[i]? = none := by rw [List.getElem?_toArray]; exact List.getElem?_eq_none (by omega)
    have D := draws_done (P := X.prog) (w := X.w) (A := X.A.in1) (I.ok.hd hc) hne hm
    exact ⟨_, _, D, rfl, hit, p⟩
  · obtain ⟨its, r, p, z⟩ := I.list h
    have l := r.length
    have hm : its.toArray[i]? = none := by rw [List.getElem?_toArray]; exact List.getElem?_eq_none (by omega)
    have D := draws_doneL (P := X.prog) (w := X.w) (A := X.A.in1) (I.ok.hd hc) hne hm
    exact ⟨_, _, D, rfl, hit, p.isList⟩
theorem begK (I : Inv X pins σ H s) (h : SqK k X.K H a xs) : ∃ G : Heap → Prop, Begins (.ref a) (obK k a) G ∧ G s.heap := by
  cases k
  · obtain ⟨its, r, p, z⟩ := I.tuple h
    exact ⟨_, begins_tuple a its.toArray, p⟩
  · obtain ⟨its, r, p, z⟩ := I.list h
    exact ⟨_, begins_list a its.toArray, p.isList⟩
end
/-! ### two -/
def Iz2 (K : PySem.W.Frag) (k1 k2 : Bool) (a b : Addr) : It :=
  ⟨fun i H => ∃ (xs ys : List V) (x y : V), SqK k1 K H a xs ∧ SqK k2 K H b ys ∧ xs[i]? = some x ∧ ys[i]? = some y,
    fun i H v H' => ∃ T x y, v = .ref T ∧ H T = none ∧ H' = upd H T (.tup [x, y]) ∧ (∀ xs, SqK k1 K H a xs → xs[i]? = some x) ∧ ∀ ys, SqK k2 K H b ys → ys[i]? = some y,
    fun i H => ∃ xs ys : List V, SqK k1 K H a xs ∧ SqK k2 K H b ys ∧ (xs.length ≤ i ∨ ys.length ≤ i)⟩
theorem nein {x p q : Nat} (h1 : x ≠ p) (h2 : x ≠ q) : x ∉ [p, q] := by
  simp only [List.mem_cons, List.not_mem_nil, or_false, not_or]
  exact ⟨h1, h2⟩
theorem neA {x y : Nat} (h : x < y ∨ y < x) : x ≠ y := by omega
theorem sep2 (I a b : Nat) (h1 : a < I) (h2 : b < I) : ZipSep2 (I + 4) (I + 2) (I + 3) I (I + 1) [I, a] [I + 1, b] := by
  constructor <;> first
    | exact List.mem_cons_self ..
    | (refine nein ?_ ?_ <;> (refine neA ?_; omega))
    | (refine neA ?_; omega)
theorem sep3 (I a b c : Nat) (h1 : a < I) (h2 : b < I) (h3 : c < I) : ZipSep3 (I + 5) (I + 3) (I + 4) I (I + 1) (I + 2) [I, a] [I + 1, b] [I + 2, c] := by
  constructor <;> first
    | exact List.mem_cons_self ..
    | (refine nein ?_ ?_ <;> (refine neA ?_; omega))
    | (refine neA ?_; omega)
theorem turn_z2 {P : Program} {w : World} {K : PySem.W.Frag} {elts : List Expr} {kk : Nat} {tpos : Pos} {k1 k2 : Bool} {a b z TI TO i1 i2 : Addr} (D : ZipSep2 z TI TO i1 i2 [i1, a] [i2, b]) (ne1 : a ≠ i1) (ne2 : b ≠ i2) :
    Turn P w K (.Tuple elts kk tpos) (Iz2 K k1 k2 a b) [z, TI, TO, i1, i2] z (fun i h => IsZip h z TI TO .none ∧ IsTupOf2 h TI (.ref i1) (.ref i2) ∧ (∃ x y, IsTupOf2 h TO x y) ∧ ItK k1 h i1 a i ∧ ItK k2 h i2 b i) where
  mem := by simp
  obj := fun i h st c hc => by
    obtain ⟨hz, hTI, ⟨x, y, hTO⟩, h1, h2⟩ := st
    have e' : c = z ∨ c = TI ∨ c = TO ∨ c = i1 ∨ c = i2 := by simpa using hc
    rcases e' with q | q | q | q | q
    · rw [q]; exact ⟨_, hz, fun v q => nomatch q⟩
    · rw [q]; exact ⟨_, hTI, fun v q => nomatch q⟩
    · rw [q]; exact ⟨_, hTO, fun v q => nomatch q⟩
    · rw [q]; exact itK_obj h1
    · rw [q]; exact itK_obj h2
  keep := fun i h h' st k => by
    obtain ⟨hz, hTI, ⟨x, y, hTO⟩, h1, h2⟩ := st
    exact ⟨k z (by simp) _ hz, k TI (by simp) _ hTI, ⟨x, y, k TO (by simp) _ hTO⟩, itK_at h1 fun o q => k i1 (by simp) o q, itK_at h2 fun o q => k i2 (by simp) o q⟩
  item := by
    intro X hP hw hK hc i pins s σ H E I hf st hg
    subst hP hw hK
    obtain ⟨hz, hTI, ⟨x0, y0, hTO⟩, h1, h2⟩ := st
    obtain ⟨xs, ys, x, y, hqx, hqy, hx, hy⟩ := hg
    obtain ⟨its, St1, rv, D1, s1, t1⟩ := dr_item (it := i1) hc I hqx ne1
    obtain ⟨its2, St2, rv2, D2, s2, t2⟩ := dr_item (it := i2) hc I hqy ne2
    have hzl : z < s.heap.objs.size := Heap.lt_size hz
    have lx := rv.length
    have ly := rv2.length
    refine wpAny_pyNext_zipD2_item D D1 D2 hz hTI hTO (s1 i h1) (s2 i h2) (by have := (List.getElem?_eq_some_iff.mp hx).1; omega) (by have := (List.getElem?_eq_some_iff.mp hy).1; omega) fun u u2 h' tk hu hu2 z' TO' h1' h2' hT hsz hk => ?_
    obtain ⟨v, hv, ru⟩ := rv.get hx
    obtain ⟨v2, hv2, ru2⟩ := rv2.get hy
    rw [hv] at hu
    rw [hv2] at hu2
    cases hu
    cases hu2
    refine ⟨_, rfl, wpAny_letOwnedTupleGo_zip (s := { s with heap := h', toks := tk }) z' fun h'' z'' sb => ?_⟩
    have hT2 : h''.get? s.heap.objs.size = some { cls := .type "tuple", data := .seq #[u, u2] } := (sb.2 _ (Nat.ne_of_gt hzl)).trans hT
    have new : ObjOk X.prog X.w (upd H s.heap.objs.size (.tup [x, y])) h'' s.heap.objs.size (.tup [x, y]) :=
      ⟨by show 2 ≤ sizeLine; decide, [u, u2], .cons ru (.cons ru2 .nil), ⟨_, hT2, rfl, _, rfl⟩⟩
    have I1 : Inv X pins σ (upd H s.heap.objs.size (.tup [x, y])) { s with heap := h'', toks := tk } :=
      I.turnedNew (t' := tk) (ch := [z, TI, TO, i1, i2]) (fun c o hb q => (sb.2 c (fun q' => hb (by simp [q']))).trans (hk c o (fun q' => hb (by simp [q'])) (fun q' => hb (by simp [q'])) (fun q' => hb (by simp [q'])) (fun q' => hb (by simp [q'])) q)) hf (Nat.le_refl _) new
    refine ⟨.ref s.heap.objs.size, _, I1, rfl, ⟨_, x, y, rfl, I.hok.fresh (Nat.le_refl _), rfl, fun l hl => by rw [sqK_inj I hl hqx]; exact hx, fun l hl => by rw [sqK_inj I hl hqy]; exact hy⟩, ⟨z'', ?_, ⟨u, u2, ?_⟩, ?_, ?_⟩, fun c hcm => ?_⟩
    · exact (sb.2 _ D.TIz).trans (hk _ _ D.TIz D.TITO D.TIi1 D.TIi2 hTI)
    · exact (sb.2 _ D.TOz).trans TO'
    · exact itK_at (t1 _ _ h1') fun o q => (sb.2 _ (Ne.symm D.zi1)).trans q
    · exact itK_at (t2 _ _ h2') fun o q => (sb.2 _ (Ne.symm D.zi2)).trans q
    · have hlt : c < s.heap.objs.size := by
        have e' : c = z ∨ c = TI ∨ c = TO ∨ c = i1 ∨ c = i2 := by simpa using hcm
        rcases e' with q | q | q | q | q
        · rw [q]; exact hzl
        · rw [q]; exact Heap.lt_size hTI
        · rw [q]; exact Heap.lt_size hTO
        · rw [q]; obtain ⟨_, e1, _⟩ := itK_obj h1; exact Heap.lt_size e1
        · rw [q]; obtain ⟨_, e2, _⟩ := itK_obj h2; exact Heap.lt_size e2
      rw [L2.upd_ne (Nat.ne_of_lt hlt)]
      exact (hf c hcm).1
  done := by
    intro X hP hw hK hc i pins s σ H E I hf st hg
    subst hP hw hK
    obtain ⟨hz, hTI, ⟨x0, y0, hTO⟩, h1, h2⟩ := st
    obtain ⟨xs, ys, hqx, hqy, hend⟩ := hg
    have fin : ∀ h' tk, (∀ c o, c ≠ z → c ≠ TO → c ≠ i1 → c ≠ i2 → s.heap.get? c = some o → h'.get? c = some o) → (none : Option Value) = none ∧ Inv X pins σ H { s with heap := h', toks := tk } := fun h' tk hk =>
      ⟨rfl, I.turnedL (t' := tk) (ch := [z, TI, TO, i1, i2]) (fun c o hb q => hk c o (fun q' => hb (by simp [q'])) (fun q' => hb (by simp [q'])) (fun q' => hb (by simp [q'])) (fun q' => hb (by simp [q'])) q) hf⟩
    by_cases l1 : xs.length ≤ i
    · obtain ⟨P1, St1, D1, s1⟩ := dr_done hc I hqx ne1 l1 h1
      by_cases l2 : ys.length ≤ i
      · obtain ⟨P2, St2, D2, s2⟩ := dr_done hc I hqy ne2 l2 h2
        exact wpAny_pyNext_zipD2_end D D1 D2 hz hTI hTO s1 s2 (Nat.le_refl _) (Nat.le_refl _) (.inl rfl) fin
      · obtain ⟨its2, St2, rv2, D2, s2, t2⟩ := dr_item (it := i2) hc I hqy ne2
        have ly := rv2.length
        exact wpAny_pyNext_zipD2_end D D1 D2 hz hTI hTO s1 (s2 i h2) (Nat.le_refl _) (by omega) (.inl rfl) fin
    · have l2 : ys.length ≤ i := by omega
      obtain ⟨P2, St2, D2, s2⟩ := dr_done hc I hqy ne2 l2 h2
      obtain ⟨its, St1, rv, D1, s1, t1⟩ := dr_item (it := i1) hc I hqx ne1
      have lx := rv.length
      exact wpAny_pyNext_zipD2_end D D1 D2 hz hTI hTO (s1 i h1) s2 (by omega) (Nat.le_refl _) (.inr rfl) fin
  self := fun A i s Q E st h => wpAny_pyIter_zip st.1 h
def iZ2 (K : PySem.W.Frag) (ta : TA) : TI := fun σ H R => ta σ H fun vs H1 => ∃ (k1 k2 : Bool) (a b : Addr) (xs ys : List V), vs = [.ref a, .ref b] ∧ SqK k1 K H1 a xs ∧ SqK k2 K H1 b ys ∧ R (Iz2 K k1 k2 a b) H1
theorem pi_z2 {X : Cx} {e e2 : Expr} {ta : TA} {p pos tpos : Pos} {elts : List Expr} {kk : Nat} (hg : Gl X "zip") (hm : X.mg "zip" = none) (ha : PA X [e, e2] ta)
    (hs : starEach [e, e2] X.env = (false, eval e X.env) :: starEach [e2] X.env := by rfl) (hpl : (backTo pos (starEach [e2] X.env)).any (·.1) = false := by rfl) :
    PI X (.Tuple elts kk tpos) (.Call (.Name "zip" p) [e, e2] [] pos) (iZ2 X.K ta) := by
  refine ⟨fun pins s σ H R I h => ?_⟩
  refine Call_ (ld_blt I hg hm PyProof.Rows.boot_zip (PyProof.Rows.callWith_type1 (thn (ha.run pos pins s σ H _ I h) fun us s1 ⟨vs, H1, I1, r1, q1⟩ => ?_) hs hpl))
  obtain ⟨k1, k2, a, b, xs, ys, ex, hqx, hqy, q⟩ := q1
  subst ex
  cases r1 with
  | cons r rr =>
    cases rr with
    | cons r' rr =>
      cases rr
      cases r
      cases r'
      have la := sqK_lt I1 hqx
      have lb := sqK_lt I1 hqy
      obtain ⟨G1, B1, g1⟩ := begK I1 hqx
      obtain ⟨G2, B2, g2⟩ := begK I1 hqy
      have fresh5 : ∀ c, c ∈ [s1.heap.objs.size + 4, s1.heap.objs.size + 2, s1.heap.objs.size + 3, s1.heap.objs.size, s1.heap.objs.size + 1] → FpOk X pins H1 c := fun c hcm => by
        have hle : s1.heap.objs.size ≤ c := by
          simp only [List.mem_cons, List.not_mem_nil, or_false] at hcm
          rcases hcm with z | z | z | z | z <;> (rw [z]; first | exact Nat.le_add_right _ _ | exact Nat.le_refl _)
        exact I1.fpOk hle (I1.hok.fresh hle)
      refine zip_begins2 B1 B2 g1 g2 fun h' hz hTI hTO e1 e2 hsz hk => wpAny_pyIter_zip hz ?_
      have I2 : Inv X pins σ H1 { s1 with heap := h' } := I1.kept (t' := s1.toks) hk
      exact ⟨s1.heap.objs.size + 4, [s1.heap.objs.size + 4, s1.heap.objs.size + 2, s1.heap.objs.size + 3, s1.heap.objs.size, s1.heap.objs.size + 1], _, _, H1, rfl, I2, turn_z2 (sep2 s1.heap.objs.size a b la lb) (Nat.ne_of_lt la) (Nat.ne_of_lt (Nat.lt_succ_of_lt lb)),
        ⟨hz, hTI, ⟨_, _, hTO⟩, itK_new e1, itK_new e2⟩, fresh5, q⟩
/-! ### three -/
def Iz3 (K : PySem.W.Frag) (k1 k2 k3 : Bool) (a b c : Addr) : It :=
  ⟨fun i H => ∃ (xs ys zs : List V) (x y z : V), SqK k1 K H a xs ∧ SqK k2 K H b ys ∧ SqK k3 K H c zs ∧ xs[i]? = some x ∧ ys[i]? = some y ∧ zs[i]? = some z,
    fun i H v H' => ∃ T x y z, v = .ref T ∧ H T = none ∧ H' = upd H T (.tup [x, y, z]) ∧ (∀ xs, SqK k1 K H a xs → xs[i]? = some x) ∧ (∀ ys, SqK k2 K H b ys → ys[i]? = some y) ∧ ∀ zs, SqK k3 K H c zs → zs[i]? = some z,
    fun i H => ∃ xs ys zs : List V, SqK k1 K H a xs ∧ SqK k2 K H b ys ∧ SqK k3 K H c zs ∧ (xs.length ≤ i ∨ ys.length ≤ i ∨ zs.length ≤ i)⟩
section
variable {X : Cx} {pins : List (Addr × Obj)} {σ : L2.St} {H : Hp} {s : Shared} {a it : Addr} {k : Bool} {xs : List V}
/-- at its end, or not yet -/
theorem dr_end (i : Nat) (hc : X.calm = true) (I : Inv X pins σ H s) (h : SqK k X.K H a xs) (hne : a ≠ it) (hit : ItK k s.heap it a i) : ∃ (n : Nat) (Pv : Nat → Value → Prop) (St : Nat → Heap → Prop), Draws X.prog X.w X.A.in1 it [it, a] n Pv St ∧ St i s.heap ∧ i ≤ n ∧ (xs.length ≤ i → i = n) := by
  by_cases l : xs.length ≤ i
  · obtain ⟨P1, St1, D1, s1⟩ := dr_done hc I h hne l hit
    exact ⟨_, _, _, D1, s1, Nat.le_refl _, fun _ => rfl⟩
  · obtain ⟨its, St1, rv, D1, s1, t1⟩ := dr_item (it := it) hc I h hne
    have := rv.length
    exact ⟨_, _, _, D1, s1 i hit, by omega, fun z => absurd z l⟩
end
theorem turn_z3 {P : Program} {w : World} {K : PySem.W.Frag} {elts : List Expr} {kk : Nat} {tpos : Pos} {k1 k2 k3 : Bool} {a b c z TI TO i1 i2 i3 : Addr} (D : ZipSep3 z TI TO i1 i2 i3 [i1, a] [i2, b] [i3, c]) (ne1 : a ≠ i1) (ne2 : b ≠ i2) (ne3 : c ≠ i3) :
    Turn P w K (.Tuple elts kk tpos) (Iz3 K k1 k2 k3 a b c) [z, TI, TO, i1, i2, i3] z (fun i h => IsZip h z TI TO .none ∧ IsTupOf3 h TI (.ref i1) (.ref i2) (.ref i3) ∧ (∃ x y v, IsTupOf3 h TO x y v) ∧ ItK k1 h i1 a i ∧ ItK k2 h i2 b i ∧ ItK k3 h i3 c i) where
  mem := by simp
  obj := fun i h st d hd => by
    obtain ⟨hz, hTI, ⟨x, y, v, hTO⟩, h1, h2, h3⟩ := st
    have e' : d = z ∨ d = TI ∨ d = TO ∨ d = i1 ∨ d = i2 ∨ d = i3 := by simpa using hd
    rcases e' with q | q | q | q | q | q
    · rw [q]; exact ⟨_, hz, fun v q => nomatch q⟩
    · rw [q]; exact ⟨_, hTI, fun v q => nomatch q⟩
    · rw [q]; exact ⟨_, hTO, fun v q => nomatch q⟩
    · rw [q]; exact itK_obj h1
    · rw [q]; exact itK_obj h2
    · rw [q]; exact itK_obj h3
  keep := fun i h h' st k => by
    obtain ⟨hz, hTI, ⟨x, y, v, hTO⟩, h1, h2, h3⟩ := st
    exact ⟨k z (by simp) _ hz, k TI (by simp) _ hTI, ⟨x, y, v, k TO (by simp) _ hTO⟩, itK_at h1 fun o q => k i1 (by simp) o q, itK_at h2 fun o q => k i2 (by simp) o q, itK_at h3 fun o q => k i3 (by simp) o q⟩
  item := by
    intro X hP hw hK hc i pins s σ H E I hf st hg
    subst hP hw hK
    obtain ⟨hz, hTI, ⟨x0, y0, v0, hTO⟩, h1, h2, h3⟩ := st
    obtain ⟨xs, ys, zs, x, y, v, hqx, hqy, hqz, hx, hy, hv⟩ := hg
    obtain ⟨its, St1, rv, D1, s1, t1⟩ := dr_item (it := i1) hc I hqx ne1
    obtain ⟨its2, St2, rv2, D2, s2, t2⟩ := dr_item (it := i2) hc I hqy ne2
    obtain ⟨its3, St3, rv3, D3, s3, t3⟩ := dr_item (it := i3) hc I hqz ne3
    have hzl : z < s.heap.objs.size := Heap.lt_size hz
    have lx := rv.length
    have ly := rv2.length
    have lz := rv3.length
    refine wpAny_pyNext_zipD3_item D D1 D2 D3 hz hTI hTO (s1 i h1) (s2 i h2) (s3 i h3) (by have := (List.getElem?_eq_some_iff.mp hx).1; omega) (by have := (List.getElem?_eq_some_iff.mp hy).1; omega) (by have := (List.getElem?_eq_some_iff.mp hv).1; omega) fun u u2 u3 h' tk hu hu2 hu3 z' TO' h1' h2' h3' hT hsz hk => ?_
    obtain ⟨w1, hw1, ru⟩ := rv.get hx
    obtain ⟨w2, hw2, ru2⟩ := rv2.get hy
    obtain ⟨w3, hw3, ru3⟩ := rv3.get hv
    rw [hw1] at hu
    rw [hw2] at hu2
    rw [hw3] at hu3
    cases hu
    cases hu2
    cases hu3
    refine ⟨_, rfl, wpAny_letOwnedTupleGo_zip (s := { s with heap := h', toks := tk }) z' fun h'' z'' sb => ?_⟩
    have hT2 : h''.get? s.heap.objs.size = some { cls := .type "tuple", data := .seq #[u, u2, u3] } := (sb.2 _ (Nat.ne_of_gt hzl)).trans hT
    have new : ObjOk X.prog X.w (upd H s.heap.objs.size (.tup [x, y, v])) h'' s.heap.objs.size (.tup [x, y, v]) :=
      ⟨by show 3 ≤ sizeLine; decide, [u, u2, u3], .cons ru (.cons ru2 (.cons ru3 .nil)), ⟨_, hT2, rfl, _, rfl⟩⟩
    have I1 : Inv X pins σ (upd H s.heap.objs.size (.tup [x, y, v])) { s with heap := h'', toks := tk } :=
      I.turnedNew (t' := tk) (ch := [z, TI, TO, i1, i2, i3]) (fun c o hb q => (sb.2 c (fun q' => hb (by simp [q']))).trans (hk c o (fun q' => hb (by simp [q'])) (fun q' => hb (by simp [q'])) (fun q' => hb (by simp [q'])) (fun q' => hb (by simp [q'])) (fun q' => hb (by simp [q'])) q)) hf (Nat.le_refl _) new
    refine ⟨.ref s.heap.objs.size, _, I1, rfl, ⟨_, x, y, v, rfl, I.hok.fresh (Nat.le_refl _), rfl, fun l hl => by rw [sqK_inj I hl hqx]; exact hx, fun l hl => by rw [sqK_inj I hl hqy]; exact hy, fun l hl => by rw [sqK_inj I hl hqz]; exact hv⟩, ⟨z'', ?_, ⟨u, u2, u3, ?_⟩, ?_, ?_, ?_⟩, fun c hcm => ?_⟩
    · exact (sb.2 _ D.TIz).trans (hk _ _ D.TIz D.TITO D.TIi1 D.TIi2 D.TIi3 hTI)
    · exact (sb.2 _ D.TOz).trans TO'
    · exact itK_at (t1 _ _ h1') fun o q => (sb.2 _ (Ne.symm D.zi1)).trans q
    · exact itK_at (t2 _ _ h2') fun o q => (sb.2 _ (Ne.symm D.zi2)).trans q
    · exact itK_at (t3 _ _ h3') fun o q => (sb.2 _ (Ne.symm D.zi3)).trans q
    · have hlt : c < s.heap.objs.size := by
        have e' : c = z ∨ c = TI ∨ c = TO ∨ c = i1 ∨ c = i2 ∨ c = i3 := by simpa using hcm
        rcases e' with q | q | q | q | q | q
        · rw [q]; exact hzl
        · rw [q]; exact Heap.lt_size hTI
        · rw [q]; exact Heap.lt_size hTO
        · rw [q]; obtain ⟨_, e1, _⟩ := itK_obj h1; exact Heap.lt_size e1
        · rw [q]; obtain ⟨_, e2, _⟩ := itK_obj h2; exact Heap.lt_size e2
        · rw [q]; obtain ⟨_, e3, _⟩ := itK_obj h3; exact Heap.lt_size e3
      rw [L2.upd_ne (Nat.ne_of_lt hlt)]
      exact (hf c hcm).1
  done := by
    intro X hP hw hK hc i pins s σ H E I hf st hg
    subst hP hw hK
    obtain ⟨hz, hTI, ⟨x0, y0, v0, hTO⟩, h1, h2, h3⟩ := st
    obtain ⟨xs, ys, zs, hqx, hqy, hqz, hend⟩ := hg
    obtain ⟨n1, P1, St1, D1, s1, l1, m1⟩ := dr_end i hc I hqx ne1 h1
    obtain ⟨n2, P2, St2, D2, s2, l2, m2⟩ := dr_end i hc I hqy ne2 h2
    obtain ⟨n3, P3, St3, D3, s3, l3, m3⟩ := dr_end i hc I hqz ne3 h3
    refine wpAny_pyNext_zipD3_end D D1 D2 D3 hz hTI hTO s1 s2 s3 l1 l2 l3 ?_ fun h' tk hk => ⟨rfl, I.turnedL (t' := tk) (ch := [z, TI, TO, i1, i2, i3]) (fun c o hb q => hk c o (fun q' => hb (by simp [q'])) (fun q' => hb (by simp [q'])) (fun q' => hb (by simp [q'])) (fun q' => hb (by simp [q'])) (fun q' => hb (by simp [q'])) q) hf⟩
    rcases hend with q | q | q
    · exact .inl (m1 q)
    · exact .inr (.inl (m2 q))
    · exact .inr (.inr (m3 q))
  self := fun A i s Q E st h => wpAny_pyIter_zip st.1 h
def iZ3 (K : PySem.W.Frag) (ta : TA) : TI := fun σ H R => ta σ H fun vs H1 => ∃ (k1 k2 k3 : Bool) (a b c : Addr) (xs ys zs : List V), vs = [.ref a, .ref b, .ref c] ∧ SqK k1 K H1 a xs ∧ SqK k2 K H1 b ys ∧ SqK k3 K H1 c zs ∧ R (Iz3 K k1 k2 k3 a b c) H1
theorem pi_z3 {X : Cx} {e e2 e3 : Expr} {ta : TA} {p pos tpos : Pos} {elts : List Expr} {kk : Nat} (hg : Gl X "zip") (hm : X.mg "zip" = none) (ha : PA X [e, e2, e3] ta)
    (hs : starEach [e, e2, e3] X.env = (false, eval e X.env) :: starEach [e2, e3] X.env := by rfl) (hpl : (backTo pos (starEach [e2, e3] X.env)).any (·.1) = false := by rfl) :
    PI X (.Tuple elts kk tpos) (.Call (.Name "zip" p) [e, e2, e3] [] pos) (iZ3 X.K ta) := by
  refine ⟨fun pins s σ H R I h => ?_⟩
  refine Call_ (ld_blt I hg hm PyProof.Rows.boot_zip (PyProof.Rows.callWith_type1 (thn (ha.run pos pins s σ H _ I h) fun us s1 ⟨vs, H1, I1, r1, q1⟩ => ?_) hs hpl))
  obtain ⟨k1, k2, k3, a, b, c, xs, ys, zs, ex, hqx, hqy, hqz, q⟩ := q1
  subst ex
  cases r1 with
  | cons r rr =>
    cases rr with
    | cons r' rr =>
      cases rr with
      | cons r'' rr =>
        cases rr
        cases r
        cases r'
        cases r''
        have la := sqK_lt I1 hqx
        have lb := sqK_lt I1 hqy
        have lc := sqK_lt I1 hqz
        obtain ⟨G1, B1, g1⟩ := begK I1 hqx
        obtain ⟨G2, B2, g2⟩ := begK I1 hqy
        obtain ⟨G3, B3, g3⟩ := begK I1 hqz
        have fresh6 : ∀ d, d ∈ [s1.heap.objs.size + 5, s1.heap.objs.size + 3, s1.heap.objs.size + 4, s1.heap.objs.size, s1.heap.objs.size + 1, s1.heap.objs.size + 2] → FpOk X pins H1 d := fun d hcm => by
          have hle : s1.heap.objs.size ≤ d := by
            simp only [List.mem_cons, List.not_mem_nil, or_false] at hcm
            rcases hcm with z | z | z | z | z | z <;> (rw [z]; first | exact Nat.le_add_right _ _ | exact Nat.le_refl _)
          exact I1.fpOk hle (I1.hok.fresh hle)
        refine zip_begins3 B1 B2 B3 g1 g2 g3 fun h' hz hTI hTO e1 e2 e3 hsz hk => wpAny_pyIter_zip hz ?_
        have I2 : Inv X pins σ H1 { s1 with heap := h' } := I1.kept (t' := s1.toks) hk
        exact ⟨s1.heap.objs.size + 5, [s1.heap.objs.size + 5, s1.heap.objs.size + 3, s1.heap.objs.size + 4, s1.heap.objs.size, s1.heap.objs.size + 1, s1.heap.objs.size + 2], _, _, H1, rfl, I2, turn_z3 (sep3 s1.heap.objs.size a b c la lb lc) (Nat.ne_of_lt la) (Nat.ne_of_lt (Nat.lt_succ_of_lt lb)) (Nat.ne_of_lt (Nat.lt_succ_of_lt (Nat.lt_succ_of_lt lc))),
          ⟨hz, hTI, ⟨_, _, _, hTO⟩, itK_new e1, itK_new e2, itK_new e3⟩, fresh6, q⟩
/-! ### over data -/
def src2 (μ : Mu) : D → Option Src
  | .tup ds => some ⟨ds, []⟩
  | x => lsrc μ x
structure KOk (K : PySem.W.Frag) (k : Bool) (a : Addr) (s : Src) (α : List Addr) (H : Hp) : Prop where
  ok : ∀ α' H' μ', Gr α H α' H' → Sat K α' H' μ' → s.held μ' → ∃ vs, SqK k K H' a vs ∧ RlAll K α' H' vs s.its
section
variable {K : PySem.W.Frag} {α : List Addr} {H : Hp}
theorem kok_of {μ : Mu} {v : V} {d : D} {s : Src} (S : Sat K α H μ) (r : Rl K α H v d) (h : src2 μ d = some s) : s.held μ ∧ ∃ k a vs, v = .ref a ∧ SqK k K H a vs ∧ KOk K k a s α H := by
  have lists : lsrc μ d = some s → s.held μ ∧ ∃ k a vs, v = .ref a ∧ SqK k K H a vs ∧ KOk K k a s α H := fun h => by
    obtain ⟨hd, a, vs, rfl, q, L⟩ := lok_of S r h
    exact ⟨hd, true, a, vs, rfl, q, ⟨L.ok⟩⟩
  cases r with
  | tup q r =>
    cases h
    exact ⟨held_nil, false, _, _, rfl, q, ⟨fun α' H' μ' g S' hd => ⟨_, g.ext.seqT q, r.mono g⟩⟩⟩
  | _ => exact lists h
def diZ2 (d1 d2 : DTE) : DTI := fun ρ μ Q => d1 ρ μ fun x μ1 => d2 ρ μ1 fun y μ2 => match src2 μ2 x, src2 μ2 y with | some s, some t => Q ⟨zipD s.its t.its, s.keep ++ t.keep⟩ μ2 | _, _ => False
def zip3D : List D → List D → List D → List D
  | x :: xs, y :: ys, z :: zs => .tup [x, y, z] :: zip3D xs ys zs
  | _, _, _ => []
def diZ3 (d1 d2 d3 : DTE) : DTI := fun ρ μ Q => d1 ρ μ fun x μ1 => d2 ρ μ1 fun y μ2 => d3 ρ μ2 fun z μ3 => match src2 μ3 x, src2 μ3 y, src2 μ3 z with | some s, some t, some u => Q ⟨zip3D s.its t.its u.its, s.keep ++ (t.keep ++ u.keep)⟩ μ3 | _, _, _ => False
theorem zip3D_get : ∀ {xs ys zs : List D} {i : Nat} {d : D}, (zip3D xs ys zs)[i]? = some d → ∃ x y z, xs[i]? = some x ∧ ys[i]? = some y ∧ zs[i]? = some z ∧ d = .tup [x, y, z]
  | [], _, _, i, d, h => by simp [zip3D] at h
  | _ :: _, [], _, i, d, h => by simp [zip3D] at h
  | _ :: _, _ :: _, [], i, d, h => by simp [zip3D] at h
  | x :: xs, y :: ys, z :: zs, 0, d, h => by
    simp [zip3D] at h
    exact ⟨x, y, z, rfl, rfl, rfl, h.symm⟩
  | x :: xs, y :: ys, z :: zs, i + 1, d, h => by
    have h : (zip3D xs ys zs)[i]? = some d := by simpa [zip3D] using h
    obtain ⟨a, b, c, e1, e2, e3, e4⟩ := zip3D_get h
    exact ⟨a, b, c, by simpa using e1, by simpa using e2, by simpa using e3, e4⟩
theorem zip3D_len : ∀ (xs ys zs : List D), (zip3D xs ys zs).length = min xs.length (min ys.length zs.length)
  | [], _, _ => by simp [zip3D]
  | _ :: _, [], _ => by simp [zip3D]
  | _ :: _, _ :: _, [] => by simp [zip3D]
  | x :: xs, y :: ys, z :: zs => by
    simp only [zip3D, List.length_cons, zip3D_len xs ys zs]
    omega
theorem new_triple {μ : Mu} {v w u : V} {d e f : D} {T : Addr} (S : Sat K α H μ) (r : Rl K α H v d) (r' : Rl K α H w e) (r'' : Rl K α H u f) (h : H T = none) :
    Gr α H α (upd H T (.tup [v, w, u])) ∧ Sat K α (upd H T (.tup [v, w, u])) μ ∧ Rl K α (upd H T (.tup [v, w, u])) (.ref T) (.tup [d, e, f]) :=
  ⟨gr_new h, S.new h, .tup (.inl (.inl L2.upd_same)) (.cons (r.mono (gr_new h)) (.cons (r'.mono (gr_new h)) (.cons (r''.mono (gr_new h)) .nil)))⟩
theorem iz2_ok {k1 k2 : Bool} {a b : Addr} {s t : Src} (L : KOk K k1 a s α H) (L' : KOk K k2 b t α H) : ItOk K (Iz2 K k1 k2 a b) ⟨zipD s.its t.its, s.keep ++ t.keep⟩ α H := ⟨fun α' H' μ' g S' hd' => by
  obtain ⟨ws, c1, c2⟩ := L.ok α' H' μ' g S' (fun p hp => hd' p (List.mem_append.mpr (.inl hp)))
  obtain ⟨zs, m1, m2⟩ := L'.ok α' H' μ' g S' (fun p hp => hd' p (List.mem_append.mpr (.inr hp)))
  have len : (zipD s.its t.its).length = min ws.length zs.length := by
    unfold zipD
    rw [List.length_zipWith, c2.length, m2.length]
  refine ⟨fun i hi => ?_, fun i hi => ?_, fun i d v H3 hg hy => ?_⟩
  · have hi : i < (zipD s.its t.its).length := hi
    rw [len] at hi
    exact ⟨ws, zs, ws[i]'(by omega), zs[i]'(by omega), c1, m1, by simp, by simp⟩
  · have hi : (zipD s.its t.its).length ≤ i := hi
    rw [len] at hi
    exact ⟨ws, zs, c1, m1, by omega⟩
  · obtain ⟨x, y, hx, hz, rfl⟩ := zipD_get hg
    obtain ⟨T, x1, x2, rfl, hT, rfl, hy1, hy2⟩ := hy
    obtain ⟨w1, hw1, rw1⟩ := c2.get hx
    obtain ⟨w2, hw2, rw2⟩ := m2.get hz
    have e1 := hy1 ws c1
    have e2 := hy2 zs m1
    rw [hw1] at e1
    rw [hw2] at e2
    cases e1; cases e2
    exact new_pair S' rw1 rw2 hT⟩
theorem iz3_ok {k1 k2 k3 : Bool} {a b c : Addr} {s t u : Src} (L : KOk K k1 a s α H) (L' : KOk K k2 b t α H) (L'' : KOk K k3 c u α H) : ItOk K (Iz3 K k1 k2 k3 a b c) ⟨zip3D s.its t.its u.its, s.keep ++ (t.keep ++ u.keep)⟩ α H := ⟨fun α' H' μ' g S' hd' => by
  obtain ⟨ws, c1, c2⟩ := L.ok α' H' μ' g S' (fun p hp => hd' p (List.mem_append.mpr (.inl hp)))
  obtain ⟨zs, m1, m2⟩ := L'.ok α' H' μ' g S' (fun p hp => hd' p (List.mem_append.mpr (.inr (List.mem_append.mpr (.inl hp)))))
  obtain ⟨us, n1, n2⟩ := L''.ok α' H' μ' g S' (fun p hp => hd' p (List.mem_append.mpr (.inr (List.mem_append.mpr (.inr hp)))))
  have len : (zip3D s.its t.its u.its).length = min ws.length (min zs.length us.length) := by
    rw [zip3D_len, c2.length, m2.length, n2.length]
  refine ⟨fun i hi => ?_, fun i hi => ?_, fun i d v H3 hg hy => ?_⟩
  · have hi : i < (zip3D s.its t.its u.its).length := hi
    rw [len] at hi
    exact ⟨ws, zs, us, ws[i]'(by omega), zs[i]'(by omega), us[i]'(by omega), c1, m1, n1, by simp, by simp, by simp⟩
  · have hi : (zip3D s.its t.its u.its).length ≤ i := hi
    rw [len] at hi
    exact ⟨ws, zs, us, c1, m1, n1, by omega⟩
  · obtain ⟨x, y, z, hx, hz, hu, rfl⟩ := zip3D_get hg
    obtain ⟨T, x1, x2, x3, rfl, hT, rfl, hy1, hy2, hy3⟩ := hy
    obtain ⟨w1, hw1, rw1⟩ := c2.get hx
    obtain ⟨w2, hw2, rw2⟩ := m2.get hz
    obtain ⟨w3, hw3, rw3⟩ := n2.get hu
    have e1 := hy1 ws c1
    have e2 := hy2 zs m1
    have e3 := hy3 us n1
    rw [hw1] at e1
    rw [hw2] at e2
    rw [hw3] at e3
    cases e1; cases e2; cases e3
    exact new_triple S' rw1 rw2 rw3 hT⟩
end
theorem di_z2 {X : Cx} {e e2 : Expr} {d1 d2 : DTE} {p pos tpos : Pos} {elts : List Expr} {kk : Nat} (hm : X.mg "zip" = none) (he : PED X e d1) (he2 : PED X e2 d2) (hg : Gl X "zip" := by rfl)
    (hs : starEach [e, e2] X.env = (false, eval e X.env) :: starEach [e2] X.env := by rfl) (hs2 : starEach [e2] X.env = (false, eval e2 X.env) :: starEach [] X.env := by rfl) (hpl : (backTo pos (starEach [e2] X.env)).any (·.1) = false := by rfl) :
    PID X (.Tuple elts kk tpos) (.Call (.Name "zip" p) [e, e2] [] pos) (diZ2 d1 d2) := by
  obtain ⟨t1, a1, a2⟩ := he.ex
  obtain ⟨t2, b1, b2⟩ := he2.ex
  refine ⟨_, pi_z2 hg hm (pa_cons a1 (pa_cons b1 pa_nil hs2) hs) hs hpl, fun α σ H ρ μ Qd R S en h post => a2 α σ H ρ μ _ _ S en h fun v H1 α1 μ1 d g1 S1 r1 q1 => b2 α1 σ H1 ρ μ1 _ _ S1 (en.mono g1) q1 fun w H2 α2 μ2 dd g2 S2 r2 q2 => ?_⟩
  split at q2
  · rename_i s t es et
    obtain ⟨hd, k1, a, vs, rfl, q, L⟩ := kok_of S2 (r1.mono g2) es
    obtain ⟨hd2, k2, b, us, rfl, q', L'⟩ := kok_of S2 r2 et
    refine ⟨k1, k2, a, b, vs, us, rfl, q, q', post _ _ _ _ _ (g1.trans g2) S2 (fun p hp => ?_) (iz2_ok L L') q2⟩
    rcases List.mem_append.mp hp with hp | hp
    · exact hd p hp
    · exact hd2 p hp
  · exact False.elim q2
theorem di_z3 {X : Cx} {e e2 e3 : Expr} {d1 d2 d3 : DTE} {p pos tpos : Pos} {elts : List Expr} {kk : Nat} (hm : X.mg "zip" = none) (he : PED X e d1) (he2 : PED X e2 d2) (he3 : PED X e3 d3) (hg : Gl X "zip" := by rfl)
    (hs : starEach [e, e2, e3] X.env = (false, eval e X.env) :: starEach [e2, e3] X.env := by rfl) (hs2 : starEach [e2, e3] X.env = (false, eval e2 X.env) :: starEach [e3] X.env := by rfl) (hs3 : starEach [e3] X.env = (false, eval e3 X.env) :: starEach [] X.env := by rfl) (hpl : (backTo pos (starEach [e2, e3] X.env)).any (·.1) = false := by rfl) :
    PID X (.Tuple elts kk tpos) (.Call (.Name "zip" p) [e, e2, e3] [] pos) (diZ3 d1 d2 d3) := by
  obtain ⟨t1, a1, a2⟩ := he.ex
  obtain ⟨t2, b1, b2⟩ := he2.ex
  obtain ⟨t3, c1, c2⟩ := he3.ex
  refine ⟨_, pi_z3 hg hm (pa_cons a1 (pa_cons b1 (pa_cons c1 pa_nil hs3) hs2) hs) hs hpl, fun α σ H ρ μ Qd R S en h post => a2 α σ H ρ μ _ _ S en h fun v H1 α1 μ1 d g1 S1 r1 q1 => b2 α1 σ H1 ρ μ1 _ _ S1 (en.mono g1) q1 fun w H2 α2 μ2 dd g2 S2 r2 q2 =>
    c2 α2 σ H2 ρ μ2 _ _ S2 (en.mono (g1.trans g2)) q2 fun u H3 α3 μ3 ddd g3 S3 r3 q3 => ?_⟩
  split at q3
  · rename_i s t x es et ex
    obtain ⟨hd, k1, a, vs, rfl, q, L⟩ := kok_of S3 (r1.mono (g2.trans g3)) es
    obtain ⟨hd2, k2, b, us, rfl, q', L'⟩ := kok_of S3 (r2.mono g3) et
    obtain ⟨hd3, k3, c, ws, rfl, q'', L''⟩ := kok_of S3 r3 ex
    refine ⟨k1, k2, k3, a, b, c, vs, us, ws, rfl, q, q', q'', post _ _ _ _ _ (g1.trans (g2.trans g3)) S3 (fun p hp => ?_) (iz3_ok L L' L'') q3⟩
    rcases List.mem_append.mp hp with hp | hp
    · exact hd p hp
    · rcases List.mem_append.mp hp with hp | hp
      · exact hd2 p hp
      · exact hd3 p hp
  · exact False.elim q3
end Dl
/-! Mt: max and min of a list or a tuple of ints. -/
namespace Dl
open PySem PySem.Spec PyProof.Rows L2
theorem max_rawT {prog : Program} {w : World} {A : Around} {E : Value → Shared → Prop} {s : Shared} {t : Addr} {its : List Value} {ns : List Int} {Q : Value → Shared → Prop} (hh : A.handled = none) (ht : s.heap.IsTuple t its.toArray) (hi : IntsAre its ns) (h0 : 0 < ns.length)
    (h : ∀ (h' : Heap) (tk : Nat) (M : Int) (t' : Tok), (∀ (b : Addr) (o : Obj), s.heap.get? b = some o → h'.get? b = some o) → M ∈ ns → (∀ a, a ∈ ns → a ≤ M) → Q (.int M t') { s with heap := h', toks := tk }) :
    wpAny (model prog w) A (call (Value.builtin "max") [.ref t]) Q E s := by
  have lt : t < s.heap.objs.size := by
    obtain ⟨o, e, _⟩ := ht
    exact Heap.lt_size e
  have ln := hi.length
  refine call_max_walk (wpAny_pyIter_tuple ht ?_)
  have W := Walks.tuple (prog := prog) (w := w) (A := A.in1) hh s.heap.objs.size t (Nat.ne_of_lt lt) its.toArray
  refine ⟨_, _, _, _, _, _, _, rfl, W, ⟨⟨_, Heap.get?_push_size _ rfl, rfl, rfl⟩, ht.push _⟩, fun b hb => ?_, by rw [List.size_toArray]; omega,
    CmpOf.ints_gt (fun i => ns.getD i 0) (fun i v hv => hi.int_at i v (by rw [← List.getElem?_toArray]; exact hv)), fun v h' tk hv hk => ?_⟩
  · have hz : (s.heap.push { cls := Value.type "tuple_iterator", data := Data.fields #[Value.ref t, Value.int 0 0] }).objs.size = s.heap.objs.size + 1 := by
      show (s.heap.objs.push _).size = _
      simp
    simp only [List.mem_cons, List.not_mem_nil, or_false] at hb
    rw [hz]
    rcases hb with rfl | rfl
    · exact Nat.lt_succ_self _
    · exact Nat.lt_succ_of_lt lt
  · rw [List.size_toArray] at hv
    have ab := argBest_gt (fun i => ns.getD i 0) (its.length - 1)
    obtain ⟨t', rfl⟩ := hi.int_at _ v (by rw [← List.getElem?_toArray]; exact hv)
    have il : argBest (fun i j => decide (ns.getD i 0 > ns.getD j 0)) (its.length - 1) < ns.length := by omega
    refine h h' tk _ t' (fun b o e => hk b o (fun z => ?_) (Heap.get?_push_of_some _ e)) ?_ fun a ha => ?_
    · simp only [List.mem_cons, List.not_mem_nil, or_false] at z
      rw [z] at e
      exact absurd (Heap.lt_size e) (Nat.lt_irrefl _)
    · rw [List.getD_eq_getElem?_getD, List.getElem?_eq_getElem il]
      exact List.getElem_mem il
    · obtain ⟨j, hj⟩ := List.mem_iff_getElem?.mp ha
      have jl := (List.getElem?_eq_some_iff.mp hj).1
      have := ab.2 j (by omega)
      rw [show ns.getD j 0 = a by rw [List.getD_eq_getElem?_getD, hj]; rfl] at this
      exact this
section
variable {X : Cx}
def rMaxT (K : PySem.W.Frag) : List V → Hp → VK → Prop := fun vs H Q => ∃ (a : Addr) (ns : List Int), vs = [V.ref a] ∧ SqT K H a (ns.map V.int) ∧ 0 < ns.length ∧ ∀ m, m ∈ ns → (∀ y, y ∈ ns → y ≤ m) → Q (.int m) H
theorem cr_maxT (hc : X.calm = true) : CallR X (.builtin "max") (rMaxT X.K) := by
  intro pins s σ H vs us Q I r h
  obtain ⟨a, ns, rfl, hs, h0, q⟩ := h
  obtain ⟨its, rv, hl, _⟩ := I.tuple hs
  rw [Vals.ref1 r]
  refine max_rawT (I.ok.hd hc) hl rv.ints h0 fun h' tk M t' hk hm hle => ?_
  exact ⟨.int _, H, I.kept hk, ⟨_, rfl⟩, q M hm hle⟩
theorem s_max2 (hc : X.calm = true) : SeqD X (.builtin "max") true sMax := ⟨_, CallR.or (cr_max hc) (cr_maxT hc), fun α H μ p vs xs Qd Q S q r h post => by
  obtain ⟨ns, rfl, h0, h⟩ := h
  have e := r.ints
  subst e
  rcases q with q | ⟨_, q⟩
  · exact .inl ⟨p, ns, rfl, q, h0, fun m h1 h2 => post.here S (.int _) (h m h1 h2)⟩
  · exact .inr ⟨p, ns, rfl, q, h0, fun m h1 h2 => post.here S (.int _) (h m h1 h2)⟩⟩
end
end Dl
/-! Ev: readings over data, worked out. -/
namespace Dl
open PySem PySem.Spec PyProof.Rows L2
theorem atI_0 {β : Type} (x : β) (xs : List β) : atI (x :: xs) 0 = some x := by
  have := atI_nat (xs := x :: xs) (j := 0) (v := x) rfl
  exact this
theorem atI_1 {β : Type} (x y : β) (xs : List β) : atI (x :: y :: xs) 1 = some y := atI_nat (xs := x :: y :: xs) (j := 1) (v := y) rfl
theorem atI_2 {β : Type} (x y z : β) (xs : List β) : atI (x :: y :: z :: xs) 2 = some z := atI_nat (xs := x :: y :: z :: xs) (j := 2) (v := z) rfl
theorem atI_3 {β : Type} (x y z u : β) (xs : List β) : atI (x :: y :: z :: u :: xs) 3 = some u := atI_nat (xs := x :: y :: z :: u :: xs) (j := 3) (v := u) rfl
theorem atI_4 {β : Type} (x y z u v : β) (xs : List β) : atI (x :: y :: z :: u :: v :: xs) 4 = some v := atI_nat (xs := x :: y :: z :: u :: v :: xs) (j := 4) (v := v) rfl
theorem atI_n1 {β : Type} (xs : List β) (v : β) (h : xs.getLast? = some v) : atI xs (-1) = some v := by
  rw [List.getLast?_eq_getElem?] at h
  have hl : 0 < xs.length := by
    cases xs with
    | nil => simp at h
    | cons _ _ => simp
  unfold L2.atI L2.ixN
  rw [if_neg (by decide), if_pos (by omega)]
  show xs[(-1 + (xs.length : Int)).toNat]? = _
  rw [show (-1 + (xs.length : Int)).toNat = xs.length - 1 by omega]
  exact h
theorem ixN_20 : ixN 2 0 = some 0 := by decide
theorem ixN_21 : ixN 2 1 = some 1 := by decide
theorem ixN_nat {n j : Nat} (h : j < n) : ixN n (j : Int) = some j := by
  unfold L2.ixN
  rw [if_pos (by omega), if_pos (by omega), Int.toNat_natCast]
theorem kit_ii : kitB "int" "int" = some true := by decide +kernel
theorem kit_ib : kitB "int" "bool" = some false := by decide +kernel
theorem kit_is : kitB "int" "str" = some false := by decide +kernel
theorem kit_it : kitB "int" "tuple" = some false := by decide +kernel
theorem kit_il : kitB "int" "list" = some false := by decide +kernel
theorem kit_bi : kitB "bool" "int" = some true := by decide +kernel
theorem kit_bb : kitB "bool" "bool" = some true := by decide +kernel
theorem kit_bs : kitB "bool" "str" = some false := by decide +kernel
theorem kit_bt : kitB "bool" "tuple" = some false := by decide +kernel
theorem kit_bl : kitB "bool" "list" = some false := by decide +kernel
theorem kit_si : kitB "str" "int" = some false := by decide +kernel
theorem kit_sb : kitB "str" "bool" = some false := by decide +kernel
theorem kit_ss : kitB "str" "str" = some true := by decide +kernel
theorem kit_st : kitB "str" "tuple" = some false := by decide +kernel
theorem kit_sl : kitB "str" "list" = some false := by decide +kernel
theorem kit_ti : kitB "tuple" "int" = some false := by decide +kernel
theorem kit_tb : kitB "tuple" "bool" = some false := by decide +kernel
theorem kit_ts : kitB "tuple" "str" = some false := by decide +kernel
theorem kit_tt : kitB "tuple" "tuple" = some true := by decide +kernel
theorem kit_tl : kitB "tuple" "list" = some false := by decide +kernel
theorem kit_li : kitB "list" "int" = some false := by decide +kernel
theorem kit_lb : kitB "list" "bool" = some false := by decide +kernel
theorem kit_ls : kitB "list" "str" = some false := by decide +kernel
theorem kit_lt : kitB "list" "tuple" = some false := by decide +kernel
theorem kit_ll : kitB "list" "list" = some true := by decide +kernel
theorem kit_ni : kitB "NoneType" "int" = some false := by decide +kernel
theorem kit_nb : kitB "NoneType" "bool" = some false := by decide +kernel
theorem kit_ns : kitB "NoneType" "str" = some false := by decide +kernel
theorem kit_nt : kitB "NoneType" "tuple" = some false := by decide +kernel
theorem kit_nl : kitB "NoneType" "list" = some false := by decide +kernel
theorem sz1000 {n : Nat} (h : n ≤ 100000) : n ≤ sizeLine := Nat.le_trans h (by decide)
theorem sz_lt {n : Nat} (h : n < 100000) : n < sizeLine := Nat.lt_of_lt_of_le h (by decide)
theorem Mu.upd_at {μ : Mu} {j k : Nat} {xs : List D} : (μ.upd k xs) j = if j = k then some xs else μ j := rfl
theorem div_ok {j i : Int} (h0 : 0 < j) (h1 : j < 2 ^ 200) : DivOk i j := ⟨h0, lt_big (by omega)⟩
theorem mul_ok {i j : Int} (h0 : -(2 ^ 200) < i) (h1 : i < 2 ^ 200) (h2 : -(2 ^ 200) < j) (h3 : j < 2 ^ 200) : Dl.MulOk i j := .inr (.inr ⟨lt_big (by omega), lt_big (by omega)⟩)

/-! ### comprehensions whose turns change nothing -/
theorem held_upd {s : Src} {μ : Mu} {k : Nat} {xs : List D} (h : s.held μ) (n : μ k = none) : s.held (μ.upd k xs) := fun p hp => by
  have e := h p hp
  rw [Mu.upd_ne (Mu.ne_of e n)]
  exact e
theorem lc_fm {s : Src} {g : DTG} {tt : DTT} {de : DTE} {ρ : Rho} {Q : List D → Mu → Prop} {μ : Mu} (p : D → Bool) (f : D → D) (hh : s.held μ) (hs : s.its.length ≤ 100000)
    (hb : ∀ x, x ∈ s.its → ∀ μ' (Qy : DK) (Qn : Mu → Prop), s.held μ' → (if p x = true then Qy (f x) μ' else Qn μ') → g x ρ μ' fun ρ2 μ2 => tt ρ2 μ2 fun b μ3 => if b = true then de ρ2 μ3 Qy else Qn μ3)
    (hq : Q ((s.its.filter p).map f) μ) : lcIn s g tt de ρ Q μ := by
  intro k hk
  refine ⟨fun i μ' => μ' = μ.upd k (((s.its.take i).filter p).map f), rfl, fun i x μ' hi w => ?_, fun μ' w => ?_⟩
  · subst w
    have hx : x ∈ s.its := List.mem_of_getElem? hi
    have hl : i < s.its.length := (List.getElem?_eq_some_iff.mp hi).1
    have et : s.its.take (i + 1) = s.its.take i ++ [x] := by rw [List.take_add_one, hi]; rfl
    refine ⟨held_upd hh hk, hb x hx _ _ _ (held_upd hh hk) ?_⟩
    cases hp : p x with
    | true =>
      rw [if_pos rfl]
      refine ⟨_, Mu.upd_same, sz_lt ?_, ?_⟩
      · rw [List.length_map]
        have h1 := List.length_filter_le p (s.its.take i)
        rw [List.length_take] at h1
        omega
      · show _ = μ.upd k (((s.its.take (i + 1)).filter p).map f)
        rw [Mu.upd_upd, et, List.filter_append, List.map_append, List.filter_cons_of_pos hp]
        rfl
    | false =>
      rw [if_neg (by decide)]
      show _ = μ.upd k (((s.its.take (i + 1)).filter p).map f)
      rw [et, List.filter_append, List.filter_cons_of_neg (by rw [hp]; decide)]
      simp
  · subst w
    refine ⟨held_upd hh hk, _, μ, Mu.upd_same, hk, ?_, ?_⟩
    · exact Mu.Sub.refl _
    · rw [List.take_length]
      exact hq
theorem lc_map {s : Src} {g : DTG} {de : DTE} {ρ : Rho} {Q : List D → Mu → Prop} {μ : Mu} (f : D → D) (hh : s.held μ) (hs : s.its.length ≤ 100000)
    (hb : ∀ x, x ∈ s.its → ∀ μ' (Qy : DK), s.held μ' → Qy (f x) μ' → g x ρ μ' fun ρ2 μ2 => de ρ2 μ2 Qy)
    (hq : Q (s.its.map f) μ) : lcIn s g dYes de ρ Q μ := by
  refine lc_fm (fun _ => true) f hh hs (fun x hx μ' Qy Qn hd q => ?_) ?_
  · exact hb x hx μ' Qy hd q
  · rw [List.filter_eq_self.mpr fun _ _ => rfl]
    exact hq
/-- .. that leave new cells behind -/
theorem lc_grow {s : Src} {g : DTG} {de : DTE} {ρ : Rho} {Q : List D → Mu → Prop} {μ : Mu} (f : D → D) (hh : s.held μ) (hs : s.its.length ≤ 100000)
    (hb : ∀ x, x ∈ s.its → ∀ μ' (Qy : DK), s.held μ' → (∀ μ4, Mu.Sub μ' μ4 → Qy (f x) μ4) → g x ρ μ' fun ρ2 μ2 => de ρ2 μ2 Qy)
    (hq : Q (s.its.map f) μ) : lcIn s g dYes de ρ Q μ := by
  intro k hk
  have held : ∀ {xs : List D} {μ' : Mu}, Mu.Sub (μ.upd k xs) μ' → s.held μ' := fun {xs μ'} sb p hp => sb _ _ (held_upd hh hk p hp)
  refine ⟨fun i μ' => Mu.Sub (μ.upd k ((s.its.take i).map f)) μ', Mu.Sub.refl _, fun i x μ' hi w => ⟨held w, ?_⟩, fun μ' w => ⟨held w, s.its.map f, μ, ?_, hk, ?_, hq⟩⟩
  · have hx : x ∈ s.its := List.mem_of_getElem? hi
    have hl : i < s.its.length := (List.getElem?_eq_some_iff.mp hi).1
    refine hb x hx _ _ (held w) fun μ4 sb => ⟨_, sb _ _ (w _ _ Mu.upd_same), sz_lt ?_, ?_⟩
    · rw [List.length_map, List.length_take]
      omega
    · have h1 := (w.trans sb).upd k ((s.its.take i).map f ++ [f x])
      rw [Mu.upd_upd] at h1
      show Mu.Sub (μ.upd k ((s.its.take (i + 1)).map f)) _
      rw [List.take_add_one, hi, List.map_append]
      exact h1
  · have := w k _ Mu.upd_same
    rw [List.take_length] at this
    exact this
  · have w : Mu.Sub (μ.upd k ((s.its.take s.its.length).map f)) μ' := w
    rw [List.take_length] at w
    exact w
theorem Mu.keep {μ : Mu} {j k : Nat} {xs ys : List D} (h : μ j = some ys) (n : μ k = none) : (μ.upd k xs) j = some ys := (Mu.upd_ne (Mu.ne_of h n)).trans h
theorem sAll_map {xs : List D} {b : D → Bool} {μ : Mu} {Q : DK} (h : Q (.bl (xs.all b)) μ) : sAll (xs.map fun x => .bl (b x)) μ Q := by
  refine ⟨xs.map b, by rw [List.map_map]; rfl, ?_⟩
  rw [List.all_map]
  exact h
theorem sAny_map {xs : List D} {b : D → Bool} {μ : Mu} {Q : DK} (h : Q (.bl (xs.any b)) μ) : sAny (xs.map fun x => .bl (b x)) μ Q := by
  refine ⟨xs.map b, by rw [List.map_map]; rfl, ?_⟩
  rw [List.any_map]
  exact h
theorem atI_map {β γ : Type} (f : β → γ) (xs : List β) (i : Int) : atI (xs.map f) i = (atI xs i).map f := by
  unfold L2.atI
  rw [List.length_map]
  cases ixN xs.length i with
  | none => rfl
  | some j => exact List.getElem?_map

theorem natlit (n : Nat) : ((no_index (OfNat.ofNat n : Nat)) : Int) = (OfNat.ofNat n : Int) := rfl
theorem permG2_10 {β : Type} (a b : β) (l : List β) : permG [1, 0] l [a, b] = [b, a] := rfl
theorem permG3_210 {β : Type} (a b c : β) (l : List β) : permG [2, 1, 0] l [a, b, c] = [c, b, a] := rfl
theorem zl_0 : (0 ≤ sizeLine) = True := eq_true (sz1000 (by decide))
theorem zl_1 : (1 ≤ sizeLine) = True := eq_true (sz1000 (by decide))
theorem zl_2 : (2 ≤ sizeLine) = True := eq_true (sz1000 (by decide))
theorem zl_3 : (3 ≤ sizeLine) = True := eq_true (sz1000 (by decide))
theorem zl_4 : (4 ≤ sizeLine) = True := eq_true (sz1000 (by decide))
theorem zl_5 : (5 ≤ sizeLine) = True := eq_true (sz1000 (by decide))
theorem zl_6 : (6 ≤ sizeLine) = True := eq_true (sz1000 (by decide))
theorem zl_7 : (7 ≤ sizeLine) = True := eq_true (sz1000 (by decide))
theorem zl_8 : (8 ≤ sizeLine) = True := eq_true (sz1000 (by decide))
theorem zl_9 : (9 ≤ sizeLine) = True := eq_true (sz1000 (by decide))
theorem zl_10 : (10 ≤ sizeLine) = True := eq_true (sz1000 (by decide))
theorem zl_11 : (11 ≤ sizeLine) = True := eq_true (sz1000 (by decide))
theorem zl_12 : (12 ≤ sizeLine) = True := eq_true (sz1000 (by decide))
theorem zl_13 : (13 ≤ sizeLine) = True := eq_true (sz1000 (by decide))
theorem zl_14 : (14 ≤ sizeLine) = True := eq_true (sz1000 (by decide))
theorem zl_15 : (15 ≤ sizeLine) = True := eq_true (sz1000 (by decide))
theorem zl_16 : (16 ≤ sizeLine) = True := eq_true (sz1000 (by decide))
theorem zl_17 : (17 ≤ sizeLine) = True := eq_true (sz1000 (by decide))
theorem zl_18 : (18 ≤ sizeLine) = True := eq_true (sz1000 (by decide))
theorem zl_19 : (19 ≤ sizeLine) = True := eq_true (sz1000 (by decide))
theorem zl_20 : (20 ≤ sizeLine) = True := eq_true (sz1000 (by decide))
/-- what is still to be run: U -/
def Nx (u V : Rho → Mu → Prop) : Prop := ∀ ρ μ μ', Mu.Sub μ' μ → u ρ μ' → V ρ μ
theorem Nx.go {u V : Rho → Mu → Prop} {ρ : Rho} {μ : Mu} (h : Nx u V) (q : u ρ μ) : V ρ μ := h ρ μ μ (Mu.Sub.refl μ) q
theorem Nx.fgt {u V : Rho → Mu → Prop} {ρ : Rho} {μ μ' : Mu} (h : Nx u V) (s : Mu.Sub μ' μ) (q : u ρ μ') : V ρ μ := h ρ μ μ' s q
theorem sq {t u : DTS} {D : DEnds} {ρ : Rho} {μ : Mu} (h : ∀ U, Nx (u D) U → t ⟨U, D.rt, D.bk, D.ct⟩ ρ μ) : dSeq t u D ρ μ := h _ fun _ _ μ' s q => ⟨μ', s, q⟩
end Dl
/-! Ev2: comprehensions over a typed list. -/
namespace Dl
open PySem PySem.Spec PyProof.Rows L2
theorem lc_ty {β : Type} {l : List β} {e : β → D} {kp : List (Nat × List D)} {g : DTG} {tt : DTT} {de : DTE} {ρ : Rho} {Q : List D → Mu → Prop} {μ : Mu} (p : β → Bool) (f : β → D) (hh : (⟨l.map e, kp⟩ : Src).held μ) (hs : l.length ≤ 100000)
    (hb : ∀ b, b ∈ l → ∀ μ' (Qy : DK) (Qn : Mu → Prop), Mu.Sub μ μ' → (if p b = true then Qy (f b) μ' else Qn μ') → g (e b) ρ μ' fun ρ2 μ2 => tt ρ2 μ2 fun c μ3 => if c = true then de ρ2 μ3 Qy else Qn μ3)
    (hq : Q ((l.filter p).map f) μ) : lcIn ⟨l.map e, kp⟩ g tt de ρ Q μ := by
  intro k hk
  refine ⟨fun i μ' => μ' = μ.upd k (((l.take i).filter p).map f), rfl, fun i x μ' hi w => ?_, fun μ' w => ?_⟩
  · subst w
    have hi : (l.map e)[i]? = some x := hi
    rw [List.getElem?_map] at hi
    obtain ⟨b, hib, rfl⟩ := Option.map_eq_some_iff.mp hi
    have hx : b ∈ l := List.mem_of_getElem? hib
    have hl : i < l.length := (List.getElem?_eq_some_iff.mp hib).1
    have et : l.take (i + 1) = l.take i ++ [b] := by rw [List.take_add_one, hib]; rfl
    refine ⟨held_upd hh hk, hb b hx _ _ _ (Mu.sub_upd hk) ?_⟩
    cases hp : p b with
    | true =>
      rw [if_pos rfl]
      refine ⟨_, Mu.upd_same, sz_lt ?_, ?_⟩
      · rw [List.length_map]
        have h1 := List.length_filter_le p (l.take i)
        rw [List.length_take] at h1
        omega
      · show _ = μ.upd k (((l.take (i + 1)).filter p).map f)
        rw [Mu.upd_upd, et, List.filter_append, List.map_append, List.filter_cons_of_pos hp]
        rfl
    | false =>
      rw [if_neg (by decide)]
      show _ = μ.upd k (((l.take (i + 1)).filter p).map f)
      rw [et, List.filter_append, List.filter_cons_of_neg (by rw [hp]; decide)]
      simp
  · have w : μ' = μ.upd k (((l.take (l.map e).length).filter p).map f) := w
    subst w
    refine ⟨held_upd hh hk, _, μ, Mu.upd_same, hk, Mu.Sub.refl _, ?_⟩
    rw [List.length_map, List.take_length]
    exact hq
theorem lc_tm {β : Type} {l : List β} {e : β → D} {kp : List (Nat × List D)} {g : DTG} {de : DTE} {ρ : Rho} {Q : List D → Mu → Prop} {μ : Mu} (f : β → D) (hh : (⟨l.map e, kp⟩ : Src).held μ) (hs : l.length ≤ 100000)
    (hb : ∀ b, b ∈ l → ∀ μ' (Qy : DK), Mu.Sub μ μ' → Qy (f b) μ' → g (e b) ρ μ' fun ρ2 μ2 => de ρ2 μ2 Qy)
    (hq : Q (l.map f) μ) : lcIn ⟨l.map e, kp⟩ g dYes de ρ Q μ := by
  refine lc_ty (fun _ => true) f hh hs (fun b hb' μ' Qy Qn hd q => hb b hb' μ' Qy hd q) ?_
  rw [List.filter_eq_self.mpr fun _ _ => rfl]
  exact hq
theorem sAll_ty {β : Type} {l : List β} {b : β → Bool} {μ : Mu} {Q : DK} (h : Q (.bl (l.all b)) μ) : sAll (l.map fun x => .bl (b x)) μ Q := by
  refine ⟨l.map b, by rw [List.map_map]; rfl, ?_⟩
  rw [List.all_map]
  exact h
theorem sAny_ty {β : Type} {l : List β} {b : β → Bool} {μ : Mu} {Q : DK} (h : Q (.bl (l.any b)) μ) : sAny (l.map fun x => .bl (b x)) μ Q := by
  refine ⟨l.map b, by rw [List.map_map]; rfl, ?_⟩
  rw [List.any_map]
  exact h
theorem all_yes {β : Type} (l : List β) : l.all (fun _ => true) = true := by
  induction l with
  | nil => rfl
  | cons a l ih => exact ih
/-! ### what == looks at -/
structure EqOk (μ : Mu) (d : D) (p : PyData) (dep : Nat) : Prop where
  rs : Rs μ d p
  cl : p.canLay0 = true
  dp : p.depth ≤ dep
structure EqAll (μ : Mu) (ds : List D) (ps : List PyData) (dep : Nat) : Prop where
  rs : RsAll μ ds ps
  cl : PyData.canLayAll0 ps = true
  dp : PyData.depthAll ps ≤ dep
section
variable {μ : Mu}
theorem EqOk.int (i : Int) : EqOk μ (.int i) (.int i) 0 := ⟨.int i, rfl, by simp [PyData.depth]⟩
theorem EqOk.bl (b : Bool) : EqOk μ (.bl b) (.bool b) 0 := ⟨.bl b, rfl, by simp [PyData.depth]⟩
theorem EqOk.non : EqOk μ .non .none 0 := ⟨.non, rfl, by simp [PyData.depth]⟩
theorem EqAll.nil : EqAll μ [] [] 0 := ⟨.nil, rfl, by simp [PyData.depthAll]⟩
theorem EqAll.cons {d : D} {ds : List D} {p : PyData} {ps : List PyData} {a : Nat} (h : EqOk μ d p a) (t : EqAll μ ds ps a) : EqAll μ (d :: ds) (p :: ps) a := by
  refine ⟨.cons h.rs t.rs, ?_, ?_⟩
  · simp only [PyData.canLayAll0, h.cl, t.cl, Bool.and_self]
  · have h1 := h.dp
    have h2 := t.dp
    simp only [PyData.depthAll]
    omega
theorem EqAll.emp {a : Nat} : EqAll μ [] [] a := ⟨.nil, rfl, by simp [PyData.depthAll]⟩
theorem EqOk.mono {d : D} {p : PyData} {a b : Nat} (h : EqOk μ d p a) (hb : a ≤ b) : EqOk μ d p b := ⟨h.rs, h.cl, Nat.le_trans h.dp hb⟩
theorem EqOk.tup {ds : List D} {ps : List PyData} {a : Nat} (h : EqAll μ ds ps a) : EqOk μ (.tup ds) (.tuple ps) (a + 1) := by
  refine ⟨.tup h.rs, ?_, ?_⟩
  · simp only [PyData.canLay0, h.cl]
  · have := h.dp
    simp only [PyData.depth]
    omega
theorem EqOk.lst {k : Nat} {ds : List D} {ps : List PyData} {a : Nat} (e : μ k = some ds) (h : EqAll μ ds ps a) : EqOk μ (.cell k) (.list ps) (a + 1) := by
  refine ⟨.cell e h.rs, ?_, ?_⟩
  · simp only [PyData.canLay0, h.cl]
  · have := h.dp
    simp only [PyData.depth]
    omega
theorem EqAll.map {β : Type} {f : β → D} {g : β → PyData} {a : Nat} : ∀ {xs : List β}, (∀ x, x ∈ xs → EqOk μ (f x) (g x) a) → EqAll μ (xs.map f) (xs.map g) a
  | [], _ => .emp
  | x :: xs, h => .cons (h x (List.mem_cons_self ..)) (EqAll.map fun y hy => h y (List.mem_cons_of_mem _ hy))
theorem ask_deep {neg : Bool} {x y : D} {p q : PyData} {a b : Nat} {Q : DK} (h1 : EqOk μ x p a) (h2 : EqOk μ y q b) (ha : a ≤ 64) (hb : b ≤ 64) (k : Q (.bl (if neg = true then !PyData.eqv p q else PyData.eqv p q)) μ) : deepEq neg x y μ Q :=
  ⟨p, q, h1.rs, h2.rs, by unfold SeqAt.shaped; rw [h1.cl, decide_eq_true (Nat.le_trans h1.dp ha)]; rfl, by unfold SeqAt.shaped; rw [h2.cl, decide_eq_true (Nat.le_trans h2.dp hb)]; rfl, k⟩
theorem ask_same {x y : D} {p : PyData} {a : Nat} {Q : DK} (h1 : EqOk μ x p a) (h2 : EqOk μ y p a) (ha : a ≤ 64) (k : Q (.bl false) μ) : deepEq true x y μ Q := by
  refine ask_deep h1 h2 ha ha ?_
  rw [if_pos rfl, SeqAt.eqv_refl p h1.cl]
  exact k
end
end Dl
/-! Rp: what repr shows, by data. -/
namespace Dl
open PySem PySem.Spec PyProof.Rows L2
structure RpOk (μ : Mu) (d : D) (p : PyData) (n dep : Nat) : Prop where
  rs : Rs μ d p
  sh : p.showable = true
  nd : p.hasDict = false
  ls : p.leavesShort 24 = true
  bk : p.bulk ≤ n
  dp : p.depth ≤ dep
structure RpAll (μ : Mu) (ds : List D) (ps : List PyData) (n dep : Nat) : Prop where
  rs : RsAll μ ds ps
  sh : PyData.showableAll ps = true
  nd : PyData.hasDictAll ps = false
  ls : PyData.leavesShortAll 24 ps = true
  bk : PyData.bulkAll ps ≤ n
  dp : PyData.depthAll ps ≤ dep
section
variable {μ : Mu}
theorem RpOk.non : RpOk μ .non .none 0 0 := ⟨.non, by simp [PyData.showable], by simp [PyData.hasDict], by simp [PyData.leavesShort], by simp [PyData.bulk], by simp [PyData.depth]⟩
theorem RpOk.bl (b : Bool) : RpOk μ (.bl b) (.bool b) 0 0 := ⟨.bl b, by simp [PyData.showable], by simp [PyData.hasDict], by simp [PyData.leavesShort], by simp [PyData.bulk], by simp [PyData.depth]⟩
theorem log_of {n : Nat} (h : n < 10 ^ 22) : n.log2 < 1920 := by
  rcases Nat.eq_zero_or_pos n with rfl | h0
  · decide
  · exact (Nat.log2_lt (by omega)).mpr (Nat.lt_trans h (by decide))
theorem RpOk.int {i : Int} (h : i.natAbs < 10 ^ 22) : RpOk μ (.int i) (.int i) 0 0 := ⟨.int i, by simp only [PyData.showable]; exact decide_eq_true (log_of h), by simp [PyData.hasDict], by
  simp only [PyData.leavesShort]
  refine decide_eq_true ?_
  have := PySem.int_text_length_le10 (a := i) (k := 22) (by decide) h
  have e := PySem.ofString_length (toString i)
  show (Str.ofString (toString i)).length ≤ 24
  omega, by simp [PyData.bulk], by simp [PyData.depth]⟩
theorem RpOk.str {x : Str} (h : (x.cps.toList.all fun c => decide (c < 16 ^ 8)) = true) : RpOk μ (.str x) (.str x) x.cps.size 0 := ⟨.str x, by simp [PyData.showable], by simp [PyData.hasDict], by simp only [PyData.leavesShort]; exact h, by simp [PyData.bulk], by simp [PyData.depth]⟩
theorem RpOk.mono {d : D} {p : PyData} {n dep n' dep' : Nat} (h : RpOk μ d p n dep) (hn : n ≤ n') (hd : dep ≤ dep') : RpOk μ d p n' dep' := ⟨h.rs, h.sh, h.nd, h.ls, Nat.le_trans h.bk hn, Nat.le_trans h.dp hd⟩
theorem RpAll.nil : RpAll μ [] [] 0 0 := ⟨.nil, by simp [PyData.showableAll], by simp [PyData.hasDictAll], by simp [PyData.leavesShortAll], by simp [PyData.bulkAll], by simp [PyData.depthAll]⟩
theorem RpAll.cons {d : D} {ds : List D} {p : PyData} {ps : List PyData} {n m a b : Nat} (h : RpOk μ d p n a) (t : RpAll μ ds ps m b) : RpAll μ (d :: ds) (p :: ps) (n + 1 + m) (max a b) := by
  refine ⟨.cons h.rs t.rs, ?_, ?_, ?_, ?_, ?_⟩
  · simp only [PyData.showableAll, h.sh, t.sh, Bool.and_self]
  · simp only [PyData.hasDictAll, h.nd, t.nd, Bool.or_self]
  · simp only [PyData.leavesShortAll, h.ls, t.ls, Bool.and_self]
  · have h1 := h.bk
    have h2 := t.bk
    simp only [PyData.bulkAll]
    omega
  · have h1 := h.dp
    have h2 := t.dp
    simp only [PyData.depthAll]
    omega
theorem RpOk.tup {ds : List D} {ps : List PyData} {n dep : Nat} (h : RpAll μ ds ps n dep) : RpOk μ (.tup ds) (.tuple ps) n (dep + 1) := by
  refine ⟨.tup h.rs, ?_, ?_, ?_, ?_, ?_⟩
  · simp only [PyData.showable, h.sh]
  · simp only [PyData.hasDict, h.nd]
  · simp only [PyData.leavesShort, h.ls]
  · simp only [PyData.bulk]
    exact h.bk
  · have := h.dp
    simp only [PyData.depth]
    omega
theorem RpOk.lst {k : Nat} {ds : List D} {ps : List PyData} {n dep : Nat} (e : μ k = some ds) (h : RpAll μ ds ps n dep) : RpOk μ (.cell k) (.list ps) n (dep + 1) := by
  refine ⟨.cell e h.rs, ?_, ?_, ?_, ?_, ?_⟩
  · simp only [PyData.showable, h.sh]
  · simp only [PyData.hasDict, h.nd]
  · simp only [PyData.leavesShort, h.ls]
  · simp only [PyData.bulk]
    exact h.bk
  · have := h.dp
    simp only [PyData.depth]
    omega
theorem RpAll.map {β : Type} {f : β → D} {g : β → PyData} {c dep : Nat} : ∀ {xs : List β}, (∀ x, x ∈ xs → RpOk μ (f x) (g x) c dep) → RpAll μ (xs.map f) (xs.map g) (xs.length * (c + 1)) dep
  | [], _ => by
    have := RpAll.nil (μ := μ)
    exact ⟨this.rs, this.sh, this.nd, this.ls, Nat.le_trans this.bk (Nat.zero_le _), Nat.le_trans this.dp (Nat.zero_le _)⟩
  | x :: xs, h => by
    have h1 := RpAll.cons (h x (List.mem_cons_self ..)) (RpAll.map fun y hy => h y (List.mem_cons_of_mem _ hy))
    refine ⟨h1.rs, h1.sh, h1.nd, h1.ls, Nat.le_trans h1.bk ?_, Nat.le_trans h1.dp (by omega)⟩
    rw [List.length_cons, Nat.add_mul]
    omega
theorem ask_repr {d : D} {p : PyData} {n dep : Nat} {Q : DK} (h : RpOk μ d p n dep) (hd : isDisplay p = true) (h1 : n ≤ 500000) (h2 : dep ≤ 60) (q : Q (.str p.shown) μ) : cRepr [d] μ Q := by
  refine ⟨p, h.rs, hd, h.sh, h.nd, Nat.le_trans h.dp h2, ?_, q⟩
  have a := PyData.shown_le_bulk 24 (by decide) p h.ls
  have b := h.bk
  have e : (24 + 2) * p.bulk + 24 ≤ 13000024 := by omega
  have s : 13000024 ≤ sizeLine := by decide
  omega
end
end Dl
/-! Rb: repr of a bool, or of a display. -/
namespace Dl
open PySem PySem.Spec PyProof.Rows L2
section
variable {X : Cx} {K : PySem.W.Frag} {α : List Addr} {H : Hp}
def shownB (b : Bool) : Str := if b = true then Str.ofString "True" else Str.ofString "False"
def cRepr2 : List D → Mu → DK → Prop := fun ds μ Q => match ds with
  | [.bl b] => Q (.str (shownB b)) μ
  | ds => cRepr ds μ Q
theorem cr2_bl (b : Bool) (μ : Mu) (Q : DK) : cRepr2 [.bl b] μ Q = Q (.str (shownB b)) μ := rfl
theorem c_repr2 (hgd : X.A.guards = some []) (hu : X.A.units + 64 < cLine) : CallD X (.builtin "repr") cRepr2 := by
  obtain ⟨r, h1, h2⟩ := (c_repr (X := X) hgd hu).ex
  refine ⟨fun xs H Q => (∃ b, xs = [.bl b] ∧ Q (.str (shownB b)) H) ∨ r xs H Q, ?_, ?_⟩
  · intro pins s σ H xs us Q I vr h
    rcases h with ⟨b, rfl, q⟩ | h
    · obtain ⟨u, rfl, rv⟩ := vals1 vr
      cases rv
      refine P.repr_of_bool ?_
      exact ⟨.str (shownB b), H, I.kept (t' := s.toks + 1) (fun _ _ e => e), ⟨_, rfl⟩, q⟩
    · exact h1 pins s σ H xs us Q I vr h
  · intro α H μ xs dxs Qd Q S rx h post
    unfold cRepr2 at h
    split at h
    · rename_i b
      obtain ⟨v, rfl, rv⟩ := rl1 rx
      cases rv
      exact .inl ⟨b, rfl, post.here S (.str _) h⟩
    · exact .inr (h2 α H μ xs _ Qd Q S rx h post)
end
theorem ask_repr2 {μ : Mu} {d : D} {p : PyData} {n dep : Nat} {Q : DK} (h : RpOk μ d p n dep) (hd : isDisplay p = true) (h1 : n ≤ 500000) (h2 : dep ≤ 60) (q : Q (.str p.shown) μ) : cRepr2 [d] μ Q := by
  unfold cRepr2
  split
  · rename_i b e
    cases e
    have := h.rs
    cases this
    cases hd
  · exact ask_repr h hd h1 h2 q
end Dl
/-! End: a law's end, from its promise over data; the module's names off the head's facts. -/
namespace Dl
open PySem PySem.Spec PyProof.Rows L2

/-- the only thing followed is a list at a, which never changes -/
structure Lone (K : PySem.W.Frag) (a : Addr) (H : Hp) : Prop where
  off : ∀ b, b ≠ a → H b = none
  on : ∀ u, H a = some u → K.lookup a = none ∧ ∃ ob xs, u = .frz ob (.lst xs)

theorem call_end {P : Program} {w : World} {K : PySem.W.Frag} {mg mb : Str → Option Value} {k : Nat} {f a : Addr} {fd : FuncData} {x : Str} {sp : DSp} {s : Shared} {ws : List Value} {ns : List Int}
    (hK : K.In s.heap) (h1 : s.heap.Ns mainGlobals mg) (h2 : s.heap.Ns builtinsNs mb) (h3 : ∀ y : Str, y ≠ "__name__" → mb y = bootBuiltins y) (h4 : s.heap.NoLimit) (h5 : s.gens = #[])
    (at_ : s.heap.get? a = some { cls := .type "list", data := .seq ws.toArray }) (iv : IntsAre ws ns) (hr : Room k callerA) (bd : BindsTo s fd ⟨[.ref a], []⟩ [(x, .ref a)])
    (F : ∀ base : Heap, FnG P w K mg base k f fd [x] sp) (hsp : ∀ Q : DK, (∀ μ, Q (.bl true) μ) → sp [.frz (ns.map D.int)] (fun _ => none) Q)
    {H : Hp} (lone : Lone K a H) (hok : HOk P w H s.heap) (fz : FrzL K H a (ns.map V.int)) :
    codeAny (model P w) callerA (.call (.ref f) ⟨[.ref a], []⟩) (fun r s' => r = .ok (.ret (.bool true)) ∧ OldK s.heap s'.heap ∧ s'.os = s.os ∧ AllBare s'.gens) s := by
  have dict0 : ∀ b ob es ep, s.heap.get? b = some ob → ob.data = .dict es ep → H b = none := by
    intro b ob es ep e d
    by_cases q : b = a
    · rw [q, at_] at e
      rw [← Option.some.inj e] at d
      cases d
    · exact lone.off b q
  have ns_ : ∀ {b : Addr} {m : Str → Option Value}, s.heap.Ns b m → (hidT s.heap H).Ns b m := by
    rintro b m ⟨ob, es, ep, e, d, r⟩
    exact ⟨ob, es, ep, hidT_get e (dict0 b ob es ep e d), d, r⟩
  have kin : K.In (hidT s.heap H) := by
    intro b ob e
    refine hidT_get (hK b ob e) ?_
    by_cases q : b = a
    · cases hu : H b with
      | none => rfl
      | some u =>
        rw [q] at hu e
        rw [(lone.on u hu).1] at e
        cases e
    · exact lone.off b q
  have md : Mod K mg (hidT s.heap H) := by
    obtain ⟨mc, l1, l2⟩ := h4
    exact ⟨kin, ns_ h1, ⟨mb, ns_ h2, h3⟩, mc, ns_ l1, l2⟩
  have no0 : ∀ b, b ∉ frs ([] : List Env) := fun b z => by cases z
  have e0 : Env0 P w K mg (hidT s.heap H) callerA [] s H :=
    { frames := rfl, mod := md, bs := fun b ob e => of_hidT e, bsz := by rw [hidT_size]; exact Nat.le_refl _, funs := trivial, frf := fun b z => (no0 b z).elim, hok := hok, bare := .of_eq h5 }
  have sat : Sat K [] H (fun _ => none) :=
    { cell := fun k xs e => (by cases e), inj := fun j k b e => (by rw [List.getElem?_nil] at e; cases e), live := fun k b e => (by rw [List.getElem?_nil] at e; cases e) }
  have run := (F (hidT s.heap H)).run callerA [] s H ⟨[.ref a], []⟩ [.ref a] [.ref a] [] (fun _ => none) [.frz (ns.map D.int)] (fun d _ => d = .bl true) (fun v _ => v = .bl true) hr rfl e0 rfl bd (.cons rfl .nil) sat
    (.cons (.frz fz (rlInts ns)) .nil) (hsp _ fun _ => rfl) (by
      intro v H' α' μ' d _ _ r e
      subst e
      cases r
      rfl)
  refine codeAny_mono run fun r s' h => ?_
  match r, h with
  | .error e, h => exact h.elim
  | .ok (.ret u), ⟨v, H', os, bare, un, hok', rv, e⟩ =>
    subst e
    have eu : u = Value.bool true := rv
    rw [eu]
    refine ⟨rfl, OldK.of_keep fun b ob q => ?_, os, bare⟩
    cases hu : H b with
    | none => exact un.keep b ob q hu (no0 b) (fun z => by cases z)
    | some v =>
      by_cases qa : b = a
      · rw [qa] at hu q ⊢
        obtain ⟨_, oz, xs, rfl⟩ := lone.on v hu
        have p1 := (hok a _ hu).1
        have p2 := (hok' a _ (un.frzs a oz _ hu)).1
        rw [q] at p1
        rw [Option.some.inj p1]
        exact p2
      · rw [lone.off b qa] at hu
        cases hu
theorem call_law {P : Program} {w : World} {K : PySem.W.Frag} {mg mb : Str → Option Value} {k : Nat} {f a : Addr} {fd : FuncData} {x : Str} {sp : DSp} {s : Shared} {ws : List Value} {ns : List Int}
    (hK : K.In s.heap) (h1 : s.heap.Ns mainGlobals mg) (h2 : s.heap.Ns builtinsNs mb) (h3 : ∀ y : Str, y ≠ "__name__" → mb y = bootBuiltins y) (h4 : s.heap.NoLimit) (h5 : s.gens = #[])
    (at_ : s.heap.get? a = some { cls := .type "list", data := .seq ws.toArray }) (iv : IntsAre ws ns) (hl : ns.length ≤ sizeLine) (hr : Room k callerA) (bd : BindsTo s fd ⟨[.ref a], []⟩ [(x, .ref a)])
    (F : ∀ base : Heap, FnG P w K mg base k f fd [x] sp) (hsp : ∀ Q : DK, (∀ μ, Q (.bl true) μ) → sp [.frz (ns.map D.int)] (fun _ => none) Q) :
    codeAny (model P w) callerA (.call (.ref f) ⟨[.ref a], []⟩) (fun r s' => r = .ok (.ret (.bool true)) ∧ OldK s.heap s'.heap ∧ s'.os = s.os ∧ AllBare s'.gens) s := by
  have rv := vals_ints iv
  cases hk : K.lookup a with
  | some ob =>
    have e := hK a ob hk
    rw [at_] at e
    cases e
    refine call_end hK h1 h2 h3 h4 h5 at_ iv hr bd F hsp (H := fun _ => none) ⟨fun _ _ => rfl, fun u z => by cases z⟩ (fun b u z => by cases z) (.inr (.inr ⟨_, ws.toArray, _, hk, rfl, rfl, rfl, ?_, ?_⟩))
    · rw [List.size_toArray, iv.length]
      exact hl
    · simpa using rv
  | none =>
    refine call_end hK h1 h2 h3 h4 h5 at_ iv hr bd F hsp (H := upd (fun _ => none) a (.frz { cls := .type "list", data := .seq ws.toArray } (.lst (ns.map V.int)))) ⟨fun b q => L2.upd_ne q, fun u z => ?_⟩ (fun b u z => ?_) (.inl ⟨_, L2.upd_same⟩)
    · rw [L2.upd_same] at z
      exact ⟨hk, _, _, (Option.some.inj z).symm⟩
    · by_cases q : b = a
      · subst q
        rw [L2.upd_same] at z
        cases z
        exact ⟨at_, by rw [List.length_map]; exact hl, ws, _, rv, at_⟩
      · rw [L2.upd_ne q] at z
        cases z

/-! ### the head's facts -/
/-- a def of the top, of no default -/
def mkD (p : Str × Stmt) : He.DefD := ⟨(p.1, none), p.1, p.1, defArgs p.2, defBody p.2, defScope p.2, [], []⟩
theorem txt_of {K : PySem.W.Frag} {h : Heap} {mg : Str → Option Value} (X : K.In h) (G : h.Ns mainGlobals mg) {fa : List He.Fa} {fn : List He.DefD} (c : He.SaysD fa fn K) {x : Str} {st : Stmt} (i j : Nat)
    (hi : fn[i]? = some (mkD (x, st))) (hj : fa[j]? = some (.glo x)) : Txt K mg x st := by
  obtain ⟨fd, F⟩ := c.def_ i hi
  have g := He.glo_ok X G (c.fact j hj)
  obtain ⟨oc, od, dV, kV, doc, pm, an, cdv, ct, osl, e, lk, hcd, hD, hKw⟩ := F.ex
  have e0 : dV = .none := by
    rcases hD with ⟨_, q⟩ | ⟨q, _⟩
    · exact q
    · exact (q rfl).elim
  subst e0
  exact ⟨_, fd, g, ⟨oc, od, kV, doc, pm, an, cdv, ct, osl, e, lk, hcd⟩, F.kp⟩
theorem gc_int {K : PySem.W.Frag} {h : Heap} {mg : Str → Option Value} (X : K.In h) (G : h.Ns mainGlobals mg) {fa : List He.Fa} {fn : List He.DefD} (c : He.SaysD fa fn K) {x : Str} {n : Int} (j : Nat) (hj : fa[j]? = some (.int x n)) : Gc K mg x (.int n) := by
  obtain ⟨t, e⟩ := He.int_ok X G (c.fact j hj)
  exact ⟨.int n, _, e, ⟨t, rfl⟩, fun _ _ => .int n⟩
theorem gc_str {K : PySem.W.Frag} {h : Heap} {mg : Str → Option Value} (X : K.In h) (G : h.Ns mainGlobals mg) {fa : List He.Fa} {fn : List He.DefD} (c : He.SaysD fa fn K) {x z : Str} (j : Nat) (hj : fa[j]? = some (.str x z)) : Gc K mg x (.str z) := by
  obtain ⟨t, e⟩ := He.str_ok X G (c.fact j hj)
  exact ⟨.str z, _, e, ⟨t, rfl⟩, fun _ _ => .str z⟩
theorem walk_ofD {l : PySem.W.OpenLaw} {n k : Nat} {q : Program} {loose : List Str} {XP : (Str → Option Value) → Heap → Prop} {YP : World → Heap → Prop} {d : DefRec} {x : Str} {st : Stmt} {sp : DSp}
    (hn : l.most = some n) (hn2 : n ≤ sizeLine) (hdf : d.params.defaults = []) (hr : Room k callerA)
    (F : ∀ (w : World) (mg : Str → Option Value) (h : Heap), YP w h → h.Ns mainGlobals mg →
      ∃ K : PySem.W.Frag, K.In h ∧ ∀ base, Has l.prog w K mg base k d.name st [x] sp)
    (bd : ∀ (kV doc pm : Value) (an : Option Addr) (cdv ct u : Value), bindArgs (PySem.W.fnOf d.name d.name (defArgs st) (defBody st) (defScope st) .none kV doc pm an cdv ct) ⟨[u], []⟩ = pure [(x, u)])
    (hsp : ∀ (ns : List Int) (Q : DK), ns.length ≤ n → (∀ μ, Q (.bl true) μ) → sp [.frz (ns.map D.int)] (fun _ => none) Q) :
    PySem.W.WalkO q loose XP YP l.row.toRowW d [] (fun f vs => PySem.call f vs) := by
  refine Att.attach_call hn hdf fun w s₀ s₁ mg mb fa o pm cd doc a vs ns G Y ho hd hcd hmg hobj hints hlen hg => ?_
  obtain ⟨K, X, hF⟩ := F w mg _ Y G.T.g
  obtain ⟨f0, fd0, m0, Fn0, _⟩ := (hF s₁.heap).ex
  have ef : f0 = fa := by
    rw [hmg] at m0
    cases m0
    rfl
  subst ef
  have all : ∀ base, FnG l.prog w K mg base k f0 fd0 [x] sp := by
    intro base
    obtain ⟨f1, fd1, m1, Fn1, R1⟩ := (hF base).ex
    rw [m0] at m1
    cases m1
    obtain ⟨oc, od, kV, doc, pm, an, cdv, ct, osl, rfl, lk, _⟩ := Fn0.ex
    obtain ⟨oc1, od1, kV1, doc1, pm1, an1, cdv1, ct1, osl1, rfl, lk1, _⟩ := Fn1.ex
    rw [lk] at lk1
    cases lk1
    exact R1
  have b0 : BindsTo s₁ fd0 ⟨[.ref a], []⟩ [(x, .ref a)] := by
    obtain ⟨oc, od, kV, doc, pm, an, cdv, ct, osl, rfl, lk, _⟩ := Fn0.ex
    exact .of_eq (bd kV doc pm an cdv ct (.ref a))
  exact call_law X G.T.g G.T.b G.T.builtins G.T.nolimit hg hobj hints (Nat.le_trans hlen hn2) hr b0 all fun Q hQ => hsp ns Q hlen hQ
end Dl
namespace K40
open PySem PySem.Spec PyProof.Rows L2 Dl
def topS (i : Nat) : Stmt := PySem.Challenge.pw_seatworks_k40_whole_fewest_votes.main.body.getD i (.Pass ⟨0, 0, 0, 0⟩)
abbrev S_is_integer : Stmt := topS 1
abbrev S_is_tuple : Stmt := topS 3
abbrev S_common : Stmt := topS 12
abbrev S_is_less : Stmt := topS 15
abbrev S_is_at_most : Stmt := topS 16
abbrev S_with_votes : Stmt := topS 41
abbrev S_law_pot : Stmt := topS 54
abbrev S_law_draw : Stmt := topS 55
abbrev S_law_post : Stmt := topS 58
abbrev S_law_tuples : Stmt := topS 60
abbrev S_law_with : Stmt := topS 71
abbrev S_is_within : Stmt := topS 2
abbrev S_lowest : Stmt := topS 13
abbrev S_is_fraction_any : Stmt := topS 14
abbrev S_with_moved : Stmt := topS 48
abbrev S_law_pick : Stmt := topS 56
abbrev S_law_is_by : Stmt := topS 59
abbrev S_is_small : Stmt := topS 21
abbrev S_signpost : Stmt := topS 23
abbrev S_is_row_of_votes : Stmt := topS 29
abbrev S_want_goal : Stmt := topS 39
abbrev S_law_rule : Stmt := topS 57
abbrev S_law_deals : Stmt := topS 61
abbrev S_is_rule_any : Stmt := topS 22
abbrev S_price_at : Stmt := topS 32
abbrev S_law_does_hold : Stmt := topS 69
abbrev S_is_race_any : Stmt := topS 30
abbrev S_deal_with : Stmt := topS 34
abbrev S_law_first : Stmt := topS 70
abbrev S_want_race : Stmt := topS 31
abbrev S_other_price : Stmt := topS 40
abbrev S_ends_of : Stmt := topS 42
abbrev S_want_list : Stmt := topS 38
abbrev S_least_votes_for : Stmt := topS 43
abbrev S_most_votes_for : Stmt := topS 44
abbrev S_does_hold : Stmt := topS 47
abbrev S_more_votes : Stmt := topS 45
abbrev S_less_votes : Stmt := topS 46
abbrev S_moved_votes : Stmt := topS 49
abbrev S_fewest_more : Stmt := topS 50
abbrev S_fewest_less : Stmt := topS 51
abbrev S_fewest_moved : Stmt := topS 52
abbrev S_law_right : Stmt := topS 72
abbrev S_law : Stmt := topS 73
def defsL0 : List (Str × Stmt) := [("is_integer", S_is_integer), ("is_tuple", S_is_tuple), ("common", S_common), ("is_less", S_is_less), ("is_at_most", S_is_at_most), ("with_votes", S_with_votes), ("_law_pot", S_law_pot), ("_law_draw", S_law_draw), ("_law_post", S_law_post), ("_law_tuples", S_law_tuples), ("_law_with", S_law_with), ("is_within", S_is_within), ("lowest", S_lowest), ("is_fraction_any", S_is_fraction_any), ("with_moved", S_with_moved), ("_law_pick", S_law_pick), ("_law_is_by", S_law_is_by), ("is_small", S_is_small), ("signpost", S_signpost), ("is_row_of_votes", S_is_row_of_votes), ("want_goal", S_want_goal), ("_law_rule", S_law_rule), ("_law_deals", S_law_deals), ("is_rule_any", S_is_rule_any), ("price_at", S_price_at), ("_law_does_hold", S_law_does_hold), ("is_race_any", S_is_race_any), ("deal_with", S_deal_with), ("_law_first", S_law_first), ("want_race", S_want_race)]
def defsL1 : List (Str × Stmt) := [("other_price", S_other_price), ("ends_of", S_ends_of), ("want_list", S_want_list), ("least_votes_for", S_least_votes_for), ("most_votes_for", S_most_votes_for), ("does_hold", S_does_hold), ("more_votes", S_more_votes), ("less_votes", S_less_votes), ("moved_votes", S_moved_votes), ("fewest_more", S_fewest_more), ("fewest_less", S_fewest_less), ("fewest_moved", S_fewest_moved), ("_law_right", S_law_right), ("law", S_law)]
def defsL : List (Str × Stmt) := defsL0 ++ defsL1
def fa0 : List He.Fa := [.glo "is_integer", .glo "is_tuple", .glo "common", .glo "is_less", .glo "is_at_most", .glo "with_votes", .glo "_law_pot", .glo "_law_draw", .glo "_law_post", .glo "_law_tuples", .glo "_law_with", .glo "is_within", .glo "lowest", .glo "is_fraction_any", .glo "with_moved", .glo "_law_pick", .glo "_law_is_by", .glo "is_small", .glo "signpost", .glo "is_row_of_votes", .glo "want_goal", .glo "_law_rule", .glo "_law_deals", .glo "is_rule_any", .glo "price_at", .glo "_law_does_hold", .glo "is_race_any", .glo "deal_with", .glo "_law_first", .glo "want_race"]
def fa1 : List He.Fa := [.glo "other_price", .glo "ends_of", .glo "want_list", .glo "least_votes_for", .glo "most_votes_for", .glo "does_hold", .glo "more_votes", .glo "less_votes", .glo "moved_votes", .glo "fewest_more", .glo "fewest_less", .glo "fewest_moved", .glo "_law_right", .glo "law", .free "abs", .free "all", .free "any", .free "bool", .free "divmod", .free "enumerate", .free "int", .free "isinstance", .free "len", .free "list", .free "max", .free "min", .free "range", .free "repr", .free "str", .free "sum"]
def fa2 : List He.Fa := [.free "tuple", .free "zip", .str "EACH" "each", .int "MOST_BOTTOM" 999, .int "MOST_FIRSTS" 4, .int "MOST_HOUSE" 200, .int "MOST_LISTS" 12, .int "MOST_VOTES" 1000000000, .str "RACE" "race", .str "RULE" "rule", .str "SOME" "some"]
def fa : List He.Fa := fa0 ++ fa1 ++ fa2
def names0 : List PySem.Str := ["is_integer", "is_within", "is_tuple", "WorkError", "InvalidWord", "InvalidFurther", "InvalidNumber", "InvalidRace", "InvalidSeats", "common", "lowest", "is_fraction_any", "is_less", "is_at_most", "RULE", "MOST_FIRSTS", "MOST_BOTTOM", "is_small", "is_rule_any", "signpost", "RACE", "MOST_LISTS", "MOST_VOTES", "MOST_HOUSE", "is_row_of_votes", "is_race_any", "want_race", "price_at", "deal_with", "SOME"]
def names1 : List PySem.Str := ["EACH", "want_list", "want_goal", "other_price", "with_votes", "ends_of", "least_votes_for", "most_votes_for", "more_votes", "less_votes", "does_hold", "with_moved", "moved_votes", "fewest_more", "fewest_less", "fewest_moved", "_law_pot", "_law_draw", "_law_pick", "_law_rule", "_law_post", "_law_is_by", "_law_tuples", "_law_deals", "_law_within", "_law_lowest", "_law_is_whole", "_law_is_fraction", "_law_rounds", "_law_ends_of"]
def names2 : List PySem.Str := ["_law_ranges", "_law_does_hold", "_law_first", "_law_with", "_law_right"]
def names : List PySem.Str := names0 ++ names1 ++ names2
def fn : List He.DefD := defsL.map mkD
abbrev topR : PySem.W.OpenRow := PySem.W.OpenLaw.row PySem.Challenge.rw_seatworks_k40_whole_fewest_votes
abbrev topK : PySem.W.Hook := He.hookD 4 fa fn
def topB (s : PySem.W.SharedT) : He.AlD := He.obsDG 4 fa fn (HandSHeadRun.getT s)
theorem topB_eq (s : PySem.W.SharedT) : topB s = topK.obs s.abs := He.obsDG_eq (HandSHeadRun.getT_eq s)
theorem topRun (w : World) : HandSHeadRun.RunEq topR (PySem.W.view topR.prog [73]) topK topB 6000 names w := by
  intro os
  kernel_rfl
end K40
/-! Tm: tuple * int for any number (HandS.TupMul holds it from 2 on). -/
namespace L2
open PySem PySem.Spec PyProof.Rows
theorem tuple_mul1 (l : Addr) (items : Array Value) (n : Nat) (dd : Option Addr) (sl : Array (Option Value)) (x : Int) (u : Tok) (c0 : (decide (x < -(2 ^ 63)) || decide (x ≥ 2 ^ 63)) = false) (c1 : (items.isEmpty || x == 1) = true) :
    Meets (Builtin.«tuple.__mul__» ⟨[.ref l, .int x u], []⟩) (fun _ R s => s.heap.get? l = some { cls := .type "tuple", dict := dd, data := .seq items n, slots := sl } ∧
      R (.ok (.ret (Value.ref l))) { s with heap := s.heap, toks := s.toks }) :=
  .of_wp fun prog w A R s h => by
    obtain ⟨hp, g, d, tk, os⟩ := s
    obtain ⟨hl, h⟩ := h
    have f1 := AutoSeq1.idx_int
    wp_walk using wpAny_loadPart' hl
    repeat (first
      | (refine wpAny_ite_false (decide_eq_false (by rw [c0]; exact Bool.false_ne_true)) ?_; wp_walk using wpAny_loadPart' hl)
      | (refine wpAny_ite_true (decide_eq_true c1) ?_; wp_walk using wpAny_loadPart' hl))
    exact ⟨_, rfl, h⟩
theorem tuple_mul0 (l : Addr) (items : Array Value) (n : Nat) (dd : Option Addr) (sl : Array (Option Value)) (x : Int) (u : Tok) (c0 : (decide (x < -(2 ^ 63)) || decide (x ≥ 2 ^ 63)) = false) (c1 : (items.isEmpty || x == 1) = false) (c2 : (decide (x ≤ 0) || items.isEmpty) = true) :
    Meets (Builtin.«tuple.__mul__» ⟨[.ref l, .int x u], []⟩) (fun _ R s => s.heap.get? l = some { cls := .type "tuple", dict := dd, data := .seq items n, slots := sl } ∧
      R (.ok (.ret (Value.ref s.heap.objs.size))) { s with heap := s.heap.push { cls := Value.type "tuple", data := Data.seq #[] }, toks := s.toks }) :=
  .of_wp fun prog w A R s h => by
    obtain ⟨hp, g, d, tk, os⟩ := s
    obtain ⟨hl, h⟩ := h
    have f1 := AutoSeq1.idx_int
    wp_walk using wpAny_loadPart' hl
    repeat (first
      | (refine wpAny_ite_false (decide_eq_false (by rw [c0]; exact Bool.false_ne_true)) ?_; wp_walk using wpAny_loadPart' hl)
      | (refine wpAny_ite_false (decide_eq_false (by rw [c1]; exact Bool.false_ne_true)) ?_; wp_walk using wpAny_loadPart' hl)
      | (refine wpAny_ite_true (decide_eq_true c2) ?_; wp_walk using wpAny_loadPart' hl))
    exact ⟨_, rfl, h⟩
/-- t * k -/
def rRepA (K : PySem.W.Frag) : R2 := fun x y H Q => ∃ l k xs, x = .ref l ∧ y = .int k ∧ SqT K H l xs ∧ -(2 ^ 63) ≤ k ∧ k ≤ 1000 ∧ xs.length ≤ 1000 ∧ ((xs = [] ∨ k = 1) → Q (.ref l) H) ∧ (xs ≠ [] → k ≠ 1 → ∀ p, H p = none → Q (.ref p) (upd H p (.tup (List.replicate k.toNat xs).flatten)))
section
variable {X : Cx}
theorem op_repA : OpR X (binaryOp .Mult) (rRepA X.K) := by
  intro pins s σ H x y v u Q I rx ry h
  obtain ⟨l, k, xs, rfl, rfl, hT, h0, h2, hz, q1, q2⟩ := h
  by_cases big : xs ≠ [] ∧ 2 ≤ k
  · exact op_repT pins s σ H _ _ v u Q I rx ry ⟨l, k, xs, rfl, rfl, hT, big.1, big.2, h2, hz, q2 big.1 (by omega)⟩
  cases rx
  obtain ⟨t, rfl⟩ := ry
  obtain ⟨its, r, ⟨⟨cls, dd, data, sl⟩, ho, hc, n, hd⟩, hs⟩ := I.tuple hT
  simp only at hc hd
  subst hc hd
  have hle : its.length = xs.length := r.length.symm
  have c0 : (decide (k < -(2 ^ 63)) || decide (k ≥ 2 ^ 63)) = false := by
    rw [decide_eq_false (by omega), decide_eq_false (by omega)] <;> rfl
  by_cases one : xs = [] ∨ k = 1
  · have c1 : (its.toArray.isEmpty || k == 1) = true := by
      rcases one with e | e
      · subst e
        have : its = [] := List.eq_nil_of_length_eq_zero hle
        subst this
        rfl
      · subst e
        simp
    refine wpAny_binaryOp_repeat_ref (T := "tuple") (U := "int") (by decide) ⟨_, ho, rfl⟩ (fun s' => typeIs_int s' k t) noFill_tuple_mul F.fills_int_mul F.slot_int_rmul repeat_tuple F.slot_int_index.lookup
      (call_meets F.slot_int_rmul (typeIs_int s k t) F.entry_int_rmul (F.args_int_rmul_2 _ _) (int_rmul_tuple k t l its.toArray n dd sl)
        ⟨ho, rfl, ⟨_, ho, rfl⟩, call_meets F.slot_tuple_mul ⟨_, ho, rfl⟩ F.entry_tuple_mul (F.args_tuple_mul_2 _ _) (tuple_mul1 l its.toArray n dd sl k t c0 c1) ⟨ho, ?_⟩⟩)
    exact ⟨.ref l, H, I, rfl, q1 one⟩
  · have hn : its.toArray.isEmpty = false := by
      cases its with
      | nil =>
        exact absurd (.inl (List.eq_nil_of_length_eq_zero hle.symm)) one
      | cons a b => rfl
    have k1 : k ≠ 1 := fun e => one (.inr e)
    have ne : xs ≠ [] := fun e => one (.inl e)
    have k0 : k ≤ 0 := by
      have : ¬ 2 ≤ k := fun e => big ⟨ne, e⟩
      omega
    have c1 : (its.toArray.isEmpty || k == 1) = false := by
      rw [hn, Bool.false_or]
      exact beq_eq_false_iff_ne.mpr k1
    have c2 : (decide (k ≤ 0) || its.toArray.isEmpty) = true := by
      rw [decide_eq_true k0, Bool.true_or]
    refine wpAny_binaryOp_repeat_ref (T := "tuple") (U := "int") (by decide) ⟨_, ho, rfl⟩ (fun s' => typeIs_int s' k t) noFill_tuple_mul F.fills_int_mul F.slot_int_rmul repeat_tuple F.slot_int_index.lookup
      (call_meets F.slot_int_rmul (typeIs_int s k t) F.entry_int_rmul (F.args_int_rmul_2 _ _) (int_rmul_tuple k t l its.toArray n dd sl)
        ⟨ho, rfl, ⟨_, ho, rfl⟩, call_meets F.slot_tuple_mul ⟨_, ho, rfl⟩ F.entry_tuple_mul (F.args_tuple_mul_2 _ _) (tuple_mul0 l its.toArray n dd sl k t c0 c1 c2) ⟨ho, ?_⟩⟩)
    have e0 : (List.replicate k.toNat xs).flatten = [] := by
      rw [show k.toNat = 0 by omega]
      rfl
    have q3 := q2 ne k1 _ (I.hok.fresh (Nat.le_refl _))
    rw [e0] at q3
    refine ⟨.ref s.heap.objs.size, _, I.laid (t' := s.toks) (o := .tup []) (fun b ob q => Heap.get?_push_of_some _ q) (Nat.le_refl _) ?_, rfl, q3⟩
    exact ⟨by rw [sizeLine_eq]; decide, [], .nil, IsTup.new _ _⟩
end
end L2
namespace Dl
open PySem PySem.Spec PyProof.Rows L2
variable {K : PySem.W.Frag} {α α1 : List Addr} {H H1 : Hp} {X : Cx}
/-- * of ints, of a list and an int, of a tuple and an int -/
def oTimes2 : D → D → Mu → DK → Prop := fun x y μ Q => match x, y with
  | .tup xs, .int n => (-(2 ^ 63) ≤ n ∧ n ≤ 1000 ∧ xs.length ≤ 1000) ∧ Q (.tup (List.replicate n.toNat xs).flatten) μ
  | x, y => oTimes x y μ Q
theorem rep_rel {vs : List V} {ds : List D} (r : RlAll K α H vs ds) : ∀ n : Nat, RlAll K α H (List.replicate n vs).flatten (List.replicate n ds).flatten
  | 0 => .nil
  | n + 1 => by
    rw [List.replicate_succ, List.replicate_succ]
    exact r.append (rep_rel r n)
theorem o_times2 : OpD X (binaryOp .Mult) oTimes2 := by
  obtain ⟨r1, a1, a2⟩ := (o_times (X := X)).ex
  refine ⟨_, OpR.or op_repA a1, fun α H μ x y dx dy Qd Q S rx ry h post => ?_⟩
  unfold oTimes2 at h
  split at h
  · rename_i xs n
    cases rx with
    | tup q r =>
      cases ry
      obtain ⟨⟨h0, h1, h2⟩, h3⟩ := h
      refine .inl ⟨_, _, _, rfl, rfl, q, h0, h1, by rw [r.length]; exact h2, fun e => ?_, fun e e' p hp => ?_⟩
      · have : (List.replicate n.toNat xs).flatten = xs := by
          rcases e with e | e
          · have lx := r.length
            rw [e] at lx
            have : xs = [] := List.eq_nil_of_length_eq_zero lx.symm
            subst this
            generalize n.toNat = m
            induction m with
            | zero => rfl
            | succ m ih => rw [List.replicate_succ, List.flatten_cons, ih]; rfl
          · subst e
            rw [show (1 : Int).toNat = 1 from rfl]
            simp
        rw [this] at h3
        exact post.here S (.tup q r) h3
      · exact post.tup S (rep_rel r n.toNat) h3 hp
  · exact .inr (a2 α H μ x y _ _ Qd Q S rx ry h post)
end Dl
/-! Lz: list(zip(a, b)), list(enumerate(a)), over lists or tuples: the tuples given out are held. -/
namespace PySem
open Sem (wp)
section
variable {prog : Program} {w : World} {A : Around} {E : Value → Shared → Prop} {s : Shared} {z TI TO T i1 i2 : Addr} {f : Bool} {oT : Obj} {fp1 fp2 : List Addr} {n1 n2 i : Nat} {P1 P2 : Nat → Value → Prop} {St1 St2 : Nat → Heap → Prop}
theorem lz_next {Q : Value → Shared → Prop} (S : ZipSep2 z TI TO i1 i2 fp1 fp2) (D1 : Draws prog w A i1 fp1 n1 P1 St1) (D2 : Draws prog w A i2 fp2 n2 P2 St2)
    (hz : IsZipHeld s.heap z TI TO T f) (hT : s.heap.get? T = some oT) (hTI : IsTupOf2 s.heap TI (.ref i1) (.ref i2)) (st1 : St1 i s.heap) (st2 : St2 i s.heap) (hlt1 : i < n1) (hlt2 : i < n2)
    (hQ : ∀ x1 x2 h' tk, P1 i x1 → P2 i x2 → IsZipHeld h' z TI TO T true → St1 (i + 1) h' → St2 (i + 1) h' → IsTupOf2 h' s.heap.objs.size x1 x2 → h'.objs.size = s.heap.objs.size + 1 →
      (∀ c o, c ≠ z → c ≠ i1 → c ≠ i2 → s.heap.get? c = some o → h'.get? c = some o) → Q (.ref s.heap.objs.size) { s with heap := h', toks := tk }) :
    wpAny (model prog w) A (Builtin.«zip.__next__» ⟨[.ref z], []⟩) (fun fin s' => ∃ v, fin = .done (.ret v) ∧ Q v s') E s := by
  obtain ⟨hp, g, d, tk0, os⟩ := s
  show wpAny _ _ (field (.ref z) 2 >>= _) _ _ _
  refine wpAny_bind (wpAny_field hz rfl (x := .bool false) rfl ?_)
  show wpAny _ _ (field (.ref z) 3 >>= _) _ _ _
  refine wpAny_bind (wpAny_field hz rfl (x := .ref TI) rfl ?_)
  refine wpAny_bind (wpAny_seqItems hTI rfl ?_)
  show wpAny _ _ (Builtin.SmallTypes.ownedTupleIsFree (.ref z) >>= _) _ _ _
  refine wpAny_bind (wpAny_tupleHeld_zip hz hT fun g0 hz0 hs0 => ?_)
  replace hs0 : Heap.SameBut z hp g0 := hs0
  simp only [Bool.false_eq_true, if_false]
  refine wpAny_bind ?_
  rw [← Array.forIn_toList]
  simp only [List.forIn_cons, List.forIn_nil]
  refine wpAny_bind (wpAny_bind (wpAny_holding ?_))
  show wpAny _ _ (Builtin.SmallTypes.nextOf (.ref i1) >>= _) _ _ ⟨g0, g, d, tk0, os⟩
  refine wpAny_bind (D1.item i _ _ _ hlt1 (D1.over st1 hs0 S.zf1) fun x1 p1 tk1 hx1 sn1 hp1 => wpAny_pure ?_)
  replace hp1 : Heap.SameBut i1 g0 p1 := hp1
  refine wpAny_pure ?_
  refine wpAny_bind (wpAny_bind (wpAny_holding ?_))
  show wpAny _ _ (Builtin.SmallTypes.nextOf (.ref i2) >>= _) _ _ ⟨p1, g, d, tk1, os⟩
  refine wpAny_bind (D2.item i _ _ _ hlt2 (D2.over (D2.over st2 hs0 S.zf2) hp1 S.sep1_2) fun x2 p2 tk2 hx2 sn2 hp2 => wpAny_pure ?_)
  replace hp2 : Heap.SameBut i2 p1 p2 := hp2
  refine wpAny_pure (wpAny_pure ?_)
  show wpAny _ _ (newTuple [x1, x2] >>= _) _ _ _
  refine wpAny_bind (wpAny_newTuple ?_)
  have hsz : p2.objs.size = hp.objs.size := by rw [hp2.1, hp1.1, hs0.1]
  have hz2 : IsZipHeld p2 z TI TO T true := hp2.extBut _ _ S.zi2 (hp1.extBut _ _ S.zi1 hz0)
  have hk : ∀ c o, c ≠ z → c ≠ i1 → c ≠ i2 → hp.get? c = some o → p2.get? c = some o := fun c o c1 c2 c3 e => hp2.extBut _ _ c3 (hp1.extBut _ _ c2 (hs0.extBut _ _ c1 e))
  have up : ∀ (b : Addr) (o : Obj), p2.get? b = some o → (p2.push { cls := .type "tuple", data := .seq #[x1, x2] }).get? b = some o := fun b o e => Heap.get?_push_of_some _ e
  have sn1' := D1.over sn1 hp2 S.sep2_1
  have sn2' := sn2
  refine wpAny_pure ⟨_, rfl, ?_⟩
  show Q (.ref p2.objs.size) _
  have hpair : IsTupOf2 (p2.push { cls := .type "tuple", data := .seq #[x1, x2] }) p2.objs.size x1 x2 := Heap.get?_push_size _ rfl
  have hz4 : (p2.push { cls := .type "tuple", data := .seq #[x1, x2] }).objs.size = p2.objs.size + 1 := Heap.size_push ..
  rw [hsz] at hpair hz4 ⊢
  exact hQ x1 x2 _ tk2 hx1 hx2 (up _ _ hz2) (D1.frame _ _ _ sn1' fun b _ o e => up b o e) (D2.frame _ _ _ sn2' fun b _ o e => up b o e) hpair hz4 fun c o c1 c2 c3 e => up c o (hk c o c1 c2 c3 e)
theorem lz_end {Q : Fin → Shared → Prop} (S : ZipSep2 z TI TO i1 i2 fp1 fp2) (D1 : Draws prog w A i1 fp1 n1 P1 St1) (D2 : Draws prog w A i2 fp2 n2 P2 St2)
    (hz : IsZipHeld s.heap z TI TO T f) (hT : s.heap.get? T = some oT) (hTI : IsTupOf2 s.heap TI (.ref i1) (.ref i2)) (st1 : St1 i s.heap) (st2 : St2 i s.heap) (hle1 : i ≤ n1) (hle2 : i ≤ n2) (hend : i = n1 ∨ i = n2)
    (hE : ∀ h' tk e, (∀ c o, c ≠ z → c ≠ i1 → c ≠ i2 → s.heap.get? c = some o → h'.get? c = some o) → (∃ o, h'.get? e = some o ∧ o.cls = .type "StopIteration") → E (.ref e) { s with heap := h', toks := tk }) :
    wpAny (model prog w) A (Builtin.«zip.__next__» ⟨[.ref z], []⟩) Q E s := by
  obtain ⟨hp, g, d, tk0, os⟩ := s
  show wpAny _ _ (field (.ref z) 2 >>= _) _ _ _
  refine wpAny_bind (wpAny_field hz rfl (x := .bool false) rfl ?_)
  show wpAny _ _ (field (.ref z) 3 >>= _) _ _ _
  refine wpAny_bind (wpAny_field hz rfl (x := .ref TI) rfl ?_)
  refine wpAny_bind (wpAny_seqItems hTI rfl ?_)
  show wpAny _ _ (Builtin.SmallTypes.ownedTupleIsFree (.ref z) >>= _) _ _ _
  refine wpAny_bind (wpAny_tupleHeld_zip hz hT fun g0 hz0 hs0 => ?_)
  replace hs0 : Heap.SameBut z hp g0 := hs0
  simp only [Bool.false_eq_true, if_false]
  refine wpAny_bind ?_
  rw [← Array.forIn_toList]
  simp only [List.forIn_cons, List.forIn_nil]
  refine wpAny_bind (wpAny_bind (wpAny_holding ?_))
  show wpAny _ _ (Builtin.SmallTypes.nextOf (.ref i1) >>= _) _ _ ⟨g0, g, d, tk0, os⟩
  by_cases hlt1 : i < n1
  · refine wpAny_bind (D1.item i _ _ _ hlt1 (D1.over st1 hs0 S.zf1) fun x1 p1 tk1 hx1 sn1 hp1 => wpAny_pure ?_)
    replace hp1 : Heap.SameBut i1 g0 p1 := hp1
    refine wpAny_pure ?_
    have hi2 : i = n2 := by omega
    refine wpAny_bind (wpAny_bind (wpAny_holding ?_))
    show wpAny _ _ (Builtin.SmallTypes.nextOf (.ref i2) >>= _) _ _ ⟨p1, g, d, tk1, os⟩
    refine wpAny_bind (D2.done ⟨p1, g, d, tk1, os⟩ _ _ (by rw [← hi2]; exact D2.over (D2.over st2 hs0 S.zf2) hp1 S.sep1_2) fun q e hq he => ?_)
    replace hq : Heap.ExtBut i2 p1 q := hq
    exact hE q tk1 e (fun c o c1 c2 c3 x => hq _ _ c3 (hp1.extBut _ _ c2 (hs0.extBut _ _ c1 x))) he
  · have hi1 : i = n1 := by omega
    refine wpAny_bind (D1.done ⟨g0, g, d, tk0, os⟩ _ _ (by rw [← hi1]; exact D1.over st1 hs0 S.zf1) fun q e hq he => ?_)
    replace hq : Heap.ExtBut i1 g0 q := hq
    exact hE q tk0 e (fun c o c1 c2 c3 x => hq _ _ c2 (hs0.extBut _ _ c1 x)) he
theorem lz_pyNext {Q : Option Value → Shared → Prop} (S : ZipSep2 z TI TO i1 i2 fp1 fp2) (D1 : Draws prog w A.in1 i1 fp1 n1 P1 St1) (D2 : Draws prog w A.in1 i2 fp2 n2 P2 St2)
    (hz : IsZipHeld s.heap z TI TO T f) (hT : s.heap.get? T = some oT) (hTI : IsTupOf2 s.heap TI (.ref i1) (.ref i2)) (st1 : St1 i s.heap) (st2 : St2 i s.heap) (hlt1 : i < n1) (hlt2 : i < n2)
    (hQ : ∀ x1 x2 h' tk, P1 i x1 → P2 i x2 → IsZipHeld h' z TI TO T true → St1 (i + 1) h' → St2 (i + 1) h' → IsTupOf2 h' s.heap.objs.size x1 x2 → h'.objs.size = s.heap.objs.size + 1 →
      (∀ c o, c ≠ z → c ≠ i1 → c ≠ i2 → s.heap.get? c = some o → h'.get? c = some o) → Q (some (.ref s.heap.objs.size)) { s with heap := h', toks := tk }) :
    wpAny (model prog w) A (pyNext (.ref z)) Q E s := by
  have hTy : s.TypeIs (.ref z) "zip" := ⟨_, hz, rfl⟩
  unfold pyNext
  exact wpAny_bind (wpAny_attempt (wpAny_callSpecial?_slot (name := Str.ofString "__next__") hTy F.slot_zip_next
    (wpAny_call_entry F.slot_zip_next hTy F.entry_zip_next
      (lz_next S D1 D2 hz hT hTI st1 st2 hlt1 hlt2 fun x1 x2 h' tk a0 a00 a1 a3 a4 a5 a6 a7 => wpAny_pure (hQ x1 x2 h' tk a0 a00 a1 a3 a4 a5 a6 a7)) (F.args_zip_next_1 _))))
theorem lz_pyEnd {Q : Option Value → Shared → Prop} (S : ZipSep2 z TI TO i1 i2 fp1 fp2) (D1 : Draws prog w A.in1 i1 fp1 n1 P1 St1) (D2 : Draws prog w A.in1 i2 fp2 n2 P2 St2)
    (hz : IsZipHeld s.heap z TI TO T f) (hT : s.heap.get? T = some oT) (hTI : IsTupOf2 s.heap TI (.ref i1) (.ref i2)) (st1 : St1 i s.heap) (st2 : St2 i s.heap) (hle1 : i ≤ n1) (hle2 : i ≤ n2) (hend : i = n1 ∨ i = n2)
    (hQ : ∀ h' tk, (∀ c o, c ≠ z → c ≠ i1 → c ≠ i2 → s.heap.get? c = some o → h'.get? c = some o) → Q none { s with heap := h', toks := tk }) : wpAny (model prog w) A (pyNext (.ref z)) Q E s := by
  have hTy : s.TypeIs (.ref z) "zip" := ⟨_, hz, rfl⟩
  unfold pyNext
  refine wpAny_bind (wpAny_attempt (wpAny_callSpecial?_slot (name := Str.ofString "__next__") hTy F.slot_zip_next
    (wpAny_call_entry F.slot_zip_next hTy F.entry_zip_next (lz_end S D1 D2 hz hT hTI st1 st2 hle1 hle2 hend fun h' tk e hk he => ?_) (F.args_zip_next_1 _))))
  obtain ⟨o, ho, hc⟩ := he
  refine wpAny_bind (wpAny_isInstance (T := "StopIteration") (b := true) ⟨o, ho, hc⟩ isSubtype_stop ?_)
  exact wpAny_pure (hQ _ _ hk)
end
end PySem
namespace PySem.W
open PySem PySem.Calls PyProof.Rows PyProof.V PySem.Spec
/-- an iterator whose n items are new pairs, while the list at S is filled -/
structure TupSrc (prog : Program) (w : World) (A : Around) (I S : Addr) (wr : List Addr) (n : Nat) (P1 P2 : Nat → Value → Prop) (St : Nat → Heap → Prop) : Prop where
  frame : ∀ i h h', St i h → (∀ b o, b ≠ S → h.get? b = some o → h'.get? b = some o) → St i h'
  item : ∀ i (s : Shared) (Q : Option Value → Shared → Prop) (E : Value → Shared → Prop), i < n → St i s.heap → S < s.heap.objs.size →
    (∀ k v h' tk, P1 i k → P2 i v → h'.get? s.heap.objs.size = some { cls := .type "tuple", data := .seq #[k, v] } → St (i + 1) h' → (∀ b o, b ∉ wr → s.heap.get? b = some o → h'.get? b = some o) → Q (some (.ref s.heap.objs.size)) { s with heap := h', toks := tk }) → wpAny (model prog w) A (pyNext (.ref I)) Q E s
  done : ∀ (s : Shared) (Q : Option Value → Shared → Prop) (E : Value → Shared → Prop), St n s.heap →
    (∀ h' tk, (∀ b o, b ∉ wr → s.heap.get? b = some o → h'.get? b = some o) → Q none { s with heap := h', toks := tk }) → wpAny (model prog w) A (pyNext (.ref I)) Q E s
structure LzG (P1 P2 : Nat → Value → Prop) (lo : Addr) (h : Heap) (as : List Addr) : Prop where
  rise : as.Pairwise (· < ·)
  above : ∀ a ∈ as, lo ≤ a
  pairs : ∀ (j : Nat) (a : Addr), as[j]? = some a → ∃ k v, P1 j k ∧ P2 j v ∧ h.get? a = some { cls := .type "tuple", data := .seq #[k, v] }
theorem LzG.there {P1 P2 : Nat → Value → Prop} {lo : Addr} {h : Heap} {as : List Addr} (g : LzG P1 P2 lo h as) {a : Addr} (ha : a ∈ as) : a < h.objs.size := by
  obtain ⟨j, hj⟩ := List.mem_iff_getElem?.mp ha
  obtain ⟨_, _, _, _, e⟩ := g.pairs j a hj
  exact Heap.lt_size e
section
variable {prog : Program} {w : World} {A : Around} {s : Shared} {R : Result → Shared → Prop} {S I lo : Addr} {wr : List Addr} {n : Nat} {P1 P2 : Nat → Value → Prop} {St : Nat → Heap → Prop}
theorem lz_loop (T : TupSrc prog w A.in1 I S wr n P1 P2 St) (hn : n ≤ sizeLine) (off : S ∉ wr) (hwr : ∀ b ∈ wr, b < lo) (hSl : S < lo) (res : Value) {h₁ : Heap}
    (hR : ∀ h' tk acc c as, (∀ b o, b ≠ S → b ∉ wr → h₁.get? b = some o → h'.get? b = some o) → h'.get? S = some { cls := .type "list", dict := none, data := .seq acc c, slots := #[] } → as.length = n → LzG P1 P2 lo h' as →
      acc.toList = as.map Value.ref → R (.ok (.ret res)) { s with heap := h', toks := tk }) :
    ∀ (k i : Nat) (h : Heap) (tk : Tok) (c : Nat) (acc : Array Value) (as : List Addr), n - i = k → i ≤ n → St i h → (∀ b o, b ≠ S → b ∉ wr → h₁.get? b = some o → h.get? b = some o) →
      h.get? S = some { cls := .type "list", dict := none, data := .seq acc c, slots := #[] } → acc.toList = as.map Value.ref → as.length = i → LzG P1 P2 lo h as → lo ≤ h.objs.size →
      codeAny (model prog w) A (.builtin "list.extend.loop" ⟨[.ref S, .ref I, res], []⟩) R { s with heap := h, toks := tk } := by
  intro k
  induction k with
  | zero =>
    intro i h tk c acc as hk hi hst hkeep hS hacc hal hG hIs
    have hin : i = n := by omega
    subst hin
    refine codeAny_builtin PySem.F.entry_extend_loop ?_
    rw [Around.under_plainId PySem.F.plain_extend_loop _]
    show wpAny _ A.in1 (pyNext (.ref I) >>= _) _ _ _
    refine wpAny_bind (T.done { s with heap := h, toks := tk } _ _ hst fun h' tk' he => ?_)
    refine wpAny_pure (hR h' tk' acc c as (fun b o h1 h2 e => he b o h2 (hkeep b o h1 h2 e)) (he S _ off hS) hal ⟨hG.rise, hG.above, fun j a hj => ?_⟩ hacc)
    obtain ⟨k, v, a1, a2, e3⟩ := hG.pairs j a hj
    have ha := hG.above a (List.mem_of_getElem? hj)
    exact ⟨k, v, a1, a2, he a _ (fun q => absurd (hwr a q) (Nat.not_lt.mpr ha)) e3⟩
  | succ k ih =>
    intro i h tk c acc as hk hi hst hkeep hS hacc hal hG hIs
    have hlt : i < n := by omega
    have hsz : acc.size = i := by rw [← Array.length_toList, hacc, List.length_map, hal]
    refine codeAny_builtin PySem.F.entry_extend_loop ?_
    rw [Around.under_plainId PySem.F.plain_extend_loop _]
    show wpAny _ A.in1 (pyNext (.ref I) >>= _) _ _ _
    refine wpAny_bind (T.item i { s with heap := h, toks := tk } _ _ hlt hst (Heap.lt_size hS) fun kx vx h' tk' hk1 hk2 ht hst' hkp => ?_)
    dsimp only at ht hkp ⊢
    have hS' := hkp S _ off hS
    have up : ∀ b o, b ≠ S → h'.get? b = some o → (h'.update S (Obj.mapSeq (·.push (Value.ref h.objs.size)))).get? b = some o := fun b o hb e => (Heap.get?_update_other _ _ (Ne.symm hb)).trans e
    have hSl' : S < h.objs.size := Heap.lt_size hS
    show wpAny _ A.in1 (updateSeq S (·.push (Value.ref h.objs.size)) >>= _) _ _ _
    refine wpAny_bind ?_
    refine wpAny_updateSeq hS' rfl (wpAny_pure ⟨plainId_quiet PySem.F.plain_extend_loop _, ih (i + 1) _ tk' _ (acc.push (Value.ref h.objs.size)) (as ++ [h.objs.size]) (by omega) hlt (T.frame _ _ _ hst' up)
      (fun b o h1 h2 e => up b o h1 (hkp b o h2 (hkeep b o h1 h2 e))) (Heap.get?_update_self _ hS' rfl) (by rw [Array.toList_push, hacc, List.map_append]; rfl) (by rw [List.length_append, hal]; rfl) ⟨?_, ?_, ?_⟩ ?_⟩) (by rw [hsz]; omega) (by show (acc.push (Value.ref h.objs.size)).size ≤ sizeLine + 1; rw [Array.size_push, hsz]; omega)
    · refine List.pairwise_append.mpr ⟨hG.rise, List.pairwise_singleton _ _, fun a ha b hb => ?_⟩
      rw [List.mem_singleton.mp hb]
      exact hG.there ha
    · intro a ha
      rcases List.mem_append.mp ha with ha | ha
      · exact hG.above a ha
      · rw [List.mem_singleton.mp ha]; exact hIs
    · intro j b hj
      rcases Nat.lt_trichotomy j as.length with h1 | h1 | h1
      · rw [List.getElem?_append_left h1] at hj
        obtain ⟨k0, v0, a1, a2, e3⟩ := hG.pairs j b hj
        have hb := hG.above b (List.mem_of_getElem? hj)
        exact ⟨k0, v0, a1, a2, up b _ (Nat.ne_of_gt (Nat.lt_of_lt_of_le hSl hb)) (hkp b _ (fun q => absurd (hwr b q) (Nat.not_lt.mpr hb)) e3)⟩
      · subst h1
        have hb : h.objs.size = b := by simpa using hj
        subst hb
        subst hal
        exact ⟨kx, vx, hk1, hk2, up _ _ (Nat.ne_of_gt hSl') ht⟩
      · have hnone : (as ++ [h.objs.size])[j]? = none := List.getElem?_eq_none (by rw [List.length_append, List.length_singleton]; omega)
        rw [hnone] at hj; cases hj
    · have e : (h'.update S (Obj.mapSeq (·.push (Value.ref h.objs.size)))).get? h.objs.size = _ := up _ _ (Nat.ne_of_gt hSl') ht
      exact Nat.le_trans hIs (Nat.le_of_lt (Heap.lt_size e))
/-- list(x), x such an iterator: it is its own iterator and gives no hint of its length -/
theorem lz_call {Ty : String} {E : Value → Shared → Prop} {Q : Value → Shared → Prop} (hl : typeLookup (.type Ty) "__len__" = pure none) (hn0 : typeLookup (.type Ty) "__length_hint__" = pure none)
    (g2 : (Value.type Ty == Value.type "list") = false) (g3 : (Value.type Ty == Value.type "tuple") = false)
    (T : TupSrc prog w A.in1.in1 I s.heap.objs.size wr n P1 P2 St) (hn : n ≤ sizeLine) (hwr : ∀ b ∈ wr, b < s.heap.objs.size)
    (hT : ∀ s' : Shared, St 0 s'.heap → s'.TypeIs (.ref I) Ty) (self : ∀ (B : Around) (s' : Shared) (Q : Value → Shared → Prop) (E : Value → Shared → Prop), St 0 s'.heap → Q (.ref I) s' → wpAny (model prog w) B (pyIter (.ref I)) Q E s') (hst : St 0 s.heap) (hI : I < s.heap.objs.size)
    (hQ : ∀ h' tk acc c as, (∀ b o, b ∉ wr → s.heap.get? b = some o → h'.get? b = some o) → h'.get? s.heap.objs.size = some { cls := .type "list", dict := none, data := .seq acc c, slots := #[] } → as.length = n → LzG P1 P2 (s.heap.objs.size + 1) h' as →
      acc.toList = as.map Value.ref → Q (.ref s.heap.objs.size) { s with heap := h', toks := tk }) :
    wpAny (model prog w) A (call (.type "list") [.ref I]) Q E s := by
  refine callType_codes (Q₁ := fun obj s₁ => obj = .ref s.heap.objs.size ∧ s₁ = { s with heap := s.heap.push { cls := .type "list", data := .seq #[] } }) PySem.F.called_list (PySem.F.typeCall_list_1 _) PySem.F.entry_list_init
    (code_list_new _ ⟨rfl, rfl⟩) fun obj s₁ h₁ => ?_
  obtain ⟨rfl, rfl⟩ := h₁
  have hS : (s.heap.push { cls := .type "list", data := .seq #[] }).get? s.heap.objs.size = some { cls := .type "list", data := .seq #[] } := Heap.get?_push_size _ rfl
  have hne : s.heap.objs.size ≠ I := Nat.ne_of_gt hI
  refine ⟨⟨_, hS, rfl⟩, PySem.F.args_list_init_2 _ _, ?_⟩
  show wpAny _ _ (do let old ← Builtin.List.listItems (.ref s.heap.objs.size); Builtin.List.listUpdate (.ref s.heap.objs.size) (fun _ => #[]); letGo old.toList.reverse; Builtin.List.listExtendWith (.ref s.heap.objs.size) (.ref I) .none) _ _ _
  refine wpAny_bind ?_
  unfold Builtin.List.listItems
  refine wpAny_bind (wpAny_seqItems hS rfl (wpAny_pure ?_))
  show wpAny _ _ (updateSeq s.heap.objs.size (fun _ => #[]) >>= fun _ => letGo (#[] : Array Value).toList.reverse >>= fun _ => Builtin.List.listExtendWith (.ref s.heap.objs.size) (.ref I) .none) _ _ _
  refine wpAny_bind (wpAny_updateSeq hS rfl ?_)
  have hS₂ := Heap.get?_update_self (Obj.mapSeq (fun _ => (#[] : Array Value))) hS rfl
  refine wpAny_bind (wpAny_letGo ?_)
  have k2 : ∀ b o, b ≠ s.heap.objs.size → s.heap.get? b = some o → ((s.heap.push { cls := .type "list", data := .seq #[] }).update s.heap.objs.size (Obj.mapSeq (fun _ => (#[] : Array Value)))).get? b = some o :=
    fun b o hb e => (Heap.get?_update_other _ _ (Ne.symm hb)).trans (Heap.get?_push_of_some _ e)
  have st2 := T.frame 0 _ _ hst k2
  generalize (s.heap.push { cls := .type "list", data := .seq #[] }).update s.heap.objs.size (Obj.mapSeq (fun _ => (#[] : Array Value))) = h2 at hS₂ k2 st2 ⊢
  unfold Builtin.List.listExtendWith
  refine wpAny_bind (wpAny_typeOf (hT { s with heap := h2 } st2) ?_)
  have h1 : Builtin.List.listSameRef (.ref s.heap.objs.size) (.ref I) = false := by simp [Builtin.List.listSameRef, hne]
  simp only [h1, g2, g3, Bool.or_false, Bool.false_eq_true, if_false]
  refine wpAny_bind (self _ _ _ _ st2 ?_)
  refine wpAny_bind (wpAny_holding ?_)
  unfold Builtin.List.listLengthHint
  refine wpAny_bind (wpAny_specialOf (hT { s with heap := h2 } st2) hl ?_)
  show wpAny _ _ (specialOf (Value.ref I) (Str.ofString "__length_hint__") >>= _) _ _ _
  refine wpAny_bind (wpAny_specialOf (hT { s with heap := h2 } st2) hn0 ?_)
  refine wpAny_pure ?_
  show wpAny _ _ (rule "list.extend.makes-room" >>= fun _ => Builtin.List.listTouch (.ref s.heap.objs.size) >>= fun _ =>
    again (.builtin "list.extend.loop" ⟨[.ref s.heap.objs.size, .ref I, .none], []⟩)) _ _ _
  refine wpAny_bind (wpAny_rule ?_)
  refine wpAny_bind ?_
  show wpAny _ _ (updateSeq s.heap.objs.size (·.push .none) >>= fun _ => updateSeq s.heap.objs.size (·.pop)) _ _ _
  refine wpAny_bind (wpAny_updateSeq hS₂ rfl ?_)
  have hS₃ := Heap.get?_update_self (Obj.mapSeq (·.push Value.none)) hS₂ rfl
  refine wpAny_updateSeq (hz := by seq_fits) hS₃ rfl ?_
  have hS₄ := Heap.get?_update_self (Obj.mapSeq (·.pop)) hS₃ rfl
  have oth : ∀ b o, b ≠ s.heap.objs.size → h2.get? b = some o → ((h2.update s.heap.objs.size (Obj.mapSeq (·.push Value.none))).update s.heap.objs.size (Obj.mapSeq (·.pop))).get? b = some o :=
    fun b o hb e => (Heap.get?_update_other _ _ (Ne.symm hb)).trans ((Heap.get?_update_other _ _ (Ne.symm hb)).trans e)
  refine wpAny_pure ⟨plainId_quiet PySem.F.plain_extend_loop _, ?_⟩
  have off : s.heap.objs.size ∉ wr := fun q => Nat.lt_irrefl _ (hwr _ q)
  refine lz_loop (lo := s.heap.objs.size + 1) (h₁ := s.heap) (R := _) T hn off (fun b hb => Nat.lt_succ_of_lt (hwr b hb)) (Nat.lt_succ_self _) .none (fun h' tk acc c as hk hS' hl hG hacc => ?_)
    n 0 _ s.toks _ #[] [] (Nat.sub_zero _) (Nat.zero_le _) (T.frame _ _ _ st2 oth) (fun b o h1 h2 e => oth b o h1 (k2 b o h1 e)) hS₄ rfl rfl ⟨List.Pairwise.nil, (fun _ ha => nomatch ha), (fun j a hj => by simp at hj)⟩ (Nat.succ_le_of_lt (Heap.lt_size hS₄))
  exact ⟨rfl, hQ h' tk acc c as (fun b o hb e => hk b o (Nat.ne_of_lt (Heap.lt_size e)) hb e) hS' hl hG hacc⟩
end
end PySem.W
namespace PySem
open PySem.W
theorem zip_no_len : typeLookup (.type "zip") "__len__" = pure none := am_miss_of_fast (by decide +kernel)
theorem zip_no_hint : typeLookup (.type "zip") "__length_hint__" = pure none := am_miss_of_fast (by decide +kernel)
theorem tup_zip {prog : Program} {w : World} {A : Around} {z TI TO i1 i2 a b S : Addr} {n1 n2 : Nat} {P1 P2 : Nat → Value → Prop} {St1 St2 : Nat → Heap → Prop} (D : ZipSep2 z TI TO i1 i2 [i1, a] [i2, b])
    (D1 : Draws prog w A.in1 i1 [i1, a] n1 P1 St1) (D2 : Draws prog w A.in1 i2 [i2, b] n2 P2 St2) (hS : S ≠ z ∧ S ≠ TI ∧ S ≠ TO ∧ S ≠ i1 ∧ S ≠ i2 ∧ S ≠ a ∧ S ≠ b) (ha : a ≠ z ∧ b ≠ z) :
    TupSrc prog w A z S [z, TO, i1, i2] (min n1 n2) P1 P2 (fun i h => IsTupOf2 h TI (.ref i1) (.ref i2) ∧ St1 i h ∧ St2 i h ∧ ((IsZip h z TI TO .none ∧ ∃ x y, IsTupOf2 h TO x y) ∨ ∃ T f oT, IsZipHeld h z TI TO T f ∧ h.get? T = some oT ∧ T ≠ z ∧ T ≠ i1 ∧ T ≠ i2 ∧ T ≠ S ∧ 0 < i)) where
  frame := fun i h h' st k => by
    obtain ⟨s1, s2, s3, s4, s5, s6, s7⟩ := hS
    obtain ⟨hTI, st1, st2, hz⟩ := st
    refine ⟨k _ _ (Ne.symm s2) hTI, D1.frame _ _ _ st1 fun c hc o e => ?_, D2.frame _ _ _ st2 fun c hc o e => ?_, ?_⟩
    · refine k c o (fun q => ?_) e
      simp only [List.mem_cons, List.not_mem_nil, or_false] at hc
      rcases hc with r | r
      · exact s4 (q.symm.trans r)
      · exact s6 (q.symm.trans r)
    · refine k c o (fun q => ?_) e
      simp only [List.mem_cons, List.not_mem_nil, or_false] at hc
      rcases hc with r | r
      · exact s5 (q.symm.trans r)
      · exact s7 (q.symm.trans r)
    · rcases hz with ⟨hz, x, y, hTO⟩ | ⟨T, f, oT, hz, hT, r1, r2, r3, r4, r5⟩
      · exact .inl ⟨k _ _ (Ne.symm s1) hz, x, y, k _ _ (Ne.symm s3) hTO⟩
      · exact .inr ⟨T, f, oT, k _ _ (Ne.symm s1) hz, k _ _ r4 hT, r1, r2, r3, r4, r5⟩
  item := fun i s Q E hi st hl hQ => by
    obtain ⟨hTI, st1, st2, hz⟩ := st
    have l1 : i < n1 := Nat.lt_of_lt_of_le hi (Nat.min_le_left ..)
    have l2 : i < n2 := Nat.lt_of_lt_of_le hi (Nat.min_le_right ..)
    have lt : ∀ {c o}, s.heap.get? c = some o → s.heap.objs.size ≠ c := fun e => Nat.ne_of_gt (Heap.lt_size e)
    have x1 : s.heap.objs.size ≠ i1 := let ⟨_, e⟩ := D1.live _ _ st1; lt e
    have x2 : s.heap.objs.size ≠ i2 := let ⟨_, e⟩ := D2.live _ _ st2; lt e
    rcases hz with ⟨hz, x, y, hTO⟩ | ⟨T, f, oT, hz, hT, r1, r2, r3, r4, r5⟩
    · refine wpAny_pyNext_zipD2_item D D1 D2 hz hTI hTO st1 st2 l1 l2 fun u v h' tk a0 a1 a2 a3 a4 a5 a6 a7 hk => ?_
      exact hQ u v h' tk a0 a1 a6 ⟨hk _ _ D.TIz D.TITO D.TIi1 D.TIi2 hTI, a4, a5, .inr ⟨s.heap.objs.size, false, _, a2, a6, lt hz, x1, x2, Nat.ne_of_gt hl, Nat.succ_pos _⟩⟩
        fun c o hc e => hk c o (fun x => hc (by simp [x])) (fun x => hc (by simp [x])) (fun x => hc (by simp [x])) (fun x => hc (by simp [x])) e
    · refine lz_pyNext D D1 D2 hz hT hTI st1 st2 l1 l2 fun u v h' tk a0 a1 a2 a4 a5 a6 a7 hk => ?_
      exact hQ u v h' tk a0 a1 a6 ⟨hk _ _ D.TIz D.TIi1 D.TIi2 hTI, a4, a5, .inr ⟨T, true, oT, a2, hk _ _ r1 r2 r3 hT, r1, r2, r3, r4, Nat.succ_pos _⟩⟩
        fun c o hc e => hk c o (fun x => hc (by simp [x])) (fun x => hc (by simp [x])) (fun x => hc (by simp [x])) e
  done := fun s Q E st hQ => by
    obtain ⟨hTI, st1, st2, hz⟩ := st
    have l1 : min n1 n2 ≤ n1 := Nat.min_le_left ..
    have l2 : min n1 n2 ≤ n2 := Nat.min_le_right ..
    have l3 : min n1 n2 = n1 ∨ min n1 n2 = n2 := by omega
    rcases hz with ⟨hz, x, y, hTO⟩ | ⟨T, f, oT, hz, hT, r1, r2, r3, r4, r5⟩
    · exact wpAny_pyNext_zipD2_end D D1 D2 hz hTI hTO st1 st2 l1 l2 l3 fun h' tk hk => hQ h' tk fun c o hc e => hk c o (fun x => hc (by simp [x])) (fun x => hc (by simp [x])) (fun x => hc (by simp [x])) (fun x => hc (by simp [x])) e
    · exact lz_pyEnd D D1 D2 hz hT hTI st1 st2 l1 l2 l3 fun h' tk hk => hQ h' tk fun c o hc e => hk c o (fun x => hc (by simp [x])) (fun x => hc (by simp [x])) (fun x => hc (by simp [x])) e
end PySem
namespace Dl
open PySem PySem.Spec PyProof.Rows L2
/-- new tuples, one behind the other -/
def addT : Hp → List Addr → List (V × V) → Hp
  | H, a :: as, (x, y) :: ps => addT (upd H a (.tup [x, y])) as ps
  | H, _, _ => H
theorem addT_ne {b : Addr} : ∀ {as : List Addr} {ps : List (V × V)} {H : Hp}, b ∉ as → addT H as ps b = H b
  | [], _, H, _ => by cases ‹List (V × V)› <;> rfl
  | a :: as, [], H, _ => rfl
  | a :: as, (x, y) :: ps, H, h => by
    show addT (upd H a (.tup [x, y])) as ps b = _
    rw [addT_ne fun q => h (List.mem_cons_of_mem _ q), L2.upd_ne fun q => h (by rw [q]; exact List.mem_cons_self ..)]
theorem un_add {fs ex : List Addr} {h : Heap} : ∀ {as : List Addr} {ps : List (V × V)} {H : Hp}, (∀ a ∈ as, h.objs.size ≤ a) → as.Nodup → (∀ a ∈ as, H a = none) → Un fs ex H (addT H as ps) h h
  | [], ps, H, _, _, _ => by cases ps <;> exact Un.refl
  | a :: as, [], H, _, _, _ => Un.refl
  | a :: as, (x, y) :: ps, H, h1, h2, h3 => by
    have nd := List.nodup_cons.mp h2
    refine (Un.laid (a := a) (o := .tup [x, y]) (fun _ _ q => q) (h1 a (List.mem_cons_self ..)) (h3 a (List.mem_cons_self ..))).trans (un_add (fun b hb => h1 b (List.mem_cons_of_mem _ hb)) nd.2 fun b hb => ?_)
    rw [L2.upd_ne fun q => nd.1 (by rw [← q]; exact hb)]
    exact h3 b (List.mem_cons_of_mem _ hb)
theorem hok_one {P : Program} {w : World} {H : Hp} {h : Heap} {a : Addr} {o : HO} (x : HOk P w H h) (hn : H a = none) (new : ObjOk P w (upd H a o) h a o) : HOk P w (upd H a o) h := fun b u e => by
  by_cases hb : b = a
  · subst hb; rw [L2.upd_same] at e; cases e; exact new
  · rw [L2.upd_ne hb] at e
    exact (x b u e).stay (fun c v _ q => q) (fun c q => by rw [L2.upd_ne (ne_of_none q hn)]; exact q) fun c xs q => by rw [L2.upd_ne (ne_of_none q hn)]; exact q
theorem hok_add {P : Program} {w : World} {h : Heap} : ∀ {as : List Addr} {ps : List (V × V)} {H : Hp}, HOk P w H h → as.Nodup → (∀ a ∈ as, H a = none) →
    (∀ (j : Nat) (a : Addr) (p : V × V), as[j]? = some a → ps[j]? = some p → ∃ u v, RelV p.1 u ∧ RelV p.2 v ∧ h.get? a = some { cls := .type "tuple", data := .seq #[u, v] }) → HOk P w (addT H as ps) h
  | [], ps, H, x, _, _, _ => by cases ps <;> exact x
  | a :: as, [], H, x, _, _, _ => x
  | a :: as, (x, y) :: ps, H, hk, h2, h3, h4 => by
    have nd := List.nodup_cons.mp h2
    obtain ⟨u, v, r1, r2, e⟩ := h4 0 a (x, y) rfl rfl
    show HOk P w (addT (upd H a (.tup [x, y])) as ps) h
    refine hok_add (hok_one (o := .tup [x, y]) hk (h3 a (List.mem_cons_self ..)) ⟨by show 2 ≤ sizeLine; decide, [u, v], .cons r1 (.cons r2 .nil), ⟨_, e, rfl, _, rfl⟩⟩) nd.2 (fun b hb => ?_) fun j b p q1 q2 => h4 (j + 1) b p q1 q2
    rw [L2.upd_ne fun q => nd.1 (by rw [← q]; exact hb)]
    exact h3 b (List.mem_cons_of_mem _ hb)
theorem vals_refs : ∀ as : List Addr, Vals (as.map V.ref) (as.map Value.ref)
  | [] => .nil
  | _ :: as => .cons rfl (vals_refs as)
theorem dr_itemA {X : Cx} {pins : List (Addr × Obj)} {σ : L2.St} {H : Hp} {s : Shared} {a it : Addr} {k : Bool} {xs : List V} (A : Around) (hh : A.handled = none) (I : Inv X pins σ H s) (h : SqK k X.K H a xs) (hne : a ≠ it) : ∃ (its : List Value) (St : Nat → Heap → Prop), Vals xs its ∧ Draws X.prog X.w A it [it, a] its.length (fun i v => its[i]? = some v) St ∧
    (∀ i h', ItK k h' it a i → (∀ b o, s.heap.get? b = some o → h'.get? b = some o) → St i h') := by
  cases k
  · obtain ⟨its, r, p, z⟩ := I.tuple h
    have D := Draws.tuple (prog := X.prog) (w := X.w) (A := A) hh it a hne its.toArray
    simp only [List.size_toArray, List.getElem?_toArray] at D
    exact ⟨its, _, r, D, fun i h' q k => ⟨q, Heap.IsTuple.at p fun o e => k _ o e⟩⟩
  · obtain ⟨its, r, p, z⟩ := I.list h
    have D := Draws.list (prog := X.prog) (w := X.w) (A := A) hh it a hne its.toArray
    simp only [List.size_toArray, List.getElem?_toArray] at D
    exact ⟨its, _, r, D, fun i h' q k => ⟨q, p.isList.at fun o e => k _ o e⟩⟩
def rLz (H1 : Hp) (ps : List (V × V)) (Q : VK) : Prop := ps.length ≤ sizeLine ∧ ∀ (as : List Addr) (p : Addr), as.length = ps.length → as.Nodup → p ∉ as → H1 p = none → (∀ a ∈ as, H1 a = none) → Q (.ref p) (upd (addT H1 as ps) p (.lst (as.map V.ref)))
def tLz2 (K : PySem.W.Frag) (ta : TA) : TE := fun σ H Q => ta σ H fun vs H1 => ∃ (k1 k2 : Bool) (a b : Addr) (xs ys : List V), vs = [.ref a, .ref b] ∧ SqK k1 K H1 a xs ∧ SqK k2 K H1 b ys ∧ rLz H1 (xs.zip ys) Q
/-- the new list and its pairs are laid -/
theorem lz_done {X : Cx} {pins : List (Addr × Obj)} {σ : L2.St} {H : Hp} {s : Shared} {h' : Heap} {tk : Tok} {S : Addr} {acc : Array Value} {c : Nat} {as : List Addr} {ps : List (V × V)} {Q : VK} {P1 P2 : Nat → Value → Prop} (I : Inv X pins σ H s) (k : ∀ b u, s.heap.get? b = some u → h'.get? b = some u) (hS : s.heap.objs.size ≤ S)
    (e : h'.get? S = some { cls := .type "list", dict := none, data := .seq acc c, slots := #[] }) (hl : as.length = ps.length) (G : W.LzG P1 P2 (S + 1) h' as) (ha : acc.toList = as.map Value.ref)
    (h1 : ∀ j p u, P1 j u → ps[j]? = some p → RelV p.1 u) (h2 : ∀ j p u, P2 j u → ps[j]? = some p → RelV p.2 u) (q : rLz H ps Q) : EP X pins σ Q (.ref S) { s with heap := h', toks := tk } := by
  obtain ⟨z, q⟩ := q
  have up : ∀ a ∈ as, s.heap.objs.size ≤ a := fun a m => Nat.le_trans hS (Nat.le_of_lt (G.above a m))
  have nd : as.Nodup := G.rise.imp fun h => Nat.ne_of_lt h
  have fr : ∀ a ∈ as, H a = none := fun a m => I.hok.fresh (up a m)
  have pn : S ∉ as := fun m => Nat.lt_irrefl _ (G.above S m)
  have sn : addT H as ps S = none := by rw [addT_ne pn]; exact I.hok.fresh hS
  have ok1 : HOk X.prog X.w (addT H as ps) h' := hok_add (I.hok.kept k) nd fr fun j a p e1 e2 => by
    obtain ⟨u, v, p1, p2, g⟩ := G.pairs j a e1
    exact ⟨u, v, h1 j p u p1 e2, h2 j p v p2 e2, g⟩
  have ok2 : HOk X.prog X.w (upd (addT H as ps) S (.lst (as.map V.ref))) h' := hok_one ok1 sn ⟨by rw [List.length_map, hl]; exact z, acc.toList, c, by rw [ha]; exact vals_refs as, by rw [Array.toArray_toList]; exact e⟩
  have u1 : Un X.fs [] H (upd (addT H as ps) S (.lst (as.map V.ref))) s.heap h' := ((un_add up nd fr).trans (Un.laid (fun _ _ q => q) hS sn)).trans (Un.kept k)
  exact ⟨.ref S, _, I.un (t' := tk) u1 ok2, rfl, q as S hl nd pn (I.hok.fresh hS) fr⟩
theorem zip_at {α β : Type} {xs : List α} {ys : List β} {j : Nat} {p : α × β} (h : (xs.zip ys)[j]? = some p) : xs[j]? = some p.1 ∧ ys[j]? = some p.2 := by
  rw [List.getElem?_zip_eq_some] at h
  exact h
theorem sep5 (I a b : Nat) (h1 : a < I) (h2 : b < I) : I + 5 ≠ I + 4 ∧ I + 5 ≠ I + 2 ∧ I + 5 ≠ I + 3 ∧ I + 5 ≠ I ∧ I + 5 ≠ I + 1 ∧ I + 5 ≠ a ∧ I + 5 ≠ b := by omega
theorem pe_lz2 {X : Cx} (hc : X.calm = true) {e e2 : Expr} {ta : TA} {p pos p2 pos2 : Pos} (hgl : Gl X "list") (hml : X.mg "list" = none) (hg : Gl X "zip") (hm : X.mg "zip" = none) (ha : PA X [e, e2] ta)
    (na : starEach [.Call (.Name "zip" p2) [e, e2] [] pos2] X.env = (false, eval (.Call (.Name "zip" p2) [e, e2] [] pos2) X.env) :: starEach [] X.env := by rfl)
    (hs : starEach [e, e2] X.env = (false, eval e X.env) :: starEach [e2] X.env := by rfl) (hpl : (backTo pos2 (starEach [e2] X.env)).any (·.1) = false := by rfl) :
    PE X (.Call (.Name "list" p) [.Call (.Name "zip" p2) [e, e2] [] pos2] [] pos) (tLz2 X.K ta) := by
  refine ⟨fun pins s σ H Q I h => ?_⟩
  refine Call_ (ld_blt I hgl hml PyProof.Rows.boot_list (PyProof.Rows.callWith_type1 (args_cons (Call_ (ld_blt I hg hm PyProof.Rows.boot_zip (PyProof.Rows.callWith_type1 (thn (ha.run pos2 pins s σ H _ I h) fun us s1 ⟨vs, H1, I1, r1, q1⟩ => ?_) hs hpl))) na) na))
  obtain ⟨k1, k2, a, b, xs, ys, ex, hqx, hqy, q⟩ := q1
  subst ex
  cases r1 with
  | cons r rr =>
    cases rr with
    | cons r' rr =>
      cases rr
      cases r
      cases r'
      have la := sqK_lt I1 hqx
      have lb := sqK_lt I1 hqy
      obtain ⟨G1, B1, g1⟩ := begK I1 hqx
      obtain ⟨G2, B2, g2⟩ := begK I1 hqy
      refine zip_begins2 B1 B2 g1 g2 fun h' hz hTI hTO e1 e2 hsz hk => args_nil ?_
      obtain ⟨its, St1, rv, D1, s1'⟩ := dr_itemA (it := s1.heap.objs.size) X.A.in1.in1.in1 (I1.ok.hd hc) I1 hqx (Nat.ne_of_lt la)
      obtain ⟨its2, St2, rv2, D2, s2'⟩ := dr_itemA (it := s1.heap.objs.size + 1) X.A.in1.in1.in1 (I1.ok.hd hc) I1 hqy (Nat.ne_of_lt (Nat.lt_succ_of_lt lb))
      have lx := rv.length
      have ly := rv2.length
      have T := tup_zip (S := h'.objs.size) (A := X.A.in1.in1) (sep2 s1.heap.objs.size a b la lb) D1 D2
        (by rw [hsz]; exact sep5 _ _ _ la lb) ⟨Nat.ne_of_lt (Nat.lt_of_lt_of_le la (Nat.le_add_right ..)), Nat.ne_of_lt (Nat.lt_of_lt_of_le lb (Nat.le_add_right ..))⟩
      have z := q.1
      rw [List.length_zip] at z
      refine W.lz_call (s := { s1 with heap := h' }) zip_no_len zip_no_hint (by decide) (by decide) T (by omega) (fun c hcm => ?_) (fun s' st => ?_) (fun B s' Q' E' st hq => ?_) ⟨hTI, s1' 0 h' (itK_new e1) hk, s2' 0 h' (itK_new e2) hk, .inl ⟨hz, _, _, hTO⟩⟩ (by show _ < h'.objs.size; rw [hsz]; exact Nat.lt_succ_self _)
        fun h'' tk acc c as hk' hS' hl hG hacc => ?_
      · show c < h'.objs.size
        rw [hsz]
        simp only [List.mem_cons, List.not_mem_nil, or_false] at hcm
        rcases hcm with r | r | r | r <;> (rw [r]; first | exact Nat.lt_succ_self _ | exact Nat.add_lt_add_left (by decide) _ | exact Nat.lt_add_of_pos_right (by decide))
      · obtain ⟨_, _, _, hz⟩ := st
        rcases hz with ⟨hz, _⟩ | ⟨T, f, oT, hz, _⟩
        · exact ⟨_, hz, rfl⟩
        · exact ⟨_, hz, rfl⟩
      · obtain ⟨_, _, _, hz⟩ := st
        rcases hz with ⟨hz, _⟩ | ⟨T, f, oT, hz, _⟩
        · exact wpAny_pyIter_zip hz hq
        · obtain ⟨_, _, _, _, _, bad⟩ := ‹_›
          exact absurd bad (Nat.lt_irrefl _)
      · refine lz_done (s := s1) (h' := h'') I1 (fun b u e => hk' b u (fun m => ?_) (hk b u e)) (by show _ ≤ h'.objs.size; rw [hsz]; exact Nat.le_add_right ..) hS' (by rw [hl, List.length_zip]; omega) hG hacc (fun j p u q1 q2 => ?_) (fun j p u q1 q2 => ?_) q
        · have hb := Heap.lt_size e
          simp only [List.mem_cons, List.not_mem_nil, or_false] at m
          rcases m with r | r | r | r <;> (rw [r] at hb; first | exact absurd hb (Nat.lt_irrefl _) | exact absurd hb (Nat.not_lt.mpr (Nat.le_add_right ..)))
        · obtain ⟨x1, x2⟩ := zip_at q2
          obtain ⟨v, hv, rr⟩ := rv.get x1
          rw [q1] at hv
          cases hv
          exact rr
        · obtain ⟨x1, x2⟩ := zip_at q2
          obtain ⟨v, hv, rr⟩ := rv2.get x2
          rw [q1] at hv
          cases hv
          exact rr
end Dl
namespace Dl
open PySem PySem.Spec PyProof.Rows L2
section
variable {K : PySem.W.Frag} {α : List Addr} {μ : Mu}
theorem gr_id {H : Hp} : Gr α H α H := Gr.refl α H
theorem add_rel : ∀ {xs ys : List V} {ds es : List D} {as : List Addr} {H : Hp}, Sat K α H μ → RlAll K α H xs ds → RlAll K α H ys es → as.Nodup → (∀ a ∈ as, H a = none) → as.length = (xs.zip ys).length →
    Gr α H α (addT H as (xs.zip ys)) ∧ Sat K α (addT H as (xs.zip ys)) μ ∧ RlAll K α (addT H as (xs.zip ys)) (as.map V.ref) (zipD ds es)
  | [], ys, ds, es, as, H, S, r, r', nd, fr, l => by
    have : as = [] := List.eq_nil_of_length_eq_zero (by rw [l]; rfl)
    subst this
    cases r
    exact ⟨Gr.refl α H, S, .nil⟩
  | x :: xs, [], ds, es, as, H, S, r, r', nd, fr, l => by
    have : as = [] := List.eq_nil_of_length_eq_zero (by rw [l]; rfl)
    subst this
    cases r'
    cases r
    exact ⟨Gr.refl α H, S, .nil⟩
  | x :: xs, y :: ys, ds, es, as, H, S, r, r', nd, fr, l => by
    cases as with
    | nil => cases l
    | cons a as =>
      cases r with
      | cons rx r =>
        cases r' with
        | cons ry r' =>
          obtain ⟨g1, s1, n1⟩ := new_pair S rx ry (fr a (List.mem_cons_self ..))
          have nd := List.nodup_cons.mp nd
          obtain ⟨g2, s2, n2⟩ := add_rel (as := as) s1 (r.mono g1) (r'.mono g1) nd.2 (fun b hb => by
            rw [L2.upd_ne fun q => nd.1 (by rw [← q]; exact hb)]
            exact fr b (List.mem_cons_of_mem _ hb)) (Nat.succ.inj l)
          exact ⟨g1.trans g2, s2, .cons (n1.mono g2) n2⟩
end
def dlZ2 (d1 d2 : DTE) : DTL := fun ρ μ Q => d1 ρ μ fun x μ1 => d2 ρ μ1 fun y μ2 => match src2 μ2 x, src2 μ2 y with | some s, some t => (zipD s.its t.its).length ≤ sizeLine ∧ Q (zipD s.its t.its) μ2 | _, _ => False
theorem dl_z2 {X : Cx} {e e2 : Expr} {d1 d2 : DTE} {p pos p2 pos2 : Pos} (hml : X.mg "list" = none) (hm : X.mg "zip" = none) (he : PED X e d1) (he2 : PED X e2 d2) (hc : X.calm = true := by rfl) (hgl : Gl X "list" := by rfl) (hg : Gl X "zip" := by rfl)
    (na : starEach [.Call (.Name "zip" p2) [e, e2] [] pos2] X.env = (false, eval (.Call (.Name "zip" p2) [e, e2] [] pos2) X.env) :: starEach [] X.env := by rfl)
    (hs : starEach [e, e2] X.env = (false, eval e X.env) :: starEach [e2] X.env := by rfl) (hs2 : starEach [e2] X.env = (false, eval e2 X.env) :: starEach [] X.env := by rfl) (hpl : (backTo pos2 (starEach [e2] X.env)).any (·.1) = false := by rfl) :
    PLD X (.Call (.Name "list" p) [.Call (.Name "zip" p2) [e, e2] [] pos2] [] pos) (dlZ2 d1 d2) := by
  obtain ⟨t1, a1, a2⟩ := he.ex
  obtain ⟨t2, b1, b2⟩ := he2.ex
  refine ⟨_, pe_lz2 hc hgl hml hg hm (pa_cons a1 (pa_cons b1 pa_nil hs2) hs) na hs hpl, fun α σ H ρ μ Qd Q S en h post => a2 α σ H ρ μ _ _ S en h fun v H1 α1 μ1 d g1 S1 r1 q1 => b2 α1 σ H1 ρ μ1 _ _ S1 (en.mono g1) q1 fun w H2 α2 μ2 dd g2 S2 r2 q2 => ?_⟩
  split at q2
  · rename_i s t es et
    obtain ⟨hd, k1, a, vs, rfl, q, L⟩ := kok_of S2 (r1.mono g2) es
    obtain ⟨hd2, k2, b, us, rfl, q', L'⟩ := kok_of S2 r2 et
    obtain ⟨xs, c1, c2⟩ := L.ok _ _ _ (Gr.refl α2 H2) S2 hd
    obtain ⟨ys, m1, m2⟩ := L'.ok _ _ _ (Gr.refl α2 H2) S2 hd2
    refine ⟨k1, k2, a, b, xs, ys, rfl, c1, m1, ?_, fun as p hl nd pn hp fr => ?_⟩
    · have := q2.1
      unfold zipD at this
      rw [List.length_zipWith, ← c2.length, ← m2.length] at this
      rw [List.length_zip]
      exact this
    · obtain ⟨g3, S3, r3⟩ := add_rel S2 c2 m2 nd fr hl
      exact (post.mono ((g1.trans g2).trans g3)).here S3 r3 q2.2 (by rw [addT_ne pn]; exact hp)
  · exact False.elim q2
end Dl
namespace Dl
open PySem PySem.Spec PyProof.Rows L2
/-- list(range(n)) -/
def dlRange1 (d1 : DTE) : DTL := fun ρ μ Q => d1 ρ μ fun x μ1 => match x with
  | .int hi => (Rg hi ∧ hi.toNat ≤ 2 ^ 24) ∧ Q (rangeD 0 hi) μ1
  | _ => False
theorem dl_range1 {X : Cx} {a : Expr} {d1 : DTE} {p pos p2 pos2 : Pos} (hm : X.mg "list" = none) (hm2 : X.mg "range" = none) (ha : PED X a d1) (hc : X.calm = true := by rfl)
    (mk : ∀ {ta : TE}, X.mg "list" = none → X.mg "range" = none → PE X a ta → PE X (.Call (.Name "list" p) [.Call (.Name "range" p2) [a] [] pos2] [] pos) (tLstRg (tRg1 ta)) := by intro _ z1 z2 u; exact pe_listRg (by rfl) (by rfl) z1 (prg_1 (by rfl) z2 u)) :
    PLD X (.Call (.Name "list" p) [.Call (.Name "range" p2) [a] [] pos2] [] pos) (dlRange1 d1) := by
  obtain ⟨t1, a1, a2⟩ := ha.ex
  refine ⟨_, mk hm hm2 a1, fun α σ H ρ μ Qd Q S E h post => a2 α σ H ρ μ _ _ S E h fun v1 H1 α1 μ1 x g1 s1 r1 q1 => ?_⟩
  split at q1
  · rename_i hi
    cases r1
    obtain ⟨⟨k1, k2⟩, q1⟩ := q1
    exact ⟨hi, rfl, ⟨by decide, by decide, k1.1, k1.2, by rw [Int.sub_zero]; exact k2⟩, fun q hq => (post.mono g1).here s1 (rl_range 0 hi) q1 hq⟩
  · exact False.elim q1
end Dl
/-! Nt: nested targets of a comprehension: for i, (a, b) in .. -/
namespace Dl
open PySem PySem.Spec PyProof.Rows L2
section
variable {K : PySem.W.Frag} {own : List (Str × Nat)}
structure GgD (K : PySem.W.Frag) (own : List (Str × Nat)) (g : TG) (dg : DTG) : Prop where
  snd : SndG K g dg
  mono : ∀ v σ H Q Q', (∀ σ H, Q σ H → Q' σ H) → g v σ H Q → g v σ H Q'
  wipe : ∀ σ σ0 v H Q, L2.wipe σ (own.map (·.2)) = L2.wipe σ0 (own.map (·.2)) → g v σ H Q → g v σ H fun σ2 H2 => L2.wipe σ2 (own.map (·.2)) = L2.wipe σ0 (own.map (·.2)) ∧ Q σ2 H2
structure GgsD (K : PySem.W.Frag) (own : List (Str × Nat)) (g : TGs) (dg : DTGs) : Prop where
  snd : SndGs K g dg
  mono : ∀ v σ H Q Q', (∀ σ H, Q σ H → Q' σ H) → g v σ H Q → g v σ H Q'
  wipe : ∀ σ σ0 v H Q, L2.wipe σ (own.map (·.2)) = L2.wipe σ0 (own.map (·.2)) → g v σ H Q → g v σ H fun σ2 H2 => L2.wipe σ2 (own.map (·.2)) = L2.wipe σ0 (own.map (·.2)) ∧ Q σ2 H2
theorem gg_name (i : Nat) (hi : i ∈ own.map (·.2) := by decide) : GgD K own (gName i) (gdName i) :=
  ⟨snd_gname i, fun v σ H Q Q' h q => h _ _ q, fun σ σ0 v H Q e q => ⟨by rw [wipe_set_in hi, e], q⟩⟩
theorem ggs_nil : GgsD K own gNil gdNil :=
  ⟨fun α σ H ρ μ vs ds Qd Q S e r h post => by
    cases r with
    | nil => exact ⟨rfl, post _ _ _ _ _ (Gr.refl α H) S e h⟩
    | cons _ _ => exact False.elim h, fun v σ H Q Q' h q => ⟨q.1, h _ _ q.2⟩, fun σ σ0 v H Q e q => ⟨q.1, e, q.2⟩⟩
theorem ggs_cons {g : TG} {dg : DTG} {gs : TGs} {dgs : DTGs} (h1 : GgD K own g dg) (h2 : GgsD K own gs dgs) : GgsD K own (gCons g gs) (gdCons dg dgs) :=
  ⟨fun α σ H ρ μ vs ds Qd Q S e r h post => by
    cases r with
    | nil => exact False.elim h
    | cons r rs => exact ⟨_, _, rfl, h1.snd α σ H ρ μ _ _ _ _ S e r h fun σ' H' α' ρ' μ' g S' e' h' => h2.snd α' σ' H' ρ' μ' _ _ _ _ S' e' (rs.mono g) h' (post.mono g)⟩,
   fun v σ H Q Q' h q => by
    obtain ⟨x, r, e, q⟩ := q
    exact ⟨x, r, e, h1.mono _ _ _ _ _ (fun σ H q => h2.mono _ _ _ _ _ h q) q⟩,
   fun σ σ0 v H Q e q => by
    obtain ⟨x, r, ex, q⟩ := q
    exact ⟨x, r, ex, h1.mono _ _ _ _ _ (fun σ H q => h2.wipe _ _ _ _ _ q.1 q.2) (h1.wipe σ σ0 _ _ _ e q)⟩⟩
theorem gg_tup {n : Nat} {gs : TGs} {dgs : DTGs} (h : GgsD K own gs dgs) : GgD K own (gTup K n gs) (gdTup n dgs) :=
  ⟨fun α σ H ρ μ v d Qd Q S e r hh post => by
    unfold gdTup at hh
    split at hh
    · rename_i ds
      cases r with
      | tup q r => exact ⟨_, _, rfl, q, by rw [r.length]; exact hh.1, h.snd α σ H ρ μ _ _ _ _ S e r hh.2 post⟩
    · exact hh.elim,
   fun v σ H Q Q' m q => by
    obtain ⟨a, xs, e, q1, q2, q⟩ := q
    exact ⟨a, xs, e, q1, q2, h.mono _ _ _ _ _ m q⟩,
   fun σ σ0 v H Q e q => by
    obtain ⟨a, xs, ex, q1, q2, q⟩ := q
    exact ⟨a, xs, ex, q1, q2, h.wipe σ σ0 _ _ _ e q⟩⟩
end
theorem own_of {X : Cx} {scope : Scope} {own : List (Str × Nat)} {tg : Expr} {g : TG} {dg : DTG} (h : GgD X.K own g dg) (hg : ∀ (s : Shared) (H : Hp) (C : Addr) (cl : List (Str × Addr)) (fp : List Addr), PG (X.blk s H scope (compEnvC scope cl C X.env) fp) tg g) : OwnG X scope own tg dg :=
  ⟨g, h.snd, fun σ v H Q q => h.wipe _ σ _ _ _ (wipe_idem fun _ z => z) q, hg⟩
end Dl
/-! Le: list(enumerate(x)), x a list or a tuple. -/
namespace PySem
open Sem (wp)
open PySem.W
section
variable {prog : Program} {w : World} {A : Around} {E : Value → Shared → Prop} {s : Shared} {e it T : Addr} {f : Bool} {oT : Obj} {fp : List Addr} {n i : Nat} {c : Int} {P : Nat → Value → Prop} {St : Nat → Heap → Prop} {old : Value}
theorem le_next {Q : Value → Shared → Prop} (D : Draws prog w A it fp n P St) (he : IsEnumHeld s.heap e it c old T f) (hT : s.heap.get? T = some oT) (hTe : T ≠ e) (hTi : T ≠ it) (hst : St i s.heap) (hlt : i < n) (hne : e ≠ it) (hef : e ∉ fp)
    (hQ : ∀ x h' tk, P i x → IsEnumHeld h' e it (c + 1) old T true → St (i + 1) h' →
      h'.get? s.heap.objs.size = some { cls := .type "tuple", data := .seq #[.int c tk, x] } → h'.objs.size = s.heap.objs.size + 1 →
      (∀ b o, b ≠ e → b ≠ it → s.heap.get? b = some o → h'.get? b = some o) → Q (.ref s.heap.objs.size) { s with heap := h', toks := tk + 1 }) :
    wpAny (model prog w) A (Builtin.«enumerate.__next__» ⟨[.ref e], []⟩) (fun fin s' => ∃ v, fin = .done (.ret v) ∧ Q v s') E s := by
  obtain ⟨hp, g, d, tk₀, os⟩ := s
  show wpAny _ _ (field (.ref e) 2 >>= _) _ _ _
  refine wpAny_bind (wpAny_field he rfl (x := .ref it) rfl ?_)
  refine wpAny_bind (D.item i _ _ _ hlt hst fun x h₁ tk hPx hit₁ hs₁ => ?_)
  replace hs₁ : Heap.SameBut it hp h₁ := hs₁
  have he₁ : IsEnumHeld h₁ e it c old T f := (hs₁.2 e hne).trans he
  show wpAny _ _ (field (.ref e) 3 >>= _) _ _ ⟨h₁, g, d, tk, os⟩
  refine wpAny_bind (wpAny_field he₁ rfl (x := rawInt c) rfl ?_)
  show wpAny _ _ (field (.ref e) 4 >>= _) _ _ ⟨h₁, g, d, tk, os⟩
  refine wpAny_bind (wpAny_field he₁ rfl (x := .none) rfl ?_)
  show wpAny _ _ (mkInt c >>= _) _ _ ⟨h₁, g, d, tk, os⟩
  refine wpAny_bind (wpAny_mkInt ?_)
  show wpAny _ _ (setField (.ref e) 3 (rawInt (c + 1)) >>= _) _ _ ⟨h₁, g, d, tk + 1, os⟩
  refine wpAny_bind (wpAny_setField_rec he₁ (by simp) fun h₂ he₂ hs₂ => ?_)
  replace hs₂ : Heap.SameBut e h₁ h₂ := hs₂
  replace he₂ : IsEnumHeld h₂ e it (c + 1) old T f := he₂
  show wpAny _ _ (setField (.ref e) 4 .none >>= _) _ _ ⟨h₂, g, d, tk + 1, os⟩
  refine wpAny_bind (wpAny_setField_rec he₂ (by simp) fun h₃ he₃ hs₃ => ?_)
  replace hs₃ : Heap.SameBut e h₂ h₃ := hs₃
  replace he₃ : IsEnumHeld h₃ e it (c + 1) old T f := he₃
  show wpAny _ _ (newTuple [.int c tk, x] >>= _) _ _ ⟨h₃, g, d, tk + 1, os⟩
  refine wpAny_bind (wpAny_newTuple ?_)
  have he₄ : IsEnumHeld (h₃.push { cls := .type "tuple", data := .seq #[.int c tk, x] }) e it (c + 1) old T f := Heap.get?_push_of_some _ he₃
  generalize hh₄ : h₃.push { cls := .type "tuple", data := .seq #[.int c tk, x] } = h₄ at he₄
  have hsz : h₃.objs.size = hp.objs.size := by rw [hs₃.1, hs₂.1, hs₁.1]
  have hel : e < hp.objs.size := Heap.lt_size he
  have ht₄ : h₄.get? hp.objs.size = some { cls := .type "tuple", data := .seq #[.int c tk, x] } := by rw [← hh₄, ← hsz]; exact Heap.get?_push_size _ rfl
  have hz₄ : h₄.objs.size = hp.objs.size + 1 := by rw [← hh₄, Heap.size_push, hsz]
  have hk₄ : ∀ b o, b ≠ e → b ≠ it → hp.get? b = some o → h₄.get? b = some o := fun b o hbe hbi hb => by
    rw [← hh₄]; exact Heap.get?_push_of_some _ (hs₃.extBut b o hbe (hs₂.extBut b o hbe (hs₁.extBut b o hbi hb)))
  have hit₄ : St (i + 1) h₄ := D.frame _ _ _ hit₁ fun b hb o y => by
    have hbe : b ≠ e := fun q => hef (q ▸ hb)
    rw [← hh₄]; exact Heap.get?_push_of_some _ (hs₃.extBut b o hbe (hs₂.extBut b o hbe y))
  show wpAny _ _ (Builtin.SmallTypes.ownedTupleIsFree (.ref e) >>= _) _ _ ⟨h₄, g, d, tk + 1, os⟩
  rw [hsz]
  clear hh₄ he₃ hs₃ he₂ hs₂ he₁ hs₁ hit₁ hsz h₃ h₂ h₁
  refine wpAny_bind (wpAny_tupleHeld_enum (s := ⟨h₄, g, d, tk + 1, os⟩) he₄ (hk₄ T oT hTe hTi hT) fun h₅ he₅ hs₅ => ?_)
  replace hs₅ : Heap.SameBut e h₄ h₅ := hs₅
  simp only [Bool.false_eq_true, if_false]
  refine wpAny_pure ⟨_, rfl, hQ x h₅ tk hPx he₅ (D.frame _ _ _ hit₄ fun b hb o y => hs₅.extBut b o (fun q => hef (q ▸ hb)) y) (hs₅.extBut _ _ (Nat.ne_of_gt hel) ht₄) ?_ fun b o hbe hbi hb => hs₅.extBut b o hbe (hk₄ b o hbe hbi hb)⟩
  show h₅.objs.size = hp.objs.size + 1
  rw [hs₅.1, hz₄]
theorem le_pyNext {Q : Option Value → Shared → Prop} (D : Draws prog w A.in1 it fp n P St) (he : IsEnumHeld s.heap e it c old T f) (hT : s.heap.get? T = some oT) (hTe : T ≠ e) (hTi : T ≠ it) (hst : St i s.heap) (hlt : i < n) (hne : e ≠ it) (hef : e ∉ fp)
    (hQ : ∀ x h' tk, P i x → IsEnumHeld h' e it (c + 1) old T true → St (i + 1) h' →
      h'.get? s.heap.objs.size = some { cls := .type "tuple", data := .seq #[.int c tk, x] } → h'.objs.size = s.heap.objs.size + 1 →
      (∀ b o, b ≠ e → b ≠ it → s.heap.get? b = some o → h'.get? b = some o) → Q (some (.ref s.heap.objs.size)) { s with heap := h', toks := tk + 1 }) :
    wpAny (model prog w) A (pyNext (.ref e)) Q E s := by
  have hTy : s.TypeIs (.ref e) "enumerate" := ⟨_, he, rfl⟩
  unfold pyNext
  exact wpAny_bind (wpAny_attempt (wpAny_callSpecial?_slot (name := Str.ofString "__next__") hTy F.slot_enumerate_next
    (wpAny_call_entry F.slot_enumerate_next hTy F.entry_enumerate_next
      (le_next D he hT hTe hTi hst hlt hne hef fun x h' tk a1 a2 a3 a4 a5 a6 => wpAny_pure (hQ x h' tk a1 a2 a3 a4 a5 a6)) (F.args_enumerate_next_1 _))))
theorem le_pyEnd {Q : Option Value → Shared → Prop} (D : Draws prog w A.in1 it fp n P St) (he : IsEnumHeld s.heap e it c old T f) (hst : St n s.heap)
    (hQ : ∀ h', Heap.ExtBut it s.heap h' → Q none { s with heap := h' }) : wpAny (model prog w) A (pyNext (.ref e)) Q E s := by
  have hTy : s.TypeIs (.ref e) "enumerate" := ⟨_, he, rfl⟩
  unfold pyNext
  refine wpAny_bind (wpAny_attempt (wpAny_callSpecial?_slot (name := Str.ofString "__next__") hTy F.slot_enumerate_next
    (wpAny_call_entry F.slot_enumerate_next hTy F.entry_enumerate_next ?_ (F.args_enumerate_next_1 _))))
  show wpAny _ _ (field (.ref e) 2 >>= _) _ _ _
  refine wpAny_bind (wpAny_field he rfl (x := .ref it) rfl ?_)
  refine wpAny_bind (D.done _ _ _ hst fun h' x he' hx' => ?_)
  obtain ⟨o, ho, hc⟩ := hx'
  refine wpAny_bind (wpAny_isInstance (T := "StopIteration") (b := true) ⟨o, ho, hc⟩ isSubtype_stop ?_)
  exact wpAny_pure (hQ _ he')
theorem enumerate_no_len : typeLookup (.type "enumerate") "__len__" = pure none := am_miss_of_fast (by decide +kernel)
theorem enumerate_no_hint : typeLookup (.type "enumerate") "__length_hint__" = pure none := am_miss_of_fast (by decide +kernel)
theorem tup_enum {S a : Addr} (D : Draws prog w A.in1 it [it, a] n P St) (hne : e ≠ it) (hea : e ≠ a) (hS : S ≠ e ∧ S ≠ it ∧ S ≠ a) :
    TupSrc prog w A e S [e, it] n (fun i v => ∃ t, v = .int (i : Int) t) P (fun i h => St i h ∧ ((∃ old, IsEnum h e it (i : Int) old) ∨ ∃ old T f oT, IsEnumHeld h e it (i : Int) old T f ∧ h.get? T = some oT ∧ T ≠ e ∧ T ≠ it ∧ T ≠ S ∧ 0 < i)) where
  frame := fun i h h' st k => by
    obtain ⟨s1, s2, s3⟩ := hS
    obtain ⟨st1, hz⟩ := st
    refine ⟨D.frame _ _ _ st1 fun c hc o e' => ?_, ?_⟩
    · refine k c o (fun q => ?_) e'
      simp only [List.mem_cons, List.not_mem_nil, or_false] at hc
      rcases hc with r | r
      · exact s2 (q.symm.trans r)
      · exact s3 (q.symm.trans r)
    · rcases hz with ⟨old, hz⟩ | ⟨old, T, f, oT, hz, hT, r1, r2, r3, r4⟩
      · exact .inl ⟨old, k _ _ (Ne.symm s1) hz⟩
      · exact .inr ⟨old, T, f, oT, k _ _ (Ne.symm s1) hz, k _ _ r3 hT, r1, r2, r3, r4⟩
  item := fun i s Q E hi st hl hQ => by
    obtain ⟨st1, hz⟩ := st
    have lt : ∀ {c o}, s.heap.get? c = some o → s.heap.objs.size ≠ c := fun e => Nat.ne_of_gt (Heap.lt_size e)
    have x1 : s.heap.objs.size ≠ it := let ⟨_, e⟩ := D.live _ _ st1; lt e
    have ef : e ∉ [it, a] := fun m => by
      simp only [List.mem_cons, List.not_mem_nil, or_false] at m
      exact m.elim hne hea
    rcases hz with ⟨old, hz⟩ | ⟨old, T, f, oT, hz, hT, r1, r2, r3, r4⟩
    · refine wpAny_pyNext_enum_itemC D hz st1 hi hne ef fun u h' tk a0 a1 a2 a3 a4 hk => ?_
      exact hQ (.int i tk) u h' (tk + 1) ⟨tk, rfl⟩ a0 a3 ⟨a2, .inr ⟨u, s.heap.objs.size, false, _, a1, a3, lt hz, x1, Nat.ne_of_gt hl, Nat.succ_pos _⟩⟩
        fun c o hc e' => hk c o (fun x => hc (by simp [x])) (fun x => hc (by simp [x])) e'
    · refine le_pyNext D hz hT r1 r2 st1 hi hne ef fun u h' tk a0 a1 a2 a3 a4 hk => ?_
      exact hQ (.int i tk) u h' (tk + 1) ⟨tk, rfl⟩ a0 a3 ⟨a2, .inr ⟨old, T, true, oT, a1, hk _ _ r1 r2 hT, r1, r2, r3, Nat.succ_pos _⟩⟩
        fun c o hc e' => hk c o (fun x => hc (by simp [x])) (fun x => hc (by simp [x])) e'
  done := fun s Q E st hQ => by
    obtain ⟨st1, hz⟩ := st
    rcases hz with ⟨old, hz⟩ | ⟨old, T, f, oT, hz, hT, r1, r2, r3, r4⟩
    · exact wpAny_pyNext_enum_endD D hz st1 fun h' hx => hQ h' s.toks fun c o hc e' => hx c o (fun x => hc (by simp [x])) e'
    · exact le_pyEnd D hz st1 fun h' hx => hQ h' s.toks fun c o hc e' => hx c o (fun x => hc (by simp [x])) e'
end
end PySem
namespace Dl
open PySem PySem.Spec PyProof.Rows L2
def nums (n : Nat) : List V := (List.range n).map fun (i : Nat) => V.int (i : Int)
def tLe (K : PySem.W.Frag) (ta : TA) : TE := fun σ H Q => ta σ H fun vs H1 => ∃ (k1 : Bool) (a : Addr) (xs : List V), vs = [.ref a] ∧ SqK k1 K H1 a xs ∧ rLz H1 ((nums xs.length).zip xs) Q
theorem pe_le {X : Cx} (hc : X.calm = true) {e : Expr} {ta : TA} {p pos p2 pos2 : Pos} (hgl : Gl X "list") (hml : X.mg "list" = none) (hg : Gl X "enumerate") (hm : X.mg "enumerate" = none) (ha : PA X [e] ta)
    (na : starEach [.Call (.Name "enumerate" p2) [e] [] pos2] X.env = (false, eval (.Call (.Name "enumerate" p2) [e] [] pos2) X.env) :: starEach [] X.env := by rfl)
    (hs : starEach [e] X.env = (false, eval e X.env) :: starEach [] X.env := by rfl) :
    PE X (.Call (.Name "list" p) [.Call (.Name "enumerate" p2) [e] [] pos2] [] pos) (tLe X.K ta) := by
  refine ⟨fun pins s σ H Q I h => ?_⟩
  refine Call_ (ld_blt I hgl hml PyProof.Rows.boot_list (PyProof.Rows.callWith_type1 (args_cons (Call_ (ld_blt I hg hm boot_enumerate (PyProof.Rows.callWith_type1 (thn (ha.run pos2 pins s σ H _ I h) fun us s1 ⟨vs, H1, I1, r1, q1⟩ => ?_) hs rfl))) na) na))
  obtain ⟨k1, a, xs, ex, hqx, q⟩ := q1
  subst ex
  cases r1 with
  | cons r rr =>
    cases rr
    cases r
    have la := sqK_lt I1 hqx
    obtain ⟨G1, B1, g1⟩ := begK I1 hqx
    refine enum1_call B1 g1 fun h' he ho hk => args_nil ?_
    obtain ⟨its, St1, rv, D1, s1'⟩ := dr_itemA (it := s1.heap.objs.size) X.A.in1.in1.in1 (I1.ok.hd hc) I1 hqx (Nat.ne_of_lt la)
    have lx := rv.length
    have lt1 := Heap.lt_size he
    have T := tup_enum (S := h'.objs.size) (A := X.A.in1.in1) (e := s1.heap.objs.size + 1) D1 (Nat.succ_ne_self _) (Nat.ne_of_gt (Nat.lt_succ_of_lt la))
      ⟨Nat.ne_of_gt lt1, Nat.ne_of_gt (Nat.lt_of_succ_lt lt1), Nat.ne_of_gt (Nat.lt_trans la (Nat.lt_of_succ_lt lt1))⟩
    have zl : ((nums xs.length).zip xs).length = xs.length := by
      unfold nums
      rw [List.length_zip, List.length_map, List.length_range, Nat.min_self]
    have z := q.1
    rw [zl] at z
    refine W.lz_call (s := { s1 with heap := h' }) enumerate_no_len enumerate_no_hint (by decide) (by decide) T (by omega) (fun c hcm => ?_) (fun s' st => ?_) (fun B s' Q' E' st hq => ?_) ⟨s1' 0 h' (itK_new ho) hk, .inl ⟨_, he⟩⟩ lt1
      fun h'' tk acc c as hk' hS' hl hG hacc => ?_
    · show c < h'.objs.size
      simp only [List.mem_cons, List.not_mem_nil, or_false] at hcm
      rcases hcm with r | r
      · rw [r]; exact lt1
      · rw [r]; exact Nat.lt_of_succ_lt lt1
    · obtain ⟨_, hz⟩ := st
      rcases hz with ⟨old, hz⟩ | ⟨old, T, f, oT, hz, _⟩
      · exact ⟨_, hz, rfl⟩
      · exact ⟨_, hz, rfl⟩
    · obtain ⟨_, hz⟩ := st
      rcases hz with ⟨old, hz⟩ | ⟨old, T, f, oT, hz, _, _, _, _, bad⟩
      · exact wpAny_pyIter_enum hz hq
      · exact absurd bad (Nat.lt_irrefl _)
    · refine lz_done (s := s1) (h' := h'') I1 (fun b u e => hk' b u (fun m => ?_) (hk b u e)) (Nat.le_of_lt (Nat.lt_of_succ_lt lt1)) hS' (by rw [hl, zl]; omega) hG hacc (fun j p u q1 q2 => ?_) (fun j p u q1 q2 => ?_) q
      · have hb := Heap.lt_size e
        simp only [List.mem_cons, List.not_mem_nil, or_false] at m
        rcases m with r | r <;> (rw [r] at hb; first | exact absurd hb (Nat.lt_irrefl _) | exact absurd hb (Nat.not_lt.mpr (Nat.le_add_right ..)))
      · obtain ⟨x1, x2⟩ := zip_at q2
        obtain ⟨t, rfl⟩ := q1
        unfold nums at x1
        rw [List.getElem?_map] at x1
        obtain ⟨i, hi, ei⟩ := Option.map_eq_some_iff.mp x1
        have hj := (List.getElem?_eq_some_iff.mp hi).1
        rw [List.length_range] at hj
        rw [List.getElem?_range hj] at hi
        cases hi
        rw [← ei]
        exact ⟨t, rfl⟩
      · obtain ⟨x1, x2⟩ := zip_at q2
        obtain ⟨v, hv, rr⟩ := rv.get x2
        rw [q1] at hv
        cases hv
        exact rr
theorem rl_nums {K : PySem.W.Frag} {α : List Addr} {H : Hp} (n : Nat) : RlAll K α H (nums n) ((List.range n).map fun (i : Nat) => D.int (i : Int)) := by
  unfold nums
  generalize List.range n = l
  induction l with
  | nil => exact .nil
  | cons a l ih => exact .cons (.int _) ih
theorem zipIdx_range (xs : List D) : zipD ((List.range xs.length).map fun (i : Nat) => D.int (i : Int)) xs = enumD xs := by
  refine List.ext_getElem? fun i => ?_
  unfold zipD enumD
  rw [List.getElem?_zipWith, List.getElem?_map, List.getElem?_map, List.getElem?_zipIdx]
  by_cases c : i < xs.length
  · rw [List.getElem?_range c, List.getElem?_eq_getElem c]
    simp
  · rw [List.getElem?_eq_none (by rw [List.length_range]; omega), List.getElem?_eq_none (by omega)]
    rfl
/-- list(enumerate(x)) -/
def dlEn (d1 : DTE) : DTL := fun ρ μ Q => d1 ρ μ fun x μ1 => match src2 μ1 x with | some s => s.its.length ≤ sizeLine ∧ Q (enumD s.its) μ1 | _ => False
theorem dl_en {X : Cx} {e : Expr} {d1 : DTE} {p pos p2 pos2 : Pos} (hml : X.mg "list" = none) (hm : X.mg "enumerate" = none) (he : PED X e d1) (hc : X.calm = true := by rfl) (hgl : Gl X "list" := by rfl) (hg : Gl X "enumerate" := by rfl)
    (na : starEach [.Call (.Name "enumerate" p2) [e] [] pos2] X.env = (false, eval (.Call (.Name "enumerate" p2) [e] [] pos2) X.env) :: starEach [] X.env := by rfl)
    (hs : starEach [e] X.env = (false, eval e X.env) :: starEach [] X.env := by rfl) :
    PLD X (.Call (.Name "list" p) [.Call (.Name "enumerate" p2) [e] [] pos2] [] pos) (dlEn d1) := by
  obtain ⟨t1, a1, a2⟩ := he.ex
  refine ⟨_, pe_le hc hgl hml hg hm (pa_cons a1 pa_nil hs) na hs, fun α σ H ρ μ Qd Q S en h post => a2 α σ H ρ μ _ _ S en h fun v H1 α1 μ1 d g1 S1 r1 q1 => ?_⟩
  split at q1
  · rename_i s es
    obtain ⟨hd, k1, a, vs, rfl, q, L⟩ := kok_of S1 r1 es
    obtain ⟨xs, c1, c2⟩ := L.ok _ _ _ (Gr.refl α1 H1) S1 hd
    have zl : ((nums xs.length).zip xs).length = xs.length := by
      unfold nums
      rw [List.length_zip, List.length_map, List.length_range, Nat.min_self]
    refine ⟨k1, a, xs, rfl, c1, by rw [zl, c2.length]; exact q1.1, fun as p hl nd pn hp fr => ?_⟩
    obtain ⟨g3, S3, r3⟩ := add_rel S1 (rl_nums xs.length) c2 nd fr hl
    rw [c2.length, zipIdx_range] at r3
    rw [← c2.length] at r3
    exact (post.mono (g1.trans g3)).here S3 r3 q1.2 (by rw [addT_ne pn]; exact hp)
  · exact False.elim q1
end Dl
/-! Ez: for i, (a, b) in enumerate(zip(x, y)): the inner pairs are held by the outer ones. -/
namespace PySem
open Sem (wp)
open PySem.W
abbrev Zr (h : Heap) (z TI TO : Addr) (own : Value) (f : Bool) : Prop :=
  h.get? z = some { cls := .type "zip", dict := none, data := .fields #[own, .bool f, .bool false, .ref TI, .ref TO], slots := #[] }
/-- a zip that has or has not given out a pair -/
def Zs (h : Heap) (z TI TO : Addr) : Prop := (∃ x y, IsTupOf2 h TO x y) ∧ (IsZip h z TI TO .none ∨ ∃ (T : Addr) (f : Bool), IsZipHeld h z TI TO T f)
section
variable {prog : Program} {w : World} {A : Around} {E : Value → Shared → Prop} {s : Shared} {z TI TO T i1 i2 : Addr} {f : Bool} {fp1 fp2 : List Addr} {n1 n2 i : Nat} {P1 P2 : Nat → Value → Prop} {St1 St2 : Nat → Heap → Prop} {a1 a2 : Value}
theorem ld_dead {a : Addr} {Q : Option Obj → Shared → Prop} (ho : s.heap.get? a = none) (h : Q none s) : wpAny (model prog w) A (loadIfAlive a) Q E s := by
  have h' : Q (s.heap.get? a) s := by rw [ho]; exact h
  exact fun _ _ _ => h'
theorem free_dead {Q : Bool → Shared → Prop} (hz : IsZipHeld s.heap z TI TO T f) (hT : s.heap.get? T = none) (h : Q true s) : wpAny (model prog w) A (Builtin.SmallTypes.ownedTupleIsFree (.ref z)) Q E s := by
  unfold Builtin.SmallTypes.ownedTupleIsFree
  refine wpAny_bind (wpAny_field hz rfl (x := rawInt T) rfl ?_)
  show wpAny _ _ (loadIfAlive ((T : Int).toNat) >>= _) _ _ _
  rw [Int.toNat_natCast]
  refine wpAny_bind (ld_dead hT ?_)
  simp only [Option.isNone_none, if_true]
  exact wpAny_pure h
theorem zd_next {Q : Value → Shared → Prop} (S : ZipSep2 z TI TO i1 i2 fp1 fp2) (D1 : Draws prog w A i1 fp1 n1 P1 St1) (D2 : Draws prog w A i2 fp2 n2 P2 St2)
    (hz : IsZipHeld s.heap z TI TO T f) (hT : s.heap.get? T = none) (hTI : IsTupOf2 s.heap TI (.ref i1) (.ref i2)) (hTO : IsTupOf2 s.heap TO a1 a2) (st1 : St1 i s.heap) (st2 : St2 i s.heap) (hlt1 : i < n1) (hlt2 : i < n2)
    (hQ : ∀ x1 x2 h' tk, P1 i x1 → P2 i x2 → IsZip h' z TI TO (rawInt s.heap.objs.size) → IsTupOf2 h' TO x1 x2 → St1 (i + 1) h' → St2 (i + 1) h' → IsTupOf2 h' s.heap.objs.size x1 x2 → h'.objs.size = s.heap.objs.size + 1 →
      (∀ c o, c ≠ z → c ≠ TO → c ≠ i1 → c ≠ i2 → s.heap.get? c = some o → h'.get? c = some o) → Q (.ref s.heap.objs.size) { s with heap := h', toks := tk }) :
    wpAny (model prog w) A (Builtin.«zip.__next__» ⟨[.ref z], []⟩) (fun fin s' => ∃ v, fin = .done (.ret v) ∧ Q v s') E s := by
  obtain ⟨hp, g, d, tk0, os⟩ := s
  show wpAny _ _ (field (.ref z) 2 >>= _) _ _ _
  refine wpAny_bind (wpAny_field hz rfl (x := .bool false) rfl ?_)
  show wpAny _ _ (field (.ref z) 3 >>= _) _ _ _
  refine wpAny_bind (wpAny_field hz rfl (x := .ref TI) rfl ?_)
  refine wpAny_bind (wpAny_seqItems hTI rfl ?_)
  show wpAny _ _ (Builtin.SmallTypes.ownedTupleIsFree (.ref z) >>= _) _ _ _
  refine wpAny_bind (free_dead hz hT ?_)
  simp only [if_true]
  refine wpAny_bind (wpAny_rule ?_)
  refine wpAny_bind (wpAny_field hz rfl (x := .ref TO) rfl ?_)
  refine wpAny_bind (wpAny_setField_rec hz (by simp) fun g0 hz0 hs0 => ?_)
  replace hz0 : Zr g0 z TI TO .ellipsis f := hz0
  replace hs0 : Heap.SameBut z hp g0 := hs0
  refine wpAny_bind ?_
  simp only [List.zipIdx_cons, List.zipIdx_nil, List.forIn_cons, List.forIn_nil]
  refine wpAny_bind (wpAny_bind (wpAny_onRaise ?_))
  show wpAny _ _ (Builtin.SmallTypes.nextOf (.ref i1) >>= _) _ _ ⟨g0, g, d, tk0, os⟩
  refine wpAny_bind (D1.item i _ _ _ hlt1 (D1.over st1 hs0 S.zf1) fun x1 p1 tk1 hx1 sn1 hp1 => wpAny_pure ?_)
  replace hp1 : Heap.SameBut i1 g0 p1 := hp1
  have hU1 : IsTupOf2 p1 TO a1 a2 := hp1.extBut _ _ S.Ti1 (hs0.extBut _ _ S.TOz hTO)
  refine wpAny_bind (wpAny_seqItems (s := ⟨p1, g, d, tk1, os⟩) hU1 rfl ?_)
  refine wpAny_bind (updateSeq_IsTupOf2 (s := ⟨p1, g, d, tk1, os⟩) hU1 fun g1 hT1 hs1 => ?_)
  replace hT1 : IsTupOf2 g1 TO x1 a2 := hT1
  replace hs1 : Heap.SameBut TO p1 g1 := hs1
  refine wpAny_bind (wpAny_letGo (wpAny_pure ?_))
  refine wpAny_bind (wpAny_bind (wpAny_onRaise ?_))
  show wpAny _ _ (Builtin.SmallTypes.nextOf (.ref i2) >>= _) _ _ ⟨g1, g, d, tk1, os⟩
  refine wpAny_bind (D2.item i _ _ _ hlt2 (D2.over (D2.over (D2.over st2 hs0 S.zf2) hp1 S.sep1_2) hs1 S.Tf2) fun x2 p2 tk2 hx2 sn2 hp2 => wpAny_pure ?_)
  replace hp2 : Heap.SameBut i2 g1 p2 := hp2
  have hU2 : IsTupOf2 p2 TO x1 a2 := hp2.extBut _ _ S.Ti2 hT1
  refine wpAny_bind (wpAny_seqItems (s := ⟨p2, g, d, tk2, os⟩) hU2 rfl ?_)
  refine wpAny_bind (updateSeq_IsTupOf2 (s := ⟨p2, g, d, tk2, os⟩) hU2 fun g2 hT2 hs2 => ?_)
  replace hT2 : IsTupOf2 g2 TO x1 x2 := hT2
  replace hs2 : Heap.SameBut TO p2 g2 := hs2
  refine wpAny_bind (wpAny_letGo (wpAny_pure (wpAny_pure ?_)))
  refine wpAny_bind (wpAny_seqItems (s := ⟨g2, g, d, tk2, os⟩) hT2 rfl ?_)
  refine wpAny_bind (wpAny_newTuple ?_)
  have hsz : g2.objs.size = hp.objs.size := by rw [hs2.1, hp2.1, hs1.1, hp1.1, hs0.1]
  have hzz : Zr g2 z TI TO .ellipsis f := (hs2.extBut _ _ S.TOz.symm (hp2.extBut _ _ S.zi2 (hs1.extBut _ _ S.TOz.symm (hp1.extBut _ _ S.zi1 hz0))))
  have hkk : ∀ c o, c ≠ z → c ≠ TO → c ≠ i1 → c ≠ i2 → hp.get? c = some o → g2.get? c = some o := fun c o cz cT c1 c2 e =>
    (hs2.extBut _ _ cT (hp2.extBut _ _ c2 (hs1.extBut _ _ cT (hp1.extBut _ _ c1 (hs0.extBut _ _ cz e)))))
  have hj1 : St1 (i + 1) g2 := (D1.over (D1.over (D1.over sn1 hs1 S.Tf1) hp2 S.sep2_1) hs2 S.Tf1)
  have hj2 : St2 (i + 1) g2 := (D2.over sn2 hs2 S.Tf2)
  have hzlt : z < g2.objs.size := Heap.lt_size hzz
  show wpAny _ _ (Builtin.SmallTypes.ownedTupleHandOut (.ref z) (.ref g2.objs.size) >>= _) _ _ ⟨g2.push { cls := .type "tuple", data := .seq #[x1, x2] }, g, d, tk2, os⟩
  refine wpAny_bind ?_
  unfold Builtin.SmallTypes.ownedTupleHandOut
  have hz₆ : Zr (g2.push { cls := .type "tuple", data := .seq #[x1, x2] }) z TI TO .ellipsis f := Heap.get?_push_of_some _ hzz
  refine wpAny_bind (wpAny_setField_rec hz₆ (by simp) fun h₇ hz₇ hs₇ => ?_)
  replace hz₇ : Zr h₇ z TI TO (rawInt g2.objs.size) f := hz₇
  refine wpAny_setField_rec hz₇ (by simp) fun h₈ hz₈ hs₈ => ?_
  replace hz₈ : IsZip h₈ z TI TO (rawInt g2.objs.size) := hz₈
  replace hs₇ : Heap.SameBut z (g2.push { cls := .type "tuple", data := .seq #[x1, x2] }) h₇ := hs₇
  replace hs₈ : Heap.SameBut z h₇ h₈ := hs₈
  have up : ∀ c o, c ≠ z → g2.get? c = some o → h₈.get? c = some o := fun c o c1 e => hs₈.extBut _ _ c1 (hs₇.extBut _ _ c1 (Heap.get?_push_of_some _ e))
  have hT₈ : IsTupOf2 h₈ g2.objs.size x1 x2 := hs₈.extBut _ _ (Nat.ne_of_gt hzlt) (hs₇.extBut _ _ (Nat.ne_of_gt hzlt) (Heap.get?_push_size _ rfl))
  have hz8 : h₈.objs.size = g2.objs.size + 1 := by rw [hs₈.1, hs₇.1, Heap.size_push]
  rw [hsz] at hz₈ hT₈ hz8
  refine wpAny_pure ⟨_, rfl, ?_⟩
  show Q (.ref g2.objs.size) ⟨h₈, g, d, tk2, os⟩
  rw [hsz]
  exact hQ x1 x2 h₈ tk2 hx1 hx2 hz₈ (up _ _ S.TOz hT2) (D1.frame _ _ _ hj1 fun b hb o e => up b o (fun q => S.zf1 (q ▸ hb)) e) (D2.frame _ _ _ hj2 fun b hb o e => up b o (fun q => S.zf2 (q ▸ hb)) e) hT₈ hz8 fun c o cz cT c1 c2 e => up c o cz (hkk c o cz cT c1 c2 e)
theorem zd_end {Q : Fin → Shared → Prop} (S : ZipSep2 z TI TO i1 i2 fp1 fp2) (D1 : Draws prog w A i1 fp1 n1 P1 St1) (D2 : Draws prog w A i2 fp2 n2 P2 St2)
    (hz : IsZipHeld s.heap z TI TO T f) (hT : s.heap.get? T = none) (hTI : IsTupOf2 s.heap TI (.ref i1) (.ref i2)) (hTO : IsTupOf2 s.heap TO a1 a2) (st1 : St1 i s.heap) (st2 : St2 i s.heap) (hle1 : i ≤ n1) (hle2 : i ≤ n2) (hend : i = n1 ∨ i = n2)
    (hE : ∀ h' tk e, (∀ c o, c ≠ z → c ≠ TO → c ≠ i1 → c ≠ i2 → s.heap.get? c = some o → h'.get? c = some o) → (∃ o, h'.get? e = some o ∧ o.cls = .type "StopIteration") → E (.ref e) { s with heap := h', toks := tk }) :
    wpAny (model prog w) A (Builtin.«zip.__next__» ⟨[.ref z], []⟩) Q E s := by
  obtain ⟨hp, g, d, tk0, os⟩ := s
  show wpAny _ _ (field (.ref z) 2 >>= _) _ _ _
  refine wpAny_bind (wpAny_field hz rfl (x := .bool false) rfl ?_)
  show wpAny _ _ (field (.ref z) 3 >>= _) _ _ _
  refine wpAny_bind (wpAny_field hz rfl (x := .ref TI) rfl ?_)
  refine wpAny_bind (wpAny_seqItems hTI rfl ?_)
  show wpAny _ _ (Builtin.SmallTypes.ownedTupleIsFree (.ref z) >>= _) _ _ _
  refine wpAny_bind (free_dead hz hT ?_)
  simp only [if_true]
  refine wpAny_bind (wpAny_rule ?_)
  refine wpAny_bind (wpAny_field hz rfl (x := .ref TO) rfl ?_)
  refine wpAny_bind (wpAny_setField_rec hz (by simp) fun g0 hz0 hs0 => ?_)
  replace hz0 : Zr g0 z TI TO .ellipsis f := hz0
  replace hs0 : Heap.SameBut z hp g0 := hs0
  refine wpAny_bind ?_
  simp only [List.zipIdx_cons, List.zipIdx_nil, List.forIn_cons, List.forIn_nil]
  refine wpAny_bind (wpAny_bind (wpAny_onRaise ?_))
  show wpAny _ _ (Builtin.SmallTypes.nextOf (.ref i1) >>= _) _ _ ⟨g0, g, d, tk0, os⟩
  by_cases hlt1 : i < n1
  · refine wpAny_bind (D1.item i _ _ _ hlt1 (D1.over st1 hs0 S.zf1) fun x1 p1 tk1 hx1 sn1 hp1 => wpAny_pure ?_)
    replace hp1 : Heap.SameBut i1 g0 p1 := hp1
    have hU1 : IsTupOf2 p1 TO a1 a2 := hp1.extBut _ _ S.Ti1 (hs0.extBut _ _ S.TOz hTO)
    refine wpAny_bind (wpAny_seqItems (s := ⟨p1, g, d, tk1, os⟩) hU1 rfl ?_)
    refine wpAny_bind (updateSeq_IsTupOf2 (s := ⟨p1, g, d, tk1, os⟩) hU1 fun g1 hT1 hs1 => ?_)
    replace hT1 : IsTupOf2 g1 TO x1 a2 := hT1
    replace hs1 : Heap.SameBut TO p1 g1 := hs1
    refine wpAny_bind (wpAny_letGo (wpAny_pure ?_))
    have hi2 : i = n2 := by omega
    refine wpAny_bind (wpAny_bind (wpAny_onRaise ?_))
    show wpAny _ _ (Builtin.SmallTypes.nextOf (.ref i2) >>= _) _ _ ⟨g1, g, d, tk1, os⟩
    refine wpAny_bind (D2.done ⟨g1, g, d, tk1, os⟩ _ _ (by rw [← hi2]; exact (D2.over (D2.over (D2.over st2 hs0 S.zf2) hp1 S.sep1_2) hs1 S.Tf2)) fun q e hq he => ?_)
    replace hq : Heap.ExtBut i2 g1 q := hq
    obtain ⟨oe, hoe, hce⟩ := he
    replace hoe : q.get? e = some oe := hoe
    have hzq : Zr q z TI TO .ellipsis f := hq _ _ S.zi2 (hs1.extBut _ _ S.TOz.symm (hp1.extBut _ _ S.zi1 hz0))
    have hez : e ≠ z := fun x => by subst x; rw [hzq] at hoe; cases hoe; simp at hce
    refine wpAny_setField_rec (s := ⟨q, g, d, tk1, os⟩) hzq (by simp) fun q' _ hq' => ?_
    replace hq' : Heap.SameBut z q q' := hq'
    exact hE q' tk1 e (fun c o cz cT c1 c2 x => hq'.extBut _ _ cz (hq _ _ c2 (hs1.extBut _ _ cT (hp1.extBut _ _ c1 (hs0.extBut _ _ cz x))))) ⟨oe, hq'.extBut _ _ hez hoe, hce⟩
  · have hi1 : i = n1 := by omega
    refine wpAny_bind (D1.done ⟨g0, g, d, tk0, os⟩ _ _ (by rw [← hi1]; exact (D1.over st1 hs0 S.zf1)) fun q e hq he => ?_)
    replace hq : Heap.ExtBut i1 g0 q := hq
    obtain ⟨oe, hoe, hce⟩ := he
    replace hoe : q.get? e = some oe := hoe
    have hzq : Zr q z TI TO .ellipsis f := hq _ _ S.zi1 hz0
    have hez : e ≠ z := fun x => by subst x; rw [hzq] at hoe; cases hoe; simp at hce
    refine wpAny_setField_rec (s := ⟨q, g, d, tk0, os⟩) hzq (by simp) fun q' _ hq' => ?_
    replace hq' : Heap.SameBut z q q' := hq'
    exact hE q' tk0 e (fun c o cz cT c1 c2 x => hq'.extBut _ _ cz (hq _ _ c1 (hs0.extBut _ _ cz x))) ⟨oe, hq'.extBut _ _ hez hoe, hce⟩
/-- next(zip), whatever it has given out -/
theorem zs_nextOf {Q : Value → Shared → Prop} (S : ZipSep2 z TI TO i1 i2 fp1 fp2) (D1 : Draws prog w A.in1 i1 fp1 n1 P1 St1) (D2 : Draws prog w A.in1 i2 fp2 n2 P2 St2)
    (hz : Zs s.heap z TI TO) (hTI : IsTupOf2 s.heap TI (.ref i1) (.ref i2)) (st1 : St1 i s.heap) (st2 : St2 i s.heap) (hlt1 : i < n1) (hlt2 : i < n2)
    (hQ : ∀ x1 x2 h' tk, P1 i x1 → P2 i x2 → Zs h' z TI TO → St1 (i + 1) h' → St2 (i + 1) h' → IsTupOf2 h' s.heap.objs.size x1 x2 → h'.objs.size = s.heap.objs.size + 1 →
      (∀ c o, c ≠ z → c ≠ TO → c ≠ i1 → c ≠ i2 → s.heap.get? c = some o → h'.get? c = some o) → Q (.ref s.heap.objs.size) { s with heap := h', toks := tk }) :
    wpAny (model prog w) A (Builtin.SmallTypes.nextOf (.ref z)) Q E s := by
  obtain ⟨⟨x, y, hTO⟩, hz⟩ := hz
  have hTy : s.TypeIs (.ref z) "zip" := by
    rcases hz with hz | ⟨T, f, hz⟩
    · exact ⟨_, hz, rfl⟩
    · exact ⟨_, hz, rfl⟩
  unfold Builtin.SmallTypes.nextOf
  refine wpAny_bind (wpAny_callSpecial?_slot (name := Str.ofString "__next__") hTy F.slot_zip_next
    (wpAny_call_entry F.slot_zip_next hTy F.entry_zip_next ?_ (F.args_zip_next_1 _)))
  rcases hz with hz | ⟨T, f, hz⟩
  · exact zipD2_next_item S D1 D2 hz hTI hTO st1 st2 hlt1 hlt2 fun x1 x2 h' tk a0 a1 a2 a3 a4 a5 a6 a7 a8 => wpAny_pure (hQ x1 x2 h' tk a0 a1 ⟨⟨_, _, a3⟩, .inr ⟨s.heap.objs.size, false, a2⟩⟩ a4 a5 a6 a7 a8)
  · cases hT : s.heap.get? T with
    | some oT =>
      refine lz_next S D1 D2 hz hT hTI st1 st2 hlt1 hlt2 fun x1 x2 h' tk a0 a1 a2 a4 a5 a6 a7 a8 => wpAny_pure (hQ x1 x2 h' tk a0 a1 ⟨⟨x, y, a8 TO _ S.TOz S.Ti1 S.Ti2 hTO⟩, .inr ⟨T, true, a2⟩⟩ a4 a5 a6 a7 fun c o c1 _ c2 c3 e => a8 c o c1 c2 c3 e)
    | none => exact zd_next S D1 D2 hz hT hTI hTO st1 st2 hlt1 hlt2 fun x1 x2 h' tk a0 a1 a2 a3 a4 a5 a6 a7 a8 => wpAny_pure (hQ x1 x2 h' tk a0 a1 ⟨⟨_, _, a3⟩, .inr ⟨s.heap.objs.size, false, a2⟩⟩ a4 a5 a6 a7 a8)
theorem zs_endOf {Q : Value → Shared → Prop} (S : ZipSep2 z TI TO i1 i2 fp1 fp2) (D1 : Draws prog w A.in1 i1 fp1 n1 P1 St1) (D2 : Draws prog w A.in1 i2 fp2 n2 P2 St2)
    (hz : Zs s.heap z TI TO) (hTI : IsTupOf2 s.heap TI (.ref i1) (.ref i2)) (st1 : St1 i s.heap) (st2 : St2 i s.heap) (hle1 : i ≤ n1) (hle2 : i ≤ n2) (hend : i = n1 ∨ i = n2)
    (hE : ∀ h' tk e, (∀ c o, c ≠ z → c ≠ TO → c ≠ i1 → c ≠ i2 → s.heap.get? c = some o → h'.get? c = some o) → (∃ o, h'.get? e = some o ∧ o.cls = .type "StopIteration") → E (.ref e) { s with heap := h', toks := tk }) :
    wpAny (model prog w) A (Builtin.SmallTypes.nextOf (.ref z)) Q E s := by
  obtain ⟨⟨x, y, hTO⟩, hz⟩ := hz
  have hTy : s.TypeIs (.ref z) "zip" := by
    rcases hz with hz | ⟨T, f, hz⟩
    · exact ⟨_, hz, rfl⟩
    · exact ⟨_, hz, rfl⟩
  unfold Builtin.SmallTypes.nextOf
  refine wpAny_bind (wpAny_callSpecial?_slot (name := Str.ofString "__next__") hTy F.slot_zip_next
    (wpAny_call_entry F.slot_zip_next hTy F.entry_zip_next ?_ (F.args_zip_next_1 _)))
  rcases hz with hz | ⟨T, f, hz⟩
  · exact zipD2_next_end S D1 D2 hz hTI hTO st1 st2 hle1 hle2 hend hE
  · cases hT : s.heap.get? T with
    | some oT => exact lz_end S D1 D2 hz hT hTI st1 st2 hle1 hle2 hend fun h' tk e hk he => hE h' tk e (fun c o c1 _ c2 c3 x => hk c o c1 c2 c3 x) he
    | none => exact zd_end S D1 D2 hz hT hTI hTO st1 st2 hle1 hle2 hend hE
end
end PySem
namespace PySem
open Sem (wp)
open PySem.W
section
variable {prog : Program} {w : World} {A : Around} {E : Value → Shared → Prop} {s : Shared} {e z TI TO i1 i2 : Addr} {fp1 fp2 : List Addr} {n1 n2 i : Nat} {c : Int} {P1 P2 : Nat → Value → Prop} {St1 St2 : Nat → Heap → Prop} {old : Value}
/-- what the zip's own step leaves, and then the counter's -/
theorem ez_next {Q : Value → Shared → Prop} (S : ZipSep2 z TI TO i1 i2 fp1 fp2) (D1 : Draws prog w A.in1 i1 fp1 n1 P1 St1) (D2 : Draws prog w A.in1 i2 fp2 n2 P2 St2)
    (he : IsEnum s.heap e z c old) (hz : Zs s.heap z TI TO) (hTI : IsTupOf2 s.heap TI (.ref i1) (.ref i2)) (st1 : St1 i s.heap) (st2 : St2 i s.heap) (hlt1 : i < n1) (hlt2 : i < n2) (ne : e ≠ z ∧ e ≠ TO ∧ e ≠ i1 ∧ e ≠ i2)
    (hQ : ∀ x1 x2 h1 h2 tk tk2, P1 i x1 → P2 i x2 → Zs h1 z TI TO → St1 (i + 1) h1 → St2 (i + 1) h1 → IsTupOf2 h1 s.heap.objs.size x1 x2 → h1.objs.size = s.heap.objs.size + 1 →
      (∀ b o, b ≠ z → b ≠ TO → b ≠ i1 → b ≠ i2 → s.heap.get? b = some o → h1.get? b = some o) → IsEnumOut h2 e z (c + 1) (.ref s.heap.objs.size) h1.objs.size →
      h2.get? h1.objs.size = some { cls := .type "tuple", data := .seq #[.int c tk, .ref s.heap.objs.size] } → (∀ b o, b ≠ e → h1.get? b = some o → h2.get? b = some o) → Q (.ref h1.objs.size) { s with heap := h2, toks := tk2 }) :
    wpAny (model prog w) A (Builtin.«enumerate.__next__» ⟨[.ref e], []⟩) (fun fin s' => ∃ v, fin = .done (.ret v) ∧ Q v s') E s := by
  obtain ⟨hp, g, d, tk₀, os⟩ := s
  obtain ⟨ne1, ne2, ne3, ne4⟩ := ne
  show wpAny _ _ (field (.ref e) 2 >>= _) _ _ _
  refine wpAny_bind (wpAny_field he rfl (x := .ref z) rfl ?_)
  refine wpAny_bind (zs_nextOf S D1 D2 hz hTI st1 st2 hlt1 hlt2 fun x1 x2 h₁ tk hx1 hx2 hzs sn1 sn2 hp1 hsz1 hk1 => ?_)
  have he₁ : IsEnum h₁ e z c old := hk1 e _ ne1 ne2 ne3 ne4 he
  have hz1 : h₁.objs.size = hp.objs.size + 1 := hsz1
  replace hk1 : ∀ b o, b ≠ z → b ≠ TO → b ≠ i1 → b ≠ i2 → hp.get? b = some o → h₁.get? b = some o := hk1
  replace hp1 : IsTupOf2 h₁ hp.objs.size x1 x2 := hp1
  show wpAny _ _ (field (.ref e) 3 >>= _) _ _ ⟨h₁, g, d, tk, os⟩
  refine wpAny_bind (wpAny_field he₁ rfl (x := rawInt c) rfl ?_)
  show wpAny _ _ (field (.ref e) 4 >>= _) _ _ ⟨h₁, g, d, tk, os⟩
  refine wpAny_bind (wpAny_field he₁ rfl (x := .none) rfl ?_)
  show wpAny _ _ (mkInt c >>= _) _ _ ⟨h₁, g, d, tk, os⟩
  refine wpAny_bind (wpAny_mkInt ?_)
  show wpAny _ _ (setField (.ref e) 3 (rawInt (c + 1)) >>= _) _ _ ⟨h₁, g, d, tk + 1, os⟩
  refine wpAny_bind (wpAny_setField_rec he₁ (by simp) fun h₂ he₂ hs₂ => ?_)
  replace hs₂ : Heap.SameBut e h₁ h₂ := hs₂
  replace he₂ : IsEnum h₂ e z (c + 1) old := he₂
  show wpAny _ _ (setField (.ref e) 4 .none >>= _) _ _ ⟨h₂, g, d, tk + 1, os⟩
  refine wpAny_bind (wpAny_setField_rec he₂ (by simp) fun h₃ he₃ hs₃ => ?_)
  replace hs₃ : Heap.SameBut e h₂ h₃ := hs₃
  replace he₃ : IsEnum h₃ e z (c + 1) old := he₃
  show wpAny _ _ (newTuple [.int c tk, .ref hp.objs.size] >>= _) _ _ ⟨h₃, g, d, tk + 1, os⟩
  refine wpAny_bind (wpAny_newTuple ?_)
  have he₄ : IsEnum (h₃.push { cls := .type "tuple", data := .seq #[.int c tk, .ref hp.objs.size] }) e z (c + 1) old := Heap.get?_push_of_some _ he₃
  generalize hh₄ : h₃.push { cls := .type "tuple", data := .seq #[.int c tk, .ref hp.objs.size] } = h₄ at he₄
  have hsz : h₃.objs.size = h₁.objs.size := by rw [hs₃.1, hs₂.1]
  have hel : e < h₁.objs.size := Heap.lt_size he₁
  have ht₄ : h₄.get? h₁.objs.size = some { cls := .type "tuple", data := .seq #[.int c tk, .ref hp.objs.size] } := by rw [← hh₄, ← hsz]; exact Heap.get?_push_size _ rfl
  have hk₄ : ∀ b o, b ≠ e → h₁.get? b = some o → h₄.get? b = some o := fun b o hbe hb => by
    rw [← hh₄]; exact Heap.get?_push_of_some _ (hs₃.extBut b o hbe (hs₂.extBut b o hbe hb))
  show wpAny _ _ (Builtin.SmallTypes.ownedTupleIsFree (.ref e) >>= _) _ _ ⟨h₄, g, d, tk + 1, os⟩
  rw [hsz]
  clear hh₄ he₃ hs₃ he₂ hs₂ hsz h₃ h₂
  refine wpAny_bind ?_
  · unfold Builtin.SmallTypes.ownedTupleIsFree
    refine wpAny_bind (wpAny_field he₄ rfl (x := .none) rfl (wpAny_pure ?_))
    simp only [if_true]
    refine wpAny_bind (wpAny_rule ?_)
    refine wpAny_bind (wpAny_field he₄ rfl (x := old) rfl ?_)
    refine wpAny_bind (wpAny_setField_rec he₄ (by simp) fun h₅ he₅ hs₅ => ?_)
    replace hs₅ : Heap.SameBut e h₄ h₅ := hs₅
    replace he₅ : IsEnum h₅ e z (c + 1) (.ref hp.objs.size) := he₅
    show wpAny _ _ (Builtin.SmallTypes.ownedTupleHandOut (.ref e) (.ref h₁.objs.size) >>= _) _ _ ⟨h₅, g, d, tk + 1, os⟩
    refine wpAny_bind ?_
    · unfold Builtin.SmallTypes.ownedTupleHandOut
      refine wpAny_bind (wpAny_setField_rec he₅ (by simp) fun h₆ he₆ hs₆ => ?_)
      replace hs₆ : Heap.SameBut e h₅ h₆ := hs₆
      replace he₆ : IsEnumOut h₆ e z (c + 1) (.ref hp.objs.size) h₁.objs.size := he₆
      refine wpAny_setField_rec he₆ (by simp) fun h₇ he₇ hs₇ => ?_
      replace hs₇ : Heap.SameBut e h₆ h₇ := hs₇
      replace he₇ : IsEnumOut h₇ e z (c + 1) (.ref hp.objs.size) h₁.objs.size := he₇
      refine wpAny_bind (wpAny_letGo (wpAny_pure ⟨_, rfl, hQ x1 x2 h₁ h₇ tk (tk + 1) hx1 hx2 hzs sn1 sn2 hp1 hz1 hk1 he₇ ?_ ?_⟩))
      · exact hs₇.extBut _ _ (Nat.ne_of_gt hel) (hs₆.extBut _ _ (Nat.ne_of_gt hel) (hs₅.extBut _ _ (Nat.ne_of_gt hel) ht₄))
      · exact fun b o hbe hb => hs₇.extBut b o hbe (hs₆.extBut b o hbe (hs₅.extBut b o hbe (hk₄ b o hbe hb)))
theorem ez_pyNext {Q : Option Value → Shared → Prop} (S : ZipSep2 z TI TO i1 i2 fp1 fp2) (D1 : Draws prog w A.in1.in1 i1 fp1 n1 P1 St1) (D2 : Draws prog w A.in1.in1 i2 fp2 n2 P2 St2)
    (he : IsEnum s.heap e z c old) (hz : Zs s.heap z TI TO) (hTI : IsTupOf2 s.heap TI (.ref i1) (.ref i2)) (st1 : St1 i s.heap) (st2 : St2 i s.heap) (hlt1 : i < n1) (hlt2 : i < n2) (ne : e ≠ z ∧ e ≠ TO ∧ e ≠ i1 ∧ e ≠ i2)
    (hQ : ∀ x1 x2 h1 h2 tk tk2, P1 i x1 → P2 i x2 → Zs h1 z TI TO → St1 (i + 1) h1 → St2 (i + 1) h1 → IsTupOf2 h1 s.heap.objs.size x1 x2 → h1.objs.size = s.heap.objs.size + 1 →
      (∀ b o, b ≠ z → b ≠ TO → b ≠ i1 → b ≠ i2 → s.heap.get? b = some o → h1.get? b = some o) → IsEnumOut h2 e z (c + 1) (.ref s.heap.objs.size) h1.objs.size →
      h2.get? h1.objs.size = some { cls := .type "tuple", data := .seq #[.int c tk, .ref s.heap.objs.size] } → (∀ b o, b ≠ e → h1.get? b = some o → h2.get? b = some o) → Q (some (.ref h1.objs.size)) { s with heap := h2, toks := tk2 }) :
    wpAny (model prog w) A (pyNext (.ref e)) Q E s := by
  have hTy : s.TypeIs (.ref e) "enumerate" := ⟨_, he, rfl⟩
  unfold pyNext
  exact wpAny_bind (wpAny_attempt (wpAny_callSpecial?_slot (name := Str.ofString "__next__") hTy F.slot_enumerate_next
    (wpAny_call_entry F.slot_enumerate_next hTy F.entry_enumerate_next
      (ez_next S D1 D2 he hz hTI st1 st2 hlt1 hlt2 ne fun x1 x2 h1 h2 tk tk2 a0 a1 a2 a3 a4 a5 a6 a7 a8 a9 b0 => wpAny_pure (hQ x1 x2 h1 h2 tk tk2 a0 a1 a2 a3 a4 a5 a6 a7 a8 a9 b0)) (F.args_enumerate_next_1 _))))
theorem ez_pyEnd {Q : Option Value → Shared → Prop} (S : ZipSep2 z TI TO i1 i2 fp1 fp2) (D1 : Draws prog w A.in1.in1 i1 fp1 n1 P1 St1) (D2 : Draws prog w A.in1.in1 i2 fp2 n2 P2 St2)
    (he : IsEnum s.heap e z c old) (hz : Zs s.heap z TI TO) (hTI : IsTupOf2 s.heap TI (.ref i1) (.ref i2)) (st1 : St1 i s.heap) (st2 : St2 i s.heap) (hle1 : i ≤ n1) (hle2 : i ≤ n2) (hend : i = n1 ∨ i = n2)
    (hQ : ∀ h' tk, (∀ c o, c ≠ z → c ≠ TO → c ≠ i1 → c ≠ i2 → s.heap.get? c = some o → h'.get? c = some o) → Q none { s with heap := h', toks := tk }) : wpAny (model prog w) A (pyNext (.ref e)) Q E s := by
  have hTy : s.TypeIs (.ref e) "enumerate" := ⟨_, he, rfl⟩
  unfold pyNext
  refine wpAny_bind (wpAny_attempt (wpAny_callSpecial?_slot (name := Str.ofString "__next__") hTy F.slot_enumerate_next
    (wpAny_call_entry F.slot_enumerate_next hTy F.entry_enumerate_next ?_ (F.args_enumerate_next_1 _))))
  show wpAny _ _ (field (.ref e) 2 >>= _) _ _ _
  refine wpAny_bind (wpAny_field he rfl (x := .ref z) rfl ?_)
  refine wpAny_bind (zs_endOf S D1 D2 hz hTI st1 st2 hle1 hle2 hend fun h' tk x hk hx' => ?_)
  obtain ⟨o, ho, hc⟩ := hx'
  refine wpAny_bind (wpAny_isInstance (T := "StopIteration") (b := true) ⟨o, ho, hc⟩ isSubtype_stop ?_)
  exact wpAny_pure (hQ _ _ hk)
theorem enumZ_meets (z TI TO : Addr) :
    Meets (Builtin.«enumerate.__new__» ⟨[.type "enumerate", .ref z], []⟩) (fun _ R s => IsZip s.heap z TI TO .none ∧
      R (.ok (.ret (.ref s.heap.objs.size))) { s with heap := s.heap.push { cls := .type "enumerate", data := .fields #[.none, .bool false, .ref z, rawInt 0, .none, .none] } }) :=
  .of_wp fun prog w A R s hh => by
    obtain ⟨hp, g, d, tk, os⟩ := s
    obtain ⟨g1, hh⟩ := hh
    have hsub := sub_enumerate
    have go : ∀ {A' : Around} {E : Value → Shared → Prop} {Q : Value → Shared → Prop}, Q (.ref z) ⟨hp, g, d, tk, os⟩ → wpAny (model prog w) A' (pyIter (.ref z)) Q E ⟨hp, g, d, tk, os⟩ :=
      fun q => wpAny_pyIter_zip (s := ⟨hp, g, d, tk, os⟩) g1 q
    wp_walk using go
    refine wpAny_stack_any fun st => wpAny_pure ?_
    split
    · rename_i c _ _ _ _ _
      cases (c == Value.type "enumerate") <;>
      · wp_walk using go
        exact ⟨_, rfl, hh⟩
    · wp_walk using go
      exact ⟨_, rfl, hh⟩
theorem enumZ_call {Q : Value → Shared → Prop} (g : IsZip s.heap z TI TO .none)
    (hh : ∀ h', IsEnum h' s.heap.objs.size z 0 .none → h'.objs.size = s.heap.objs.size + 1 → (∀ b ob, s.heap.get? b = some ob → h'.get? b = some ob) → Q (.ref s.heap.objs.size) { s with heap := h' }) :
    wpAny (model prog w) A (call (.type "enumerate") [.ref z]) Q E s := by
  refine callType_new F.called_enumerate (by decide) (F.typeCall_enumerate_1 _) (F.newCall_enumerate_1 _) (fun ob => F.args_object_init_2 ob _) F.entry_enumerate_new (enumZ_meets z TI TO) ⟨g, ?_⟩
  have e0 := Heap.get?_push_size s.heap (o := { cls := .type "enumerate", data := .fields #[.none, .bool false, .ref z, rawInt 0, .none, .none] }) rfl
  exact ⟨⟨_, e0, rfl⟩, hh _ e0 (Heap.size_push ..) fun b ob q => Heap.get?_push_of_some _ q⟩
end
end PySem
namespace Dl
open PySem PySem.Spec PyProof.Rows L2
section
variable {X : Cx} {pins : List (Addr × Obj)} {σ : L2.St} {H : Hp} {s : Shared} {a it : Addr} {k : Bool} {xs : List V}
theorem dr_doneA {i : Nat} (A : Around) (hh : A.handled = none) (I : Inv X pins σ H s) (h : SqK k X.K H a xs) (hne : a ≠ it) (hle : xs.length ≤ i) (hit : ItK k s.heap it a i) : ∃ (Pv : Nat → Value → Prop) (St : Nat → Heap → Prop), Draws X.prog X.w A it [it, a] i Pv St ∧ St i s.heap := by
  cases k
  · obtain ⟨its, r, p, z⟩ := I.tuple h
    have l := r.length
    have hm : its.toArray[i]? = none := by rw [List.getElem?_toArray]; exact List.getElem?_eq_none (by omega)
    exact ⟨_, _, draws_done (P := X.prog) (w := X.w) (A := A) hh hne hm, rfl, hit, p⟩
  · obtain ⟨its, r, p, z⟩ := I.list h
    have l := r.length
    have hm : its.toArray[i]? = none := by rw [List.getElem?_toArray]; exact List.getElem?_eq_none (by omega)
    exact ⟨_, _, draws_doneL (P := X.prog) (w := X.w) (A := A) hh hne hm, rfl, hit, p.isList⟩
theorem dr_endA (i : Nat) (A : Around) (hh : A.handled = none) (I : Inv X pins σ H s) (h : SqK k X.K H a xs) (hne : a ≠ it) (hit : ItK k s.heap it a i) : ∃ (n : Nat) (Pv : Nat → Value → Prop) (St : Nat → Heap → Prop), Draws X.prog X.w A it [it, a] n Pv St ∧ St i s.heap ∧ i ≤ n ∧ (xs.length ≤ i → i = n) := by
  by_cases l : xs.length ≤ i
  · obtain ⟨P1, St1, D1, s1⟩ := dr_doneA A hh I h hne l hit
    exact ⟨_, _, _, D1, s1, Nat.le_refl _, fun _ => rfl⟩
  · obtain ⟨its, St1, rv, D1, s1⟩ := dr_itemA (it := it) A hh I h hne
    have := rv.length
    exact ⟨_, _, _, D1, s1 i s.heap hit fun _ _ e => e, by omega, fun z => absurd z l⟩
theorem dr_itemB (A : Around) (hh : A.handled = none) (I : Inv X pins σ H s) (h : SqK k X.K H a xs) (hne : a ≠ it) : ∃ (its : List Value) (St : Nat → Heap → Prop), Vals xs its ∧ Draws X.prog X.w A it [it, a] its.length (fun i v => its[i]? = some v) St ∧
    (∀ i, ItK k s.heap it a i → St i s.heap) ∧ ∀ i h', St i h' → ItK k h' it a i := by
  cases k
  · obtain ⟨its, r, p, z⟩ := I.tuple h
    have D := Draws.tuple (prog := X.prog) (w := X.w) (A := A) hh it a hne its.toArray
    simp only [List.size_toArray, List.getElem?_toArray] at D
    exact ⟨its, _, r, D, fun i q => ⟨q, p⟩, fun i h' st => st.1⟩
  · obtain ⟨its, r, p, z⟩ := I.list h
    have D := Draws.list (prog := X.prog) (w := X.w) (A := A) hh it a hne its.toArray
    simp only [List.size_toArray, List.getElem?_toArray] at D
    exact ⟨its, _, r, D, fun i q => ⟨q, p.isList⟩, fun i h' st => st.1⟩
end
def Ize (K : PySem.W.Frag) (k1 k2 : Bool) (a b : Addr) : It :=
  ⟨fun i H => ∃ (xs ys : List V) (x y : V), SqK k1 K H a xs ∧ SqK k2 K H b ys ∧ xs[i]? = some x ∧ ys[i]? = some y,
    fun i H v H' => ∃ T U x y, v = .ref U ∧ H T = none ∧ upd H T (.tup [x, y]) U = none ∧ H' = upd (upd H T (.tup [x, y])) U (.tup [.int (i : Nat), .ref T]) ∧ (∀ xs, SqK k1 K H a xs → xs[i]? = some x) ∧ ∀ ys, SqK k2 K H b ys → ys[i]? = some y,
    fun i H => ∃ xs ys : List V, SqK k1 K H a xs ∧ SqK k2 K H b ys ∧ (xs.length ≤ i ∨ ys.length ≤ i)⟩
theorem turn_ez {P : Program} {w : World} {K : PySem.W.Frag} {elts : List Expr} {kk : Nat} {tpos : Pos} {k1 k2 : Bool} {a b e z TI TO i1 i2 : Addr} (D : ZipSep2 z TI TO i1 i2 [i1, a] [i2, b]) (ne1 : a ≠ i1) (ne2 : b ≠ i2) (ne : e ≠ z ∧ e ≠ TO ∧ e ≠ i1 ∧ e ≠ i2) (nTI : TI ≠ e) :
    Turn P w K (.Tuple elts kk tpos) (Ize K k1 k2 a b) [e, z, TI, TO, i1, i2] e (fun i h => (∃ old, IsEnum h e z ((i : Nat) : Int) old) ∧ Zs h z TI TO ∧ IsTupOf2 h TI (.ref i1) (.ref i2) ∧ ItK k1 h i1 a i ∧ ItK k2 h i2 b i) where
  mem := by simp
  obj := fun i h st c hc => by
    obtain ⟨⟨old, he⟩, ⟨⟨x, y, hTO⟩, hz⟩, hTI, h1, h2⟩ := st
    have e' : c = e ∨ c = z ∨ c = TI ∨ c = TO ∨ c = i1 ∨ c = i2 := by simpa using hc
    rcases e' with q | q | q | q | q | q
    · rw [q]; exact ⟨_, he, fun v q => nomatch q⟩
    · rw [q]
      rcases hz with hz | ⟨T, f, hz⟩
      · exact ⟨_, hz, fun v q => nomatch q⟩
      · exact ⟨_, hz, fun v q => nomatch q⟩
    · rw [q]; exact ⟨_, hTI, fun v q => nomatch q⟩
    · rw [q]; exact ⟨_, hTO, fun v q => nomatch q⟩
    · rw [q]; exact itK_obj h1
    · rw [q]; exact itK_obj h2
  keep := fun i h h' st k => by
    obtain ⟨⟨old, he⟩, ⟨⟨x, y, hTO⟩, hz⟩, hTI, h1, h2⟩ := st
    refine ⟨⟨old, k e (by simp) _ he⟩, ⟨⟨x, y, k TO (by simp) _ hTO⟩, ?_⟩, k TI (by simp) _ hTI, itK_at h1 fun o q => k i1 (by simp) o q, itK_at h2 fun o q => k i2 (by simp) o q⟩
    rcases hz with hz | ⟨T, f, hz⟩
    · exact .inl (k z (by simp) _ hz)
    · exact .inr ⟨T, f, k z (by simp) _ hz⟩
  item := by
    intro X hP hw hK hc i pins s σ H E I hf st hg
    subst hP hw hK
    obtain ⟨⟨old, he⟩, hz, hTI, h1, h2⟩ := st
    obtain ⟨xs, ys, x, y, hqx, hqy, hx, hy⟩ := hg
    obtain ⟨its, St1, rv, D1, s1, t1⟩ := dr_itemB (it := i1) X.A.in1.in1 (I.ok.hd hc) I hqx ne1
    obtain ⟨its2, St2, rv2, D2, s2, t2⟩ := dr_itemB (it := i2) X.A.in1.in1 (I.ok.hd hc) I hqy ne2
    have hel : e < s.heap.objs.size := Heap.lt_size he
    have lx := rv.length
    have ly := rv2.length
    refine ez_pyNext D D1 D2 he hz hTI (s1 i h1) (s2 i h2) (by have := (List.getElem?_eq_some_iff.mp hx).1; omega) (by have := (List.getElem?_eq_some_iff.mp hy).1; omega) ne fun u u2 g1 g2 tk tk2 hu hu2 zs' st1' st2' hT sz1 hk1 eo hU hk2 => ?_
    obtain ⟨v, hv, ru⟩ := rv.get hx
    obtain ⟨v2, hv2, ru2⟩ := rv2.get hy
    rw [hv] at hu
    rw [hv2] at hu2
    cases hu
    cases hu2
    refine ⟨_, rfl, wpAny_letOwnedTupleGo_enum (s := { s with heap := g2, toks := tk2 }) eo fun h'' he'' sb => ?_⟩
    replace sb : Heap.SameBut e g2 h'' := sb
    have e1 : e < g1.objs.size := by rw [sz1]; exact Nat.lt_succ_of_lt hel
    have new1 : ObjOk X.prog X.w (upd H s.heap.objs.size (.tup [x, y])) g1 s.heap.objs.size (.tup [x, y]) :=
      ⟨by show 2 ≤ sizeLine; decide, [u, u2], .cons ru (.cons ru2 .nil), ⟨_, hT, rfl, _, rfl⟩⟩
    have sub4 : ∀ c, c ∈ [z, TO, i1, i2] → c ∈ [e, z, TI, TO, i1, i2] := fun c hc => by
      simp only [List.mem_cons, List.not_mem_nil, or_false] at hc ⊢
      rcases hc with q | q | q | q <;> simp [q]
    have I1 : Inv X pins σ (upd H s.heap.objs.size (.tup [x, y])) { s with heap := g1, toks := tk2 } :=
      I.turnedNew (t' := tk2) (ch := [z, TO, i1, i2]) (fun c o hb q => hk1 c o (fun q' => hb (by simp [q'])) (fun q' => hb (by simp [q'])) (fun q' => hb (by simp [q'])) (fun q' => hb (by simp [q'])) q) (fun c hc => hf c (sub4 c hc)) (Nat.le_refl _) new1
    have lt : ∀ c, c ∈ [e, z, TI, TO, i1, i2] → c < s.heap.objs.size := fun c hcm => by
      obtain ⟨⟨x0, y0, hTO⟩, hzz⟩ := hz
      have e' : c = e ∨ c = z ∨ c = TI ∨ c = TO ∨ c = i1 ∨ c = i2 := by simpa using hcm
      rcases e' with q | q | q | q | q | q
      · rw [q]; exact hel
      · rw [q]
        rcases hzz with hzz | ⟨T, f, hzz⟩
        · exact Heap.lt_size hzz
        · exact Heap.lt_size hzz
      · rw [q]; exact Heap.lt_size hTI
      · rw [q]; exact Heap.lt_size hTO
      · rw [q]; obtain ⟨_, e1, _⟩ := itK_obj h1; exact Heap.lt_size e1
      · rw [q]; obtain ⟨_, e2, _⟩ := itK_obj h2; exact Heap.lt_size e2
    have h1n : ∀ c, c ∈ [e, z, TI, TO, i1, i2] → upd H s.heap.objs.size (.tup [x, y]) c = none := fun c hcm => by
      rw [L2.upd_ne (Nat.ne_of_lt (lt c hcm))]
      exact (hf c hcm).1
    have hU2 : h''.get? g1.objs.size = some { cls := .type "tuple", data := .seq #[.int i tk, .ref s.heap.objs.size] } := (sb.2 _ (Nat.ne_of_gt e1)).trans hU
    have new2 : ObjOk X.prog X.w (upd (upd H s.heap.objs.size (.tup [x, y])) g1.objs.size (.tup [.int (i : Nat), .ref s.heap.objs.size])) h'' g1.objs.size (.tup [.int (i : Nat), .ref s.heap.objs.size]) :=
      ⟨by show 2 ≤ sizeLine; decide, [.int i tk, .ref s.heap.objs.size], .cons ⟨_, rfl⟩ (.cons rfl .nil), ⟨_, hU2, rfl, _, rfl⟩⟩
    have I2 : Inv X pins σ (upd (upd H s.heap.objs.size (.tup [x, y])) g1.objs.size (.tup [.int (i : Nat), .ref s.heap.objs.size])) { s with heap := h'', toks := tk2 } :=
      Inv.turnedNew (s := { s with heap := g1, toks := tk2 }) I1 (t' := tk2) (ch := [e]) (fun c o hb q => (sb.2 c (fun q' => hb (by simp [q']))).trans (hk2 c o (fun q' => hb (by simp [q'])) q)) (fun c hc => by
        rw [List.mem_singleton.mp hc]
        exact ⟨h1n e (by simp), (hf e (by simp)).2⟩) (Nat.le_refl _) new2
    have fin : ∀ c o, c ≠ e → g1.get? c = some o → h''.get? c = some o := fun c o hc q => (sb.2 c hc).trans (hk2 c o hc q)
    have uf : upd H s.heap.objs.size (.tup [x, y]) g1.objs.size = none := by
      rw [L2.upd_ne (by rw [sz1]; exact Nat.succ_ne_self _)]
      exact I.hok.fresh (by rw [sz1]; exact Nat.le_succ _)
    refine ⟨.ref g1.objs.size, _, I2, rfl, ⟨s.heap.objs.size, g1.objs.size, x, y, rfl, I.hok.fresh (Nat.le_refl _), uf, rfl, fun l hl => by rw [sqK_inj I hl hqx]; exact hx, fun l hl => by rw [sqK_inj I hl hqy]; exact hy⟩, ⟨⟨.ref s.heap.objs.size, ?_⟩, ?_, ?_, ?_, ?_⟩, fun c hcm => ?_⟩
    · rw [show ((i + 1 : Nat) : Int) = (i : Int) + 1 by omega]
      exact he''
    · obtain ⟨⟨x1, y1, hTO⟩, hzz⟩ := zs'
      refine ⟨⟨x1, y1, fin _ _ (Ne.symm ne.2.1) hTO⟩, ?_⟩
      rcases hzz with hzz | ⟨T, f, hzz⟩
      · exact .inl (fin _ _ (Ne.symm ne.1) hzz)
      · exact .inr ⟨T, f, fin _ _ (Ne.symm ne.1) hzz⟩
    · exact fin _ _ nTI (hk1 _ _ D.TIz D.TITO D.TIi1 D.TIi2 hTI)
    · exact itK_at (t1 _ _ st1') fun o q => fin _ _ (Ne.symm ne.2.2.1) q
    · exact itK_at (t2 _ _ st2') fun o q => fin _ _ (Ne.symm ne.2.2.2) q
    · rw [L2.upd_ne (Nat.ne_of_lt (by rw [sz1]; exact Nat.lt_succ_of_lt (lt c hcm)))]
      exact h1n c hcm
  done := by
    intro X hP hw hK hc i pins s σ H E I hf st hg
    subst hP hw hK
    obtain ⟨⟨old, he⟩, hz, hTI, h1, h2⟩ := st
    obtain ⟨xs, ys, hqx, hqy, hend⟩ := hg
    obtain ⟨n1, P1, St1, D1, s1, l1, m1⟩ := dr_endA i X.A.in1.in1 (I.ok.hd hc) I hqx ne1 h1
    obtain ⟨n2, P2, St2, D2, s2, l2, m2⟩ := dr_endA i X.A.in1.in1 (I.ok.hd hc) I hqy ne2 h2
    refine ez_pyEnd D D1 D2 he hz hTI s1 s2 l1 l2 (hend.imp m1 m2) fun h' tk hk => ⟨rfl, I.turnedL (t' := tk) (ch := [e, z, TI, TO, i1, i2]) (fun c o hb q => hk c o (fun q' => hb (by simp [q'])) (fun q' => hb (by simp [q'])) (fun q' => hb (by simp [q'])) (fun q' => hb (by simp [q'])) q) hf⟩
  self := fun A i s Q E st h => let ⟨⟨_, he⟩, _⟩ := st; wpAny_pyIter_enum he h
def iEz (K : PySem.W.Frag) (ta : TA) : TI := fun σ H R => ta σ H fun vs H1 => ∃ (k1 k2 : Bool) (a b : Addr) (xs ys : List V), vs = [.ref a, .ref b] ∧ SqK k1 K H1 a xs ∧ SqK k2 K H1 b ys ∧ R (Ize K k1 k2 a b) H1
theorem sep6 (I a b : Nat) (h1 : a < I) (h2 : b < I) : (I + 5 ≠ I + 4 ∧ I + 5 ≠ I + 3 ∧ I + 5 ≠ I ∧ I + 5 ≠ I + 1) ∧ I + 2 ≠ I + 5 := by omega
theorem pi_ez {X : Cx} {e e2 : Expr} {ta : TA} {p pos p2 pos2 tpos : Pos} {elts : List Expr} {kk : Nat} (hge : Gl X "enumerate") (hme : X.mg "enumerate" = none) (hg : Gl X "zip") (hm : X.mg "zip" = none) (ha : PA X [e, e2] ta)
    (na : starEach [.Call (.Name "zip" p2) [e, e2] [] pos2] X.env = (false, eval (.Call (.Name "zip" p2) [e, e2] [] pos2) X.env) :: starEach [] X.env := by rfl)
    (hs : starEach [e, e2] X.env = (false, eval e X.env) :: starEach [e2] X.env := by rfl) (hpl : (backTo pos2 (starEach [e2] X.env)).any (·.1) = false := by rfl) :
    PI X (.Tuple elts kk tpos) (.Call (.Name "enumerate" p) [.Call (.Name "zip" p2) [e, e2] [] pos2] [] pos) (iEz X.K ta) := by
  refine ⟨fun pins s σ H R I h => ?_⟩
  refine Call_ (ld_blt I hge hme boot_enumerate (PyProof.Rows.callWith_type1 (args_cons (Call_ (ld_blt I hg hm PyProof.Rows.boot_zip (PyProof.Rows.callWith_type1 (thn (ha.run pos2 pins s σ H _ I h) fun us s1 ⟨vs, H1, I1, r1, q1⟩ => ?_) hs hpl))) na) na))
  obtain ⟨k1, k2, a, b, xs, ys, ex, hqx, hqy, q⟩ := q1
  subst ex
  cases r1 with
  | cons r rr =>
    cases rr with
    | cons r' rr =>
      cases rr
      cases r
      cases r'
      have la := sqK_lt I1 hqx
      have lb := sqK_lt I1 hqy
      obtain ⟨G1, B1, g1⟩ := begK I1 hqx
      obtain ⟨G2, B2, g2⟩ := begK I1 hqy
      refine zip_begins2 B1 B2 g1 g2 fun h' hz hTI hTO e1 e2 hsz hk => args_nil ?_
      refine enumZ_call (s := { s1 with heap := h' }) hz fun h2 he hsz2 hk2 => wpAny_pyIter_enum he ?_
      replace hk2 : ∀ b ob, h'.get? b = some ob → h2.get? b = some ob := hk2
      replace he : IsEnum h2 h'.objs.size (s1.heap.objs.size + 4) 0 .none := he
      rw [hsz] at he
      have I2 : Inv X pins σ H1 { s1 with heap := h2 } := I1.kept (t' := s1.toks) fun c o e => hk2 c o (hk c o e)
      have fresh : ∀ c, c ∈ [s1.heap.objs.size + 5, s1.heap.objs.size + 4, s1.heap.objs.size + 2, s1.heap.objs.size + 3, s1.heap.objs.size, s1.heap.objs.size + 1] → FpOk X pins H1 c := fun c hcm => by
        have hle : s1.heap.objs.size ≤ c := by
          simp only [List.mem_cons, List.not_mem_nil, or_false] at hcm
          rcases hcm with z | z | z | z | z | z <;> (rw [z]; first | exact Nat.le_add_right _ _ | exact Nat.le_refl _)
        exact I1.fpOk hle (I1.hok.fresh hle)
      have s6 := sep6 s1.heap.objs.size a b la lb
      have eq5 : (show Addr from h'.objs.size) = s1.heap.objs.size + 5 := hsz
      refine ⟨s1.heap.objs.size + 5, [s1.heap.objs.size + 5, s1.heap.objs.size + 4, s1.heap.objs.size + 2, s1.heap.objs.size + 3, s1.heap.objs.size, s1.heap.objs.size + 1], _, _, H1, ?_, I2, turn_ez (sep2 s1.heap.objs.size a b la lb) (Nat.ne_of_lt la) (Nat.ne_of_lt (Nat.lt_succ_of_lt lb)) s6.1 s6.2,
        ⟨⟨.none, he⟩, ⟨⟨_, _, hk2 _ _ hTO⟩, .inl (hk2 _ _ hz)⟩, hk2 _ _ hTI, itK_new (hk2 _ _ e1), itK_new (hk2 _ _ e2)⟩, fresh, q⟩
      show Value.ref h'.objs.size = _
      rw [hsz]
def diEz2 (d1 d2 : DTE) : DTI := fun ρ μ Q => d1 ρ μ fun x μ1 => d2 ρ μ1 fun y μ2 => match src2 μ2 x, src2 μ2 y with | some s, some t => Q ⟨enumD (zipD s.its t.its), s.keep ++ t.keep⟩ μ2 | _, _ => False
theorem ize_ok {K : PySem.W.Frag} {α : List Addr} {H : Hp} {k1 k2 : Bool} {a b : Addr} {s t : Src} (L : KOk K k1 a s α H) (L' : KOk K k2 b t α H) : ItOk K (Ize K k1 k2 a b) ⟨enumD (zipD s.its t.its), s.keep ++ t.keep⟩ α H := ⟨fun α' H' μ' g S' hd' => by
  obtain ⟨ws, c1, c2⟩ := L.ok α' H' μ' g S' (fun p hp => hd' p (List.mem_append.mpr (.inl hp)))
  obtain ⟨zs, m1, m2⟩ := L'.ok α' H' μ' g S' (fun p hp => hd' p (List.mem_append.mpr (.inr hp)))
  have len : (enumD (zipD s.its t.its)).length = min ws.length zs.length := by
    rw [enumD_len]
    unfold zipD
    rw [List.length_zipWith, c2.length, m2.length]
  refine ⟨fun i hi => ?_, fun i hi => ?_, fun i d v H3 hg hy => ?_⟩
  · have hi : i < (enumD (zipD s.its t.its)).length := hi
    rw [len] at hi
    exact ⟨ws, zs, ws[i]'(by omega), zs[i]'(by omega), c1, m1, by simp, by simp⟩
  · have hi : (enumD (zipD s.its t.its)).length ≤ i := hi
    rw [len] at hi
    exact ⟨ws, zs, c1, m1, by omega⟩
  · obtain ⟨w0, hw0, rfl⟩ := enumD_get hg
    obtain ⟨x, y, hx, hz, rfl⟩ := zipD_get hw0
    obtain ⟨T, U, x1, x2, rfl, hT, hU, rfl, hy1, hy2⟩ := hy
    obtain ⟨w1, hw1, rw1⟩ := c2.get hx
    obtain ⟨w2, hw2, rw2⟩ := m2.get hz
    have e1 := hy1 ws c1
    have e2 := hy2 zs m1
    rw [hw1] at e1
    rw [hw2] at e2
    cases e1; cases e2
    obtain ⟨ga, sa, ra⟩ := new_pair S' rw1 rw2 hT
    obtain ⟨gb, sb, rb⟩ := new_pair sa (.int (i : Nat)) ra hU
    exact ⟨ga.trans gb, sb, rb⟩⟩
theorem di_ez {X : Cx} {e e2 : Expr} {d1 d2 : DTE} {p pos p2 pos2 tpos : Pos} {elts : List Expr} {kk : Nat} (hme : X.mg "enumerate" = none) (hm : X.mg "zip" = none) (he : PED X e d1) (he2 : PED X e2 d2) (hge : Gl X "enumerate" := by rfl) (hg : Gl X "zip" := by rfl)
    (na : starEach [.Call (.Name "zip" p2) [e, e2] [] pos2] X.env = (false, eval (.Call (.Name "zip" p2) [e, e2] [] pos2) X.env) :: starEach [] X.env := by rfl)
    (hs : starEach [e, e2] X.env = (false, eval e X.env) :: starEach [e2] X.env := by rfl) (hs2 : starEach [e2] X.env = (false, eval e2 X.env) :: starEach [] X.env := by rfl) (hpl : (backTo pos2 (starEach [e2] X.env)).any (·.1) = false := by rfl) :
    PID X (.Tuple elts kk tpos) (.Call (.Name "enumerate" p) [.Call (.Name "zip" p2) [e, e2] [] pos2] [] pos) (diEz2 d1 d2) := by
  obtain ⟨t1, a1, a2⟩ := he.ex
  obtain ⟨t2, b1, b2⟩ := he2.ex
  refine ⟨_, pi_ez hge hme hg hm (pa_cons a1 (pa_cons b1 pa_nil hs2) hs) na hs hpl, fun α σ H ρ μ Qd R S en h post => a2 α σ H ρ μ _ _ S en h fun v H1 α1 μ1 d g1 S1 r1 q1 => b2 α1 σ H1 ρ μ1 _ _ S1 (en.mono g1) q1 fun w H2 α2 μ2 dd g2 S2 r2 q2 => ?_⟩
  split at q2
  · rename_i s t es et
    obtain ⟨hd, k1, a, vs, rfl, q, L⟩ := kok_of S2 (r1.mono g2) es
    obtain ⟨hd2, k2, b, us, rfl, q', L'⟩ := kok_of S2 r2 et
    refine ⟨k1, k2, a, b, vs, us, rfl, q, q', post _ _ _ _ _ (g1.trans g2) S2 (fun p hp => ?_) (ize_ok L L') q2⟩
    rcases List.mem_append.mp hp with hp | hp
    · exact hd p hp
    · exact hd2 p hp
  · exact False.elim q2
end Dl
/-! Mx: methods of lists: pop, pop at a place, index. -/
namespace Dl
open PySem PySem.Spec PyProof.Rows L2
section
variable {X : Cx} {K : PySem.W.Frag} {α : List Addr} {H : Hp}
theorem RlAll.erase : ∀ {vs : List V} {ds : List D} (_ : RlAll K α H vs ds) (n : Nat), RlAll K α H (vs.eraseIdx n) (ds.eraseIdx n)
  | _, _, .nil, n => by cases n <;> exact .nil
  | _, _, .cons _ r, 0 => r
  | _, _, .cons q r, n + 1 => .cons q (RlAll.erase r n)
/-- xs.pop(i) -/
def mPopAt (do_ de : DTE) : DTE := fun ρ μ Q => do_ ρ μ fun o μ1 => match o with
  | .cell k => (μ1 k).isSome = true ∧ de ρ μ1 fun y μ2 => (match y with | .int i => ∃ xs n d, μ2 k = some xs ∧ (-(2 ^ 63) ≤ i ∧ i < 2 ^ 63) ∧ seqIndex? i xs.length = some n ∧ xs[n]? = some d ∧ Q d (μ2.upd k (xs.eraseIdx n)) | _ => False)
  | _ => False
theorem de_popAt {o e : Expr} {apos cpos : Pos} {d1 d2 : DTE} (ho : PED X o d1) (he : PED X e d2)
    (mk : ∀ {to te : TE}, PE X o to → PE X e te → PE X (.Call (.Attribute o "pop" apos) [e] [] cpos) (tBM X.K "list" rPopAt to (tCons te tNil)) := by
      intro _ _ a b; exact pe_bm PySem.F.plainAttrs_list PySem.F.slot_list_pop PySem.F.type_list_pop mt_popAt a (pa_cons b pa_nil)) : PED X (.Call (.Attribute o "pop" apos) [e] [] cpos) (mPopAt d1 d2) := by
  obtain ⟨t1, a1, a2⟩ := ho.ex
  obtain ⟨t2, b1, b2⟩ := he.ex
  refine ⟨_, mk a1 b1, fun α σ H ρ μ Qd Q S E h post => a2 α σ H ρ μ _ _ S E h fun v H1 α1 μ1 d g1 S1 r1 q1 => ?_⟩
  cases r1 with
  | @cell a k q =>
    obtain ⟨q1, q2⟩ := q1
    cases ex : μ1 k with
    | none =>
      rw [ex] at q1
      cases q1
    | some xs =>
      obtain ⟨b, vs, h1, h2, h3⟩ := S1.cell _ _ ex
      rw [q] at h1
      cases h1
      refine ⟨.inl ⟨rfl, vs, .of h2⟩, b2 α1 σ H1 ρ μ1 _ _ S1 (E.mono g1) q2 fun y H2 α2 μ2 dy g2 S2 r2 q2 => ?_⟩
      split at q2
      · rename_i i
        cases r2
        obtain ⟨ys, n, d, ey, hb, hn, hd, q2⟩ := q2
        obtain ⟨c, ws, k1, k2, k3⟩ := S2.cell _ _ ey
        have at2 := g2.pre _ _ q
        rw [at2] at k1
        cases k1
        obtain ⟨w, hw, rw'⟩ := k3.get hd
        exact ⟨_, ws, i, n, w, rfl, rfl, k2, hb.1, hb.2, by rw [k3.length]; exact hn, hw, post _ _ _ _ _ ((g1.trans g2).trans (gr_set k2)) (S2.set at2 k2 (k3.erase n)) (rw'.mono (gr_set k2)) q2⟩
      · exact False.elim q2
  | _ => exact False.elim q1
/-- xs.pop() -/
def mPop (do_ : DTE) : DTE := fun ρ μ Q => do_ ρ μ fun o μ1 => match o with
  | .cell k => ∃ xs d, μ1 k = some xs ∧ xs[xs.length - 1]? = some d ∧ Q d (μ1.upd k xs.dropLast)
  | _ => False
/-- xs.index(y), numbers -/
def mIdx (do_ de : DTE) : DTE := fun ρ μ Q => do_ ρ μ fun o μ1 => match o with
  | .cell k => (μ1 k).isSome = true ∧ de ρ μ1 fun y μ2 => (match y with | .int i => ∃ ns : List Int, μ2 k = some (ns.map D.int) ∧ i ∈ ns ∧ Q (.int (ns.idxOf i : Nat)) μ2 | _ => False)
  | _ => False
theorem idx_first {i : Int} : ∀ {ns : List Int}, i ∈ ns → ns[ns.idxOf i]? = some i ∧ ∀ m, m < ns.idxOf i → ∀ z, ns[m]? = some z → z ≠ i
  | [], h => nomatch h
  | x :: ns, h => by
    by_cases e : x = i
    · subst e
      rw [List.idxOf_cons_self]
      exact ⟨rfl, fun m hm => absurd hm (Nat.not_lt_zero _)⟩
    · have h2 : i ∈ ns := by
        rcases List.mem_cons.mp h with r | r
        · exact absurd r.symm e
        · exact r
      obtain ⟨a, b⟩ := idx_first h2
      rw [show (x :: ns).idxOf i = ns.idxOf i + 1 by rw [List.idxOf_cons, beq_eq_false_iff_ne.mpr e]; rfl]
      refine ⟨by simpa using a, fun m hm z hz => ?_⟩
      cases m with
      | zero =>
        have : x = z := by simpa using hz
        rw [← this]
        exact e
      | succ m => exact b m (by omega) z (by simpa using hz)
theorem de_index {o e : Expr} {apos cpos : Pos} {d1 d2 : DTE} (ho : PED X o d1) (he : PED X e d2)
    (mk : ∀ {to te : TE}, PE X o to → PE X e te → PE X (.Call (.Attribute o "index" apos) [e] [] cpos) (tBM X.K "list" (rIndex X.K) to (tCons te tNil)) := by
      intro _ _ a b; exact pe_bm PySem.F.plainAttrs_list PySem.F.slot_list_index PySem.F.type_list_index mt_index a (pa_cons b pa_nil)) : PED X (.Call (.Attribute o "index" apos) [e] [] cpos) (mIdx d1 d2) := by
  obtain ⟨t1, a1, a2⟩ := ho.ex
  obtain ⟨t2, b1, b2⟩ := he.ex
  refine ⟨_, mk a1 b1, fun α σ H ρ μ Qd Q S E h post => a2 α σ H ρ μ _ _ S E h fun v H1 α1 μ1 d g1 S1 r1 q1 => ?_⟩
  cases r1 with
  | @cell a k q =>
    obtain ⟨q1, q2⟩ := q1
    cases ex : μ1 k with
    | none =>
      rw [ex] at q1
      cases q1
    | some xs =>
      obtain ⟨b, vs, h1, h2, h3⟩ := S1.cell _ _ ex
      rw [q] at h1
      cases h1
      refine ⟨.inl ⟨rfl, vs, .of h2⟩, b2 α1 σ H1 ρ μ1 _ _ S1 (E.mono g1) q2 fun y H2 α2 μ2 dy g2 S2 r2 q2 => ?_⟩
      split at q2
      · rename_i i
        cases r2
        obtain ⟨ns, ey, hi, q2⟩ := q2
        obtain ⟨c, ws, k1, k2, k3⟩ := S2.cell _ _ ey
        have at2 := g2.pre _ _ q
        rw [at2] at k1
        cases k1
        have ew := k3.ints
        subst ew
        obtain ⟨f1, f2⟩ := idx_first hi
        refine ⟨_, _, .int i, ns.idxOf i, .int i, rfl, rfl, .of k2, rfl, flat_ints ns, by rw [List.getElem?_map, f1]; rfl, by simp [eqV], fun m z' hm hz => ?_, post _ _ _ _ _ (g1.trans g2) S2 (.int _) q2⟩
        rw [List.getElem?_map] at hz
        obtain ⟨z, hz2, rfl⟩ := Option.map_eq_some_iff.mp hz
        have := f2 m hm z hz2
        simp [eqV, this]
      · exact False.elim q2
  | _ => exact False.elim q1
end
end Dl
/-! So: sorted over a list of ints, too. -/
namespace Dl
open PySem PySem.Spec PyProof.Rows L2
def sSrt2 : List D → Mu → (List D → Mu → Prop) → Prop := fun xs μ Q => sSrt xs μ Q ∨ ∃ ns : List Int, xs = ns.map D.int ∧ ∀ out : List Int, out.Perm ns → out.Pairwise (· ≤ ·) → Q (out.map D.int) μ
theorem rl_int {K : PySem.W.Frag} {α : List Addr} {H : Hp} : ∀ ns : List Int, RlAll K α H (ns.map V.int) (ns.map D.int)
  | [] => .nil
  | n :: ns => .cons (.int n) (rl_int ns)
section
variable {X : Cx}
theorem s_srt2 (hu : X.A.units + 64 < cLine) : SeqLD X (.builtin "sorted") false sSrt2 := by
  obtain ⟨r1, c1, d1⟩ := (s_srt (X := X) hu).ex
  refine ⟨_, CallR.or c1 cr_sortedI, fun α H μ p vs xs Qd Q S q r h post => ?_⟩
  rcases h with h | ⟨ns, rfl, h⟩
  · exact .inl (d1 α H μ p vs xs Qd Q S q r h post)
  · refine .inr ⟨p, ns, rfl, ?_, fun out l hp ho hl => ?_⟩
    · rw [← RlAll.ints r]
      exact q.resolve_right fun z => nomatch z.1
    · exact post.here S (rl_int out) (h out hp ho) hl
end
theorem sort_uniq : ∀ {a b : List Int}, a.Perm b → a.Pairwise (· ≤ ·) → b.Pairwise (· ≤ ·) → a = b := fun h s t => List.Perm.eq_of_pairwise (fun _ _ _ _ x y => Int.le_antisymm x y) s t h
end Dl
/-! In3: x in a list or tuple of strings, too. -/
namespace Dl
open PySem PySem.Spec PyProof.Rows L2
def oIn3 (neg : Bool) : D → D → Mu → DK → Prop := fun x y μ Q => oIn2 neg x y μ Q ∨ ∃ (z : Str) (zs : List Str), x = .str z ∧ items μ y = some (zs.map D.str) ∧ Q (.bl (if neg then !decide (z ∈ zs) else decide (z ∈ zs))) μ
theorem RlAll.strs {K : PySem.W.Frag} {α : List Addr} {H : Hp} : ∀ {zs : List Str} {vs : List V}, RlAll K α H vs (zs.map D.str) → vs = zs.map V.str
  | [], _, h => by cases h; rfl
  | z :: zs, _, h => by
    cases h with
    | cons a b =>
      cases a
      rw [RlAll.strs b]
      rfl
theorem flat_strs (zs : List Str) : (zs.map V.str).all flatV = true := by
  rw [List.all_map, List.all_eq_true]
  intro x _
  rfl
theorem inV_strs (z : Str) (zs : List Str) : inV (.str z) (zs.map V.str) = decide (z ∈ zs) := by
  unfold inV
  rw [List.any_map, Bool.eq_iff_iff, List.any_eq_true, decide_eq_true_eq]
  constructor
  · rintro ⟨x, hx, e⟩
    have e : (x == z) = true := e
    rw [beq_iff_eq] at e
    rw [← e]
    exact hx
  · intro h
    exact ⟨z, h, (beq_iff_eq).mpr rfl⟩
section
variable {X : Cx}
theorem snd_in3 (neg : Bool) {K : PySem.W.Frag} {r : R2} (hr : ∀ x y H Q, (∃ d ds, Dp K H x d ∧ Dp K H y (.list ds) ∧ SeqAt.shaped d = true ∧ SeqAt.shaped (.list ds) = true ∧ Q (.bl (if neg then !(ds.any fun z => PyData.eqv z d) else ds.any fun z => PyData.eqv z d)) H) → r x y H Q) : SndR K (fun x y H Q => rIn K neg x y H Q ∨ r x y H Q) (oIn3 neg) := fun α H μ x y dx dy Qd Q S rx ry h post => by
  rcases h with h | ⟨z, zs, rfl, e, h⟩
  · exact snd_in2 neg hr α H μ x y dx dy Qd Q S rx ry h post
  · obtain ⟨a, vs, rfl, q, r⟩ := S.seq ry e
    have e2 := r.strs
    subst e2
    cases rx
    refine .inl ⟨a, _, rfl, q, rfl, flat_strs zs, ?_⟩
    rw [inV_strs]
    exact post.here S (.bl _) h
theorem o_in3 (hu : X.A.units + 200 < cLine) : OpD X (compareOp .In) (oIn3 false) := ⟨_, OpR.or op_in_seq (op_inD (by omega)), snd_in3 false fun x y H Q h => h⟩
theorem o_notIn3 (hu : X.A.units + 200 < cLine) : OpD X (compareOp .NotIn) (oIn3 true) := ⟨_, OpR.or op_notIn_seq (op_notInD (by omega)), snd_in3 true fun x y H Q h => h⟩
end
end Dl
namespace K40
open PySem PySem.Spec PyProof.Rows L2 Dl
local macro_rules | `(tactic| walk_at "ev") => `(tactic| try simp -dsimp only [↓dSeq_at, cInt2, oIs2, oNot2, dRet, dRetN, dNext, dIfS, dAsg, dDrop, dPar, dNever, dVar, dC, dOp, dUn, dTest, dChain, dAnd, dOr, dNot, dIf, dtAnd, dtOr, dtNot, dTup, daNil, daCons, dCall, dFn, dFnK, dNew, dLst, dOf,
  gdName, gdTup, gdCons, gdNil, gdSub, rdI, rdI0, oPlus, oSub, oTimes, oDiv, oMod, oPow, oLt, oLe, oGt, oGe, oIx, oEq, oNe, uNeg, oIsN, oNotN, D.isNon, cAbs, cMax, cMin, cInt, cDivmod, cLen, cIsi, tyD, items, litems, retD, sTup, mApp, dYes,
  atI_0, atI_1, atI_2, atI_3, atI_4, ixN_20, ixN_21, kit_ii, kit_ib, kit_is, kit_it, kit_il, kit_bi, kit_bb, kit_bs, kit_bt, kit_bl, kit_si, kit_sb, kit_ss, kit_st, kit_sl, kit_ti, kit_tb, kit_ts, kit_tt, kit_tl, kit_li, kit_lb, kit_ls, kit_lt, kit_ll,
  List.getElem?_cons_zero, List.getElem?_cons_succ, List.set_cons_zero, List.set_cons_succ, List.length_cons, List.length_nil, Mu.upd_same, Mu.upd_upd, Nat.zero_add, Nat.reduceAdd, Nat.reduceLeDiff, natlit, Int.reduceEq, Int.reduceLT, Int.reduceLE, Int.reduceAdd, Int.reduceSub, Int.reduceMul, Int.reducePow, Int.reduceNeg, permG2_10, permG3_210, zl_0, zl_1, zl_2, zl_3, zl_4, zl_5, zl_6, zl_7, zl_8, zl_9, zl_10, zl_11, zl_12, zl_13, zl_14, zl_15, zl_16, zl_17, zl_18, zl_19, zl_20, true_and, and_true, eq_self, not_true_eq_false, not_false_eq_true, decide_true, decide_false, if_true, Bool.false_eq_true, if_false, Bool.not_true, Bool.not_false, decide_eq_true_eq, Bool.not_eq_true', decide_eq_false_iff_not, Option.isSome, Option.map])
/-! ## numbers -/
theorem gcd_step (a b : Int) (hb : 0 < b) : Int.gcd b (a % b) = Int.gcd a b := by
  have h := Int.gcd_add_mul_right_right b (a % b) (a / b)
  rw [Int.mul_comm (a / b) b, Int.emod_add_mul_ediv] at h
  rw [← h, Int.gcd_comm]
/-- in lowest terms -/
def low (t b : Int) : Int × Int := (t / (Int.gcd t b : Int), b / (Int.gcd t b : Int))
def fr (p : Int × Int) : D := .tup [.int p.1, .int p.2]
theorem gcd_pos {t b : Int} (hb : 0 < b) : 0 < (Int.gcd t b : Int) := by
  have h : 0 < Int.gcd t b := Int.gcd_pos_of_ne_zero_right t (by omega)
  omega
theorem gcd_le {t b : Int} (hb : 0 < b) : (Int.gcd t b : Int) ≤ b := Int.le_of_dvd hb (Int.gcd_dvd_right t b)
theorem max_gcd {t b : Int} (hb : 0 < b) : max 1 (Int.gcd t b : Int) = Int.gcd t b := by
  have := gcd_pos (t := t) hb
  omega
/-! ## the divisor -/
def sp_common : DSp := fun ds μ Q => match ds with | [.int a, .int b] => (0 ≤ a ∧ 0 ≤ b) ∧ Q (.int (max 1 (Int.gcd a b : Int))) μ | _ => False
theorem len_common : ∀ ds μ Q, sp_common ds μ Q → ds.length = (["near", "far"] : List Str).length := by
  intro ds μ Q h
  unfold sp_common at h
  split at h <;> first | rfl | exact h.elim
def db_common : DTS := (dSeq (dWhile (dTest (dOp oGt (dVar 1) (dC (.int 0)))) (dPar 0 1 (daCons (dVar 1) (daCons (dOp oMod (dCall cInt2 (daCons (dVar 0) daNil)) (dVar 1)) daNil)))) (dRet (dCall cMax (daCons (dC (.int 1)) (daCons (dVar 0) daNil)))))
theorem gcd_while (a b : Int) (ha : 0 ≤ a) (hb : 0 ≤ b) (μ : Mu) (dc : DTT) (db : DTS) (D : DEnds)
    (hc : ∀ x y : Int, ∀ Q, Q (decide (0 < y)) μ → dc [some (.int x), some (.int y)] μ Q)
    (hbd : ∀ (x y : Int) (D : DEnds), 0 < y → D.nx [some (.int y), some (.int (x % y))] μ → db D [some (.int x), some (.int y)] μ)
    (h : D.nx [some (.int (Int.gcd a b : Int)), some (.int 0)] μ) : dWhile dc db D [some (.int a), some (.int b)] μ := by
  refine ⟨fun ρ' μ' => μ' = μ ∧ ∃ x y : Int, ρ' = [some (.int x), some (.int y)] ∧ 0 ≤ x ∧ 0 ≤ y ∧ Int.gcd x y = Int.gcd a b,
    fun ρ' _ => match ρ' with | [_, some (.int y)] => y.toNat | _ => 0, ⟨rfl, a, b, rfl, ha, hb, rfl⟩, fun ρ' μ' w => ?_⟩
  obtain ⟨rfl, x, y, rfl, hx, hy, hg⟩ := w
  refine hc x y _ ?_
  by_cases h0 : 0 < y
  · rw [decide_eq_true h0, if_pos rfl]
    refine hbd x y _ h0 ?_
    have h1 := Int.emod_nonneg x (show y ≠ 0 by omega)
    have h2 := Int.emod_lt_of_pos x h0
    refine ⟨⟨rfl, y, x % y, rfl, by omega, h1, ?_⟩, ?_⟩
    · rw [gcd_step x y h0, hg]
    · show (x % y).toNat < y.toNat
      omega
  · rw [decide_eq_false h0, if_neg (by decide)]
    have e : y = 0 := by omega
    subst e
    rw [Int.gcd_zero_right] at hg
    have e2 : x = (Int.gcd a b : Int) := by omega
    rw [e2]
    exact h
theorem pf_common : ∀ ds μ Q, sp_common ds μ Q → db_common (retD Q) (startD ["near", "far"] ds) μ := by
  intro ds μ Q h
  unfold sp_common at h
  split at h
  · rename_i a b
    obtain ⟨⟨ha, hb⟩, h⟩ := h
    refine gcd_while a b ha hb μ _ _ _ (fun x y Q q => ?_) (fun x y D hy q => ?_) ?_
    · walk_at "ev"
      exact q
    · walk_at "ev"
      exact ⟨hy, q⟩
    · refine ⟨_, Mu.Sub.refl _, ?_⟩
      walk_at "ev"
      exact ⟨_, Mu.Sub.refl _, h⟩
  · exact h.elim
def sp_law_divisor : DSp := fun ds μ Q => match ds with | [.int a, .int b] => (0 ≤ a ∧ 0 ≤ b) ∧ Q (.int (max 1 (Int.gcd a b : Int))) μ | _ => False
/-! ## lowest terms -/
theorem gcd_abs (t b : Int) : Int.gcd (t.natAbs : Int) b = Int.gcd t b := by
  show Nat.gcd (Int.natAbs (t.natAbs : Int)) b.natAbs = Nat.gcd t.natAbs b.natAbs
  rw [Int.natAbs_natCast]
def sp_lowest : DSp := fun ds μ Q => match ds with | [.int t, .int b] => (0 < b ∧ b < 2 ^ 200) ∧ Q (fr (low t b)) μ | _ => False
theorem len_lowest : ∀ ds μ Q, sp_lowest ds μ Q → ds.length = (["top", "bottom"] : List Str).length := by
  intro ds μ Q h
  unfold sp_lowest at h
  split at h <;> first | rfl | exact h.elim
def db_lowest : DTS := (dSeq (dAsg (dFn sp_common (daCons (dCall cAbs (daCons (dVar 0) daNil)) (daCons (dVar 1) daNil))) (gdName 2)) (dRet (dTup (daCons (dOp oDiv (dVar 0) (dVar 2)) (daCons (dOp oDiv (dVar 1) (dVar 2)) daNil)))))
theorem pf_lowest : ∀ ds μ Q, sp_lowest ds μ Q → db_lowest (retD Q) (startD ["top", "bottom", "many"] ds) μ := by
  intro ds μ Q h
  unfold sp_lowest at h
  split at h
  · rename_i t b
    obtain ⟨⟨h0, h1⟩, h⟩ := h
    show db_lowest (retD Q) [some (.int t), some (.int b), none] μ
    unfold db_lowest
    refine sq fun U hU => ?_
    walk_at "ev"
    refine ⟨⟨by omega, by omega⟩, ?_⟩
    refine hU.go ?_
    walk_at "ev"
    have e : Int.gcd (t.natAbs : Int) b = Int.gcd t b := by
      show Nat.gcd (Int.natAbs (t.natAbs : Int)) b.natAbs = Nat.gcd t.natAbs b.natAbs
      rw [Int.natAbs_natCast]
    have hp := gcd_pos (t := t) h0
    have hl := gcd_le (t := t) h0
    rw [e, max_gcd h0]
    exact ⟨div_ok hp (by omega), div_ok hp (by omega), μ, Mu.Sub.refl _, h⟩
  · exact h.elim
def sp_law_lowest : DSp := fun ds μ Q => match ds with | [.int t, .int b] => (0 ≤ t ∧ 0 < b ∧ b < 2 ^ 200) ∧ Q (fr (low t b)) μ | _ => False
/-! ## kinds -/
def sp_is_integer : DSp := fun ds μ Q => match ds with | [.int _] => Q (.bl true) μ | _ => False
theorem len_is_integer : ∀ ds μ Q, sp_is_integer ds μ Q → ds.length = (["value"] : List Str).length := by
  intro ds μ Q h
  unfold sp_is_integer at h
  split at h <;> first | rfl | exact h.elim
def db_is_integer : DTS := (dRet (dAnd (dCall cIsi (daCons (dVar 0) (daCons (dC (.ty "int")) daNil))) (dNot (dCall cIsi (daCons (dVar 0) (daCons (dC (.ty "bool")) daNil))))))
theorem pf_is_integer : ∀ ds μ Q, sp_is_integer ds μ Q → db_is_integer (retD Q) (startD ["value"] ds) μ := by
  intro ds μ Q h
  unfold sp_is_integer at h
  split at h
  · rename_i t
    show db_is_integer (retD Q) [some (.int t)] μ
    unfold db_is_integer
    walk_at "ev"
    exact ⟨μ, Mu.Sub.refl _, h⟩
  · exact h.elim
def sp_is_tuple : DSp := fun ds μ Q => match ds with | [.tup xs, .int n] => Q (.bl (decide ((xs.length : Int) = n))) μ | _ => False
theorem len_is_tuple : ∀ ds μ Q, sp_is_tuple ds μ Q → ds.length = (["value", "many"] : List Str).length := by
  intro ds μ Q h
  unfold sp_is_tuple at h
  split at h <;> first | rfl | exact h.elim
def db_is_tuple : DTS := (dRet (dAnd (dCall cIsi (daCons (dVar 0) (daCons (dC (.ty "tuple")) daNil))) (dOp oEq (dCall cLen (daCons (dVar 0) daNil)) (dVar 1))))
theorem pf_is_tuple : ∀ ds μ Q, sp_is_tuple ds μ Q → db_is_tuple (retD Q) (startD ["value", "many"] ds) μ := by
  intro ds μ Q h
  unfold sp_is_tuple at h
  split at h
  · rename_i xs n
    show db_is_tuple (retD Q) [some (.tup xs), some (.int n)] μ
    unfold db_is_tuple
    walk_at "ev"
    exact ⟨μ, Mu.Sub.refl _, h⟩
  · exact h.elim
def sp_is_within : DSp := fun ds μ Q => match ds with | [.int v, .int l, .int m] => Q (.bl (decide (l ≤ v ∧ v ≤ m))) μ | _ => False
theorem len_is_within : ∀ ds μ Q, sp_is_within ds μ Q → ds.length = (["value", "least", "most"] : List Str).length := by
  intro ds μ Q h
  unfold sp_is_within at h
  split at h <;> first | rfl | exact h.elim
def db_is_within : DTS := (dRet (dAnd (dFn sp_is_integer (daCons (dVar 0) daNil)) (dChain oLe oLe (dVar 1) (dVar 0) (dVar 2))))
theorem pf_is_within : ∀ ds μ Q, sp_is_within ds μ Q → db_is_within (retD Q) (startD ["value", "least", "most"] ds) μ := by
  intro ds μ Q h
  unfold sp_is_within at h
  split at h
  · rename_i v l m
    show db_is_within (retD Q) [some (.int v), some (.int l), some (.int m)] μ
    unfold db_is_within
    walk_at "ev"
    simp -dsimp only [sp_is_integer, if_true]
    by_cases h1 : l ≤ v
    · rw [if_pos h1]
      refine ⟨μ, Mu.Sub.refl _, ?_⟩
      rw [show decide (v ≤ m) = decide (l ≤ v ∧ v ≤ m) by simp [h1]]
      exact h
    · rw [if_neg h1]
      refine ⟨μ, Mu.Sub.refl _, ?_⟩
      rw [show decide (l ≤ v ∧ v ≤ m) = false by simp [h1]] at h
      exact h
  · exact h.elim
/-! ## fractions -/
def lt (p q : Int × Int) : Prop := p.1 * q.2 < q.1 * p.2
def le (p q : Int × Int) : Prop := p.1 * q.2 ≤ q.1 * p.2
instance (p q : Int × Int) : Decidable (lt p q) := inferInstanceAs (Decidable (_ < _))
instance (p q : Int × Int) : Decidable (le p q) := inferInstanceAs (Decidable (_ ≤ _))
def Sz (i : Int) : Prop := -(2 ^ 200) < i ∧ i < 2 ^ 200
def sp_is_less : DSp := fun ds μ Q => match ds with | [.tup [.int a, .int b], .tup [.int c, .int d]] => (Sz a ∧ Sz b ∧ Sz c ∧ Sz d) ∧ Q (.bl (decide (a * d < c * b))) μ | _ => False
theorem len_is_less : ∀ ds μ Q, sp_is_less ds μ Q → ds.length = (["near", "far"] : List Str).length := by
  intro ds μ Q h
  unfold sp_is_less at h
  split at h <;> first | rfl | exact h.elim
def db_is_less : DTS := (dRet (dOp oLt (dOp oTimes (dOp oIx (dVar 0) (dC (.int 0))) (dOp oIx (dVar 1) (dC (.int 1)))) (dOp oTimes (dOp oIx (dVar 1) (dC (.int 0))) (dOp oIx (dVar 0) (dC (.int 1))))))
theorem pf_is_less : ∀ ds μ Q, sp_is_less ds μ Q → db_is_less (retD Q) (startD ["near", "far"] ds) μ := by
  intro ds μ Q h
  unfold sp_is_less at h
  split at h
  · rename_i a b c d
    obtain ⟨⟨ha, hb, hc, hd⟩, h⟩ := h
    show db_is_less (retD Q) [some (.tup [.int a, .int b]), some (.tup [.int c, .int d])] μ
    unfold db_is_less
    walk_at "ev"
    exact ⟨mul_ok ha.1 ha.2 hd.1 hd.2, mul_ok hc.1 hc.2 hb.1 hb.2, μ, Mu.Sub.refl _, h⟩
  · exact h.elim
def sp_law_below : DSp := fun ds μ Q => match ds with | [.tup [.int a, .int b], .tup [.int c, .int d]] => (Sz a ∧ Sz b ∧ Sz c ∧ Sz d) ∧ Q (.bl (decide (a * d < c * b))) μ | _ => False
def sp_is_at_most : DSp := fun ds μ Q => match ds with | [.tup [.int a, .int b], .tup [.int c, .int d]] => (Sz a ∧ Sz b ∧ Sz c ∧ Sz d) ∧ Q (.bl (decide (a * d ≤ c * b))) μ | _ => False
theorem len_is_at_most : ∀ ds μ Q, sp_is_at_most ds μ Q → ds.length = (["near", "far"] : List Str).length := by
  intro ds μ Q h
  unfold sp_is_at_most at h
  split at h <;> first | rfl | exact h.elim
def db_is_at_most : DTS := (dRet (dOp oLe (dOp oTimes (dOp oIx (dVar 0) (dC (.int 0))) (dOp oIx (dVar 1) (dC (.int 1)))) (dOp oTimes (dOp oIx (dVar 1) (dC (.int 0))) (dOp oIx (dVar 0) (dC (.int 1))))))
theorem pf_is_at_most : ∀ ds μ Q, sp_is_at_most ds μ Q → db_is_at_most (retD Q) (startD ["near", "far"] ds) μ := by
  intro ds μ Q h
  unfold sp_is_at_most at h
  split at h
  · rename_i a b c d
    obtain ⟨⟨ha, hb, hc, hd⟩, h⟩ := h
    show db_is_at_most (retD Q) [some (.tup [.int a, .int b]), some (.tup [.int c, .int d])] μ
    unfold db_is_at_most
    walk_at "ev"
    exact ⟨mul_ok ha.1 ha.2 hd.1 hd.2, mul_ok hc.1 hc.2 hb.1 hb.2, μ, Mu.Sub.refl _, h⟩
  · exact h.elim
def sp_floor_of : DSp := fun ds μ Q => match ds with | [.tup [.int a, .int b]] => (0 < b ∧ b < 2 ^ 200) ∧ Q (.int (a / b)) μ | _ => False
theorem ints_all (xs : List D) (h : ∀ x ∈ xs, ∃ i, x = .int i) (μ : Mu) : ∀ x ∈ xs, ∀ (μ' : Mu) (Qy : DK), Qy (.bl true) μ' → sp_is_integer [x] μ' Qy := by
  intro x hx μ' Qy q
  obtain ⟨i, rfl⟩ := h x hx
  exact q
def sp_is_fraction_any : DSp := fun ds μ Q => match ds with | [.tup [.int a, .int b]] => (0 < b ∧ b < 2 ^ 200) ∧ Q (.bl (decide (Int.gcd a b = 1))) μ | _ => False
theorem len_is_fraction_any : ∀ ds μ Q, sp_is_fraction_any ds μ Q → ds.length = (["value"] : List Str).length := by
  intro ds μ Q h
  unfold sp_is_fraction_any at h
  split at h <;> first | rfl | exact h.elim
def db_is_fraction_any : DTS := (dSeq (dIfS (dtOr (dtNot (dTest (dFn sp_is_tuple (daCons (dVar 0) (daCons (dC (.int 2)) daNil))))) (dtOr (dtNot (dTest (dOf sAll (dLc (diSeq (dVar 0)) (gdName 1) dYes (dFn sp_is_integer (daCons (dVar 1) daNil)) [1])))) (dTest (dOp oLt (dOp oIx (dVar 0) (dC (.int 1))) (dC (.int 1)))))) (dRet (dC (.bl false))) dNext) (dRet (dOp oEq (dFn sp_common (daCons (dCall cAbs (daCons (dOp oIx (dVar 0) (dC (.int 0))) daNil)) (daCons (dOp oIx (dVar 0) (dC (.int 1))) daNil))) (dC (.int 1)))))
theorem pf_is_fraction_any : ∀ ds μ Q, sp_is_fraction_any ds μ Q → db_is_fraction_any (retD Q) (startD ["value", "one"] ds) μ := by
  intro ds μ Q h
  unfold sp_is_fraction_any at h
  split at h
  · rename_i a b
    obtain ⟨⟨h0, h1⟩, h⟩ := h
    show db_is_fraction_any (retD Q) [some (.tup [.int a, .int b]), none] μ
    unfold db_is_fraction_any
    refine sq fun U hU => ?_
    walk_at "ev"
    simp -dsimp only [sp_is_tuple]
    walk_at "ev"
    rw [if_neg (by decide)]
    simp -dsimp only [dLc, diSeq]
    walk_at "ev"
    refine lc_map (fun _ => .bl true) held_nil (by show 2 ≤ 100000; decide) (fun x hx μ' Qy hd q => ?_) ?_
    · have : ∃ i, x = .int i := by
        have hx : x ∈ [D.int a, D.int b] := hx
        cases hx with
        | head => exact ⟨_, rfl⟩
        | tail _ hx =>
          cases hx with
          | head => exact ⟨_, rfl⟩
          | tail _ hx => cases hx
      obtain ⟨i, rfl⟩ := this
      exact q
    · refine sAll_map (b := fun _ => true) ?_
      walk_at "ev"
      rw [if_neg (by simp), if_neg (show ¬ b < 1 by omega)]
      refine hU.go ?_
      walk_at "ev"
      refine ⟨⟨by omega, by omega⟩, ?_⟩
      rw [gcd_abs, max_gcd h0]
      refine ⟨μ, Mu.Sub.refl _, ?_⟩
      rw [show decide ((Int.gcd a b : Int) = 1) = decide (Int.gcd a b = 1) from dec_inj (fun n : Nat => (n : Int)) (fun _ _ e => Int.ofNat.inj e) _ 1]
      exact h
  · exact h.elim
def sp_is_above : DSp := fun ds μ Q => match ds with | [.tup [.int a, .int b], .int l] => (0 < b ∧ b < 2 ^ 200 ∧ Int.gcd a b = 1 ∧ Sz l) ∧ Q (.bl (decide (l * b < a))) μ | _ => False
def sp_is_small : DSp := fun ds μ Q => match ds with | [.tup [.int a, .int b]] => (0 < b ∧ b ≤ 999 ∧ Int.gcd a b = 1) ∧ Q (.bl true) μ | _ => False
theorem len_is_small : ∀ ds μ Q, sp_is_small ds μ Q → ds.length = (["value"] : List Str).length := by
  intro ds μ Q h
  unfold sp_is_small at h
  split at h <;> first | rfl | exact h.elim
def db_is_small : DTS := (dRet (dAnd (dFn sp_is_fraction_any (daCons (dVar 0) daNil)) (dOp oLe (dOp oIx (dVar 0) (dC (.int 1))) (dC (.int 999)))))
theorem pf_is_small : ∀ ds μ Q, sp_is_small ds μ Q → db_is_small (retD Q) (startD ["value"] ds) μ := by
  intro ds μ Q h
  unfold sp_is_small at h
  split at h
  · rename_i a b
    obtain ⟨⟨h0, h1, h2⟩, h⟩ := h
    show db_is_small (retD Q) [some (.tup [.int a, .int b])] μ
    unfold db_is_small
    walk_at "ev"
    refine ⟨⟨h0, by omega⟩, ?_⟩
    rw [h2]
    show ite _ _ _
    rw [if_pos (by decide), decide_eq_true h1]
    exact ⟨μ, Mu.Sub.refl _, h⟩
  · exact h.elim
/-! ## rules -/
structure R where
  fs : List (Int × Int)
  top : Int
  bot : Int
def enc (r : R) : D := .tup [.str "rule", .tup (r.fs.map fr), .int r.top, .int r.bot]
def post (r : R) (k : Int) : Int × Int := if k = 0 then (0, 1) else if k ≤ r.fs.length then r.fs.getD (k - 1).toNat (0, 1) else low ((k - 1) * r.bot + r.top) r.bot
/-- what a rule's numbers are -/
structure Gr0 (r : R) : Prop where
  len : r.fs.length ≤ 4
  fsok : ∀ p ∈ r.fs, (0 < p.1 ∧ p.1 ≤ 5000) ∧ 0 < p.2 ∧ p.2 ≤ 999 ∧ Int.gcd p.1 p.2 = 1
  bot : 1 ≤ r.bot ∧ r.bot ≤ 999
  top : 0 ≤ r.top ∧ r.top ≤ r.bot
  cop : Int.gcd r.top r.bot = 1
structure GR (r : R) : Prop extends Gr0 r where
  rise : ∀ k : Int, 0 ≤ k → k ≤ r.fs.length → lt (post r k) (post r (k + 1))
  near : ∀ k : Int, 0 ≤ k → k ≤ r.fs.length → le (k, 1) (post r (k + 1)) ∧ le (post r (k + 1)) (k + 1, 1)
theorem post_0 (r : R) : post r 0 = (0, 1) := rfl
theorem post_in {r : R} {k : Int} (h0 : 0 < k) (h1 : k ≤ r.fs.length) : ∃ p ∈ r.fs, post r k = p ∧ atI r.fs (k - 1) = some p := by
  have hl : (k - 1).toNat < r.fs.length := by omega
  refine ⟨r.fs[(k - 1).toNat], List.getElem_mem hl, ?_, ?_⟩
  · unfold post
    rw [if_neg (by omega), if_pos h1, List.getD_eq_getElem?_getD, List.getElem?_eq_getElem hl]
    rfl
  · have := atI_nat (xs := r.fs) (j := (k - 1).toNat) (List.getElem?_eq_getElem hl)
    rw [show (((k - 1).toNat : Nat) : Int) = k - 1 by omega] at this
    exact this
theorem post_out {r : R} {k : Int} (h1 : (r.fs.length : Int) < k) : post r k = low ((k - 1) * r.bot + r.top) r.bot := by
  unfold post
  rw [if_neg (by omega), if_neg (by omega)]
/-- sizes -/
theorem low_sz {t b : Int} (h0 : 0 < b) : 0 < (low t b).2 ∧ (low t b).2 ≤ b ∧ (low t b).1.natAbs ≤ t.natAbs ∧ (0 ≤ t → 0 ≤ (low t b).1) := by
  have hp := gcd_pos (t := t) h0
  have hd := Int.gcd_dvd_right t b
  have hd1 := Int.gcd_dvd_left t b
  refine ⟨?_, ?_, ?_, ?_⟩
  · show 0 < b / (Int.gcd t b : Int)
    exact Int.ediv_pos_of_pos_of_dvd h0 (by omega) hd
  · exact Int.ediv_le_self _ (by omega)
  · exact Int.natAbs_ediv_le_natAbs _ _
  · intro ht
    exact Int.ediv_nonneg ht (by omega)
theorem mul_le_of {x y a b : Int} (hx : 0 ≤ x) (hy : 0 ≤ y) (h1 : x ≤ a) (h2 : y ≤ b) : x * y ≤ a * b := Int.mul_le_mul h1 h2 hy (by omega)
theorem post_sz {r : R} (g : Gr0 r) {k : Int} (h0 : 0 ≤ k) (h1 : k ≤ 10 ^ 20) : 0 ≤ (post r k).1 ∧ (post r k).1 ≤ 10 ^ 24 ∧ 0 < (post r k).2 ∧ (post r k).2 ≤ 999 := by
  by_cases e : k = 0
  · subst e
    rw [post_0]
    decide
  · by_cases e2 : k ≤ r.fs.length
    · obtain ⟨p, hp, ep, _⟩ := post_in (by omega) e2
      rw [ep]
      have := g.fsok p hp
      omega
    · rw [post_out (by omega)]
      have hb := g.bot
      have ht := g.top
      have hs := low_sz (t := (k - 1) * r.bot + r.top) (b := r.bot) (by omega)
      have hm : (k - 1) * r.bot ≤ 10 ^ 20 * 999 := mul_le_of (by omega) (by omega) (by omega) (by omega)
      have hm0 : 0 ≤ (k - 1) * r.bot := Int.mul_nonneg (by omega) (by omega)
      have hn := hs.2.2.2 (by omega)
      omega
def sp_signpost : DSp := fun ds μ Q => ∃ r k, ds = [enc r, .int k] ∧ (Gr0 r ∧ 0 ≤ k ∧ k ≤ 10 ^ 20) ∧ Q (fr (post r k)) μ
theorem len_signpost : ∀ ds μ Q, sp_signpost ds μ Q → ds.length = (["rule", "many"] : List Str).length := by
  rintro ds μ Q ⟨r, k, rfl, _⟩
  rfl
def db_signpost : DTS := (dSeq (dAsg (dVar 0) (gdTup 4 (gdCons (gdName 2) (gdCons (gdName 3) (gdCons (gdName 4) (gdCons (gdName 5) gdNil)))))) (dSeq (dIfS (dTest (dOp oEq (dVar 1) (dC (.int 0)))) (dRet (dTup (daCons (dC (.int 0)) (daCons (dC (.int 1)) daNil)))) dNext) (dRet (dIf (dTest (dOp oLe (dVar 1) (dCall cLen (daCons (dVar 3) daNil)))) (dOp oIx (dVar 3) (dOp oSub (dVar 1) (dC (.int 1)))) (dFn sp_lowest (daCons (dOp oPlus (dOp oTimes (dOp oSub (dVar 1) (dC (.int 1))) (dVar 5)) (dVar 4)) (daCons (dVar 5) daNil)))))))
theorem pf_signpost : ∀ ds μ Q, sp_signpost ds μ Q → db_signpost (retD Q) (startD ["rule", "many", "word", "firsts", "top", "bottom"] ds) μ := by
  rintro ds μ Q ⟨r, k, rfl, ⟨g, h0, h1⟩, h⟩
  show db_signpost (retD Q) [some (enc r), some (.int k), none, none, none, none] μ
  unfold db_signpost enc
  refine sq fun U hU => ?_
  walk_at "ev"
  refine hU.go ?_
  refine sq fun U hU => ?_
  walk_at "ev"
  by_cases e : k = 0
  · rw [if_pos e]
    subst e
    exact ⟨μ, Mu.Sub.refl _, h⟩
  · rw [if_neg e]
    refine hU.go ?_
    walk_at "ev"
    rw [List.length_map]
    by_cases e2 : k ≤ r.fs.length
    · rw [if_pos e2, atI_map]
      obtain ⟨p, hp, ep, ea⟩ := post_in (by omega) e2
      rw [ea]
      rw [ep] at h
      exact ⟨μ, Mu.Sub.refl _, h⟩
    · rw [if_neg e2]
      have hb := g.bot
      refine ⟨mul_ok (by omega) (by omega) (by omega) (by omega), ⟨by omega, by omega⟩, μ, Mu.Sub.refl _, ?_⟩
      rw [post_out (by omega)] at h
      exact h
/-! ## the order of fractions -/
section
variable {p q r : Int × Int}
theorem le_tr (hp : 0 < p.2) (hq : 0 < q.2) (hr : 0 < r.2) (h1 : le p q) (h2 : le q r) : le p r := by
  have a1 : (p.1 * q.2) * r.2 ≤ (q.1 * p.2) * r.2 := Int.mul_le_mul_of_nonneg_right h1 (by omega)
  have a2 : (q.1 * r.2) * p.2 ≤ (r.1 * q.2) * p.2 := Int.mul_le_mul_of_nonneg_right h2 (by omega)
  refine Int.le_of_mul_le_mul_right (a := q.2) ?_ hq
  calc p.1 * r.2 * q.2 = (p.1 * q.2) * r.2 := by rw [Int.mul_right_comm]
    _ ≤ (q.1 * p.2) * r.2 := a1
    _ = (q.1 * r.2) * p.2 := by rw [Int.mul_right_comm]
    _ ≤ (r.1 * q.2) * p.2 := a2
    _ = r.1 * p.2 * q.2 := by rw [Int.mul_right_comm]
theorem lt_of_lt_le (hp : 0 < p.2) (hq : 0 < q.2) (hr : 0 < r.2) (h1 : lt p q) (h2 : le q r) : lt p r := by
  have a1 : (p.1 * q.2) * r.2 < (q.1 * p.2) * r.2 := Int.mul_lt_mul_of_pos_right h1 hr
  have a2 : (q.1 * r.2) * p.2 ≤ (r.1 * q.2) * p.2 := Int.mul_le_mul_of_nonneg_right h2 (by omega)
  refine Int.lt_of_mul_lt_mul_right (a := q.2) ?_ (by omega)
  calc p.1 * r.2 * q.2 = (p.1 * q.2) * r.2 := by rw [Int.mul_right_comm]
    _ < (q.1 * p.2) * r.2 := a1
    _ = (q.1 * r.2) * p.2 := by rw [Int.mul_right_comm]
    _ ≤ (r.1 * q.2) * p.2 := a2
    _ = r.1 * p.2 * q.2 := by rw [Int.mul_right_comm]
theorem lt_of_le_lt (hp : 0 < p.2) (hq : 0 < q.2) (hr : 0 < r.2) (h1 : le p q) (h2 : lt q r) : lt p r := by
  have a1 : (p.1 * q.2) * r.2 ≤ (q.1 * p.2) * r.2 := Int.mul_le_mul_of_nonneg_right h1 (by omega)
  have a2 : (q.1 * r.2) * p.2 < (r.1 * q.2) * p.2 := Int.mul_lt_mul_of_pos_right h2 hp
  refine Int.lt_of_mul_lt_mul_right (a := q.2) ?_ (by omega)
  calc p.1 * r.2 * q.2 = (p.1 * q.2) * r.2 := by rw [Int.mul_right_comm]
    _ ≤ (q.1 * p.2) * r.2 := a1
    _ = (q.1 * r.2) * p.2 := by rw [Int.mul_right_comm]
    _ < (r.1 * q.2) * p.2 := a2
    _ = r.1 * p.2 * q.2 := by rw [Int.mul_right_comm]
theorem not_lt : ¬ lt p q ↔ le q p := by unfold lt le; omega
theorem lt_le (h : lt p q) : le p q := by
  unfold lt at h
  unfold le
  omega
theorem one_p (n : Int) : (0 : Int) < ((n, (1 : Int)) : Int × Int).2 := Int.zero_lt_one
theorem le_ii {a b : Int} (h : a ≤ b) : le (a, 1) (b, 1) := by
  show a * 1 ≤ b * 1
  omega
theorem lt_ii {a b : Int} (h : a < b) : lt (a, 1) (b, 1) := by
  show a * 1 < b * 1
  omega
end
theorem low_eqv {t b : Int} (h0 : 0 < b) : le (low t b) (t, b) ∧ le (t, b) (low t b) := by
  have e1 : t / (Int.gcd t b : Int) * (Int.gcd t b : Int) = t := Int.ediv_mul_cancel (Int.gcd_dvd_left t b)
  have e2 : b / (Int.gcd t b : Int) * (Int.gcd t b : Int) = b := Int.ediv_mul_cancel (Int.gcd_dvd_right t b)
  have e : t / (Int.gcd t b : Int) * b = t * (b / (Int.gcd t b : Int)) := by
    calc t / (Int.gcd t b : Int) * b = t / (Int.gcd t b : Int) * (b / (Int.gcd t b : Int) * (Int.gcd t b : Int)) := by rw [e2]
      _ = (t / (Int.gcd t b : Int) * (Int.gcd t b : Int)) * (b / (Int.gcd t b : Int)) := by rw [Int.mul_comm (b / _), Int.mul_assoc]
      _ = t * (b / (Int.gcd t b : Int)) := by rw [e1]
  exact ⟨Int.le_of_eq e, Int.le_of_eq e.symm⟩
section
variable {r : R} (g : GR r)
include g
theorem bpos {k : Int} (h0 : 0 ≤ k) : 0 < (post r k).2 := by
  by_cases e : k = 0
  · subst e
    rw [post_0]
    decide
  · by_cases e2 : k ≤ r.fs.length
    · obtain ⟨p, hp, ep, _⟩ := post_in (by omega) e2
      rw [ep]
      exact (g.fsok p hp).2.1
    · rw [post_out (by omega)]
      have hb := g.bot
      exact (low_sz (by omega)).1
theorem rise_all {k : Int} (h0 : 0 ≤ k) : lt (post r k) (post r (k + 1)) := by
  by_cases e : k ≤ r.fs.length
  · exact g.rise k h0 e
  · have hb := g.bot
    have p1 := bpos g h0
    have p2 := bpos g (show 0 ≤ k + 1 by omega)
    rw [post_out (by omega)] at p1 ⊢
    rw [post_out (k := k + 1) (by omega)] at p2 ⊢
    refine lt_of_le_lt p1 (by show 0 < r.bot; omega) p2 (low_eqv (by omega)).1 (lt_of_lt_le (q := ((k + 1 - 1) * r.bot + r.top, r.bot)) (by show 0 < r.bot; omega) (by show 0 < r.bot; omega) p2 ?_ (low_eqv (by omega)).2)
    show ((k - 1) * r.bot + r.top) * r.bot < ((k + 1 - 1) * r.bot + r.top) * r.bot
    refine Int.mul_lt_mul_of_pos_right ?_ (by omega)
    rw [show k + 1 - 1 = (k - 1) + 1 by omega, Int.add_mul]
    omega
theorem near_all {k : Int} (h0 : 0 ≤ k) : le (k, 1) (post r (k + 1)) ∧ le (post r (k + 1)) (k + 1, 1) := by
  by_cases e : k ≤ r.fs.length
  · exact g.near k h0 e
  · have hb := g.bot
    have ht := g.top
    have p2 := bpos g (show 0 ≤ k + 1 by omega)
    rw [post_out (k := k + 1) (by omega)] at p2 ⊢
    have q := low_eqv (t := (k + 1 - 1) * r.bot + r.top) (b := r.bot) (by omega)
    have e1 : k + 1 - 1 = k := by omega
    rw [e1] at q p2 ⊢
    constructor
    · refine le_tr (one_p k) (q := (k * r.bot + r.top, r.bot)) (by show 0 < r.bot; omega) p2 ?_ q.2
      show k * r.bot ≤ (k * r.bot + r.top) * 1
      omega
    · refine le_tr p2 (q := (k * r.bot + r.top, r.bot)) (by show 0 < r.bot; omega) (one_p (k + 1)) q.1 ?_
      show (k * r.bot + r.top) * 1 ≤ (k + 1) * r.bot
      rw [Int.add_mul k 1 r.bot]
      omega
/-- the k-th signpost is at most k -/
theorem at_most {k : Int} (h0 : 0 ≤ k) : le (post r k) (k, 1) := by
  by_cases e : k = 0
  · subst e
    exact Int.le_refl _
  · have := (near_all g (k := k - 1) (by omega)).2
    rw [show k - 1 + 1 = k by omega] at this
    exact this
theorem at_least {k : Int} (h0 : 1 ≤ k) : le (k - 1, 1) (post r k) := by
  have := (near_all g (k := k - 1) (by omega)).1
  rw [show k - 1 + 1 = k by omega] at this
  exact this
end
/-! ## what a fraction is rounded to -/
def fl (x : Int × Int) : Int := x.1 / x.2
def Mr (r : R) (x : Int × Int) : Int := if le (post r (fl x + 1)) x then fl x + 1 else fl x
def Lr (r : R) (x : Int × Int) : Int := if 0 < fl x ∧ le x (post r (fl x)) then fl x - 1 else if lt (post r (fl x + 1)) x then fl x + 1 else fl x
section
variable {r : R} (g : GR r) {x : Int × Int} (hx : 0 < x.2) (h0 : 0 ≤ x.1)
include g hx h0
omit g in
theorem fl_le : le (fl x, 1) x ∧ lt x (fl x + 1, 1) ∧ 0 ≤ fl x := by
  refine ⟨?_, ?_, Int.ediv_nonneg h0 (by omega)⟩
  · show fl x * x.2 ≤ x.1 * 1
    have := Int.ediv_mul_le x.1 (show x.2 ≠ 0 by omega)
    unfold fl
    omega
  · show x.1 * 1 < (fl x + 1) * x.2
    have := Int.lt_ediv_add_one_mul_self x.1 hx
    unfold fl
    omega
theorem char_M {k : Int} (hk : 0 ≤ k) : le (post r k) x ↔ k ≤ Mr r x := by
  obtain ⟨f1, f2, f3⟩ := fl_le hx h0
  have one : ∀ n : Int, (0 : Int) < ((n, (1 : Int)) : Int × Int).2 := fun _ => Int.zero_lt_one
  by_cases h1 : k ≤ fl x
  · have a : le (post r k) x := le_tr (bpos g hk) (one k) hx (at_most g hk) (le_tr (one k) (one (fl x)) hx (le_ii h1) f1)
    have b : k ≤ Mr r x := by unfold Mr; split <;> omega
    exact ⟨fun _ => b, fun _ => a⟩
  · by_cases h2 : k = fl x + 1
    · subst h2
      unfold Mr
      split
      · rename_i h
        exact ⟨fun _ => by omega, fun _ => h⟩
      · rename_i h
        exact ⟨fun z => absurd z h, fun z => by omega⟩
    · have a : lt x (post r k) := lt_of_lt_le hx (one (fl x + 1)) (bpos g hk) f2 (le_tr (one _) (one (k - 1)) (bpos g hk) (le_ii (by omega)) (at_least g (by omega)))
      have b : ¬ k ≤ Mr r x := by unfold Mr; split <;> omega
      refine ⟨fun z => ?_, fun z => absurd z b⟩
      unfold le at z
      unfold lt at a
      omega
theorem char_L {k : Int} (hk : 0 ≤ k) : le x (post r (k + 1)) ↔ Lr r x ≤ k := by
  obtain ⟨f1, f2, f3⟩ := fl_le hx h0
  have one : ∀ n : Int, (0 : Int) < ((n, (1 : Int)) : Int × Int).2 := fun _ => Int.zero_lt_one
  have hub : Lr r x ≤ fl x + 1 := by unfold Lr; split <;> (try split) <;> omega
  have hlb : fl x - 1 ≤ Lr r x := by unfold Lr; split <;> (try split) <;> omega
  by_cases h1 : fl x + 1 ≤ k
  · have a : le x (post r (k + 1)) := le_tr hx (one (fl x + 1)) (bpos g (by omega)) (lt_le f2) (le_tr (one _) (one k) (bpos g (by omega)) (le_ii h1) (near_all g hk).1)
    exact ⟨fun _ => by omega, fun _ => a⟩
  · by_cases h2 : k = fl x
    · subst h2
      by_cases hb : 0 < fl x ∧ le x (post r (fl x))
      · have a : le x (post r (fl x + 1)) := le_tr hx (bpos g f3) (bpos g (by omega)) hb.2 (lt_le (rise_all g f3))
        have b : Lr r x = fl x - 1 := by unfold Lr; rw [if_pos hb]
        exact ⟨fun _ => by omega, fun _ => a⟩
      · by_cases hc : lt (post r (fl x + 1)) x
        · have b : Lr r x = fl x + 1 := by unfold Lr; rw [if_neg hb, if_pos hc]
          refine ⟨fun z => ?_, fun z => by omega⟩
          unfold le at z
          unfold lt at hc
          omega
        · have b : Lr r x = fl x := by unfold Lr; rw [if_neg hb, if_neg hc]
          exact ⟨fun _ => by omega, fun _ => not_lt.mp hc⟩
    · by_cases h3 : k = fl x - 1
      · have e : k + 1 = fl x := by omega
        rw [e]
        by_cases hb : 0 < fl x ∧ le x (post r (fl x))
        · have b : Lr r x = fl x - 1 := by unfold Lr; rw [if_pos hb]
          exact ⟨fun _ => by omega, fun _ => hb.2⟩
        · have b : fl x ≤ Lr r x := by unfold Lr; rw [if_neg hb]; split <;> omega
          exact ⟨fun z => absurd ⟨by omega, z⟩ hb, fun z => by omega⟩
      · have a : lt (post r (k + 1)) x := lt_of_le_lt (bpos g (by omega)) (one (k + 1)) hx (at_most g (by omega)) (lt_of_lt_le (one _) (one (fl x)) hx (lt_ii (by omega)) f1)
        refine ⟨fun z => ?_, fun z => by omega⟩
        unfold le at z
        unfold lt at a
        omega
theorem LM : 0 ≤ Lr r x ∧ Lr r x ≤ Mr r x ∧ Mr r x ≤ Lr r x + 1 ∧ fl x - 1 ≤ Lr r x ∧ Mr r x ≤ fl x + 1 := by
  obtain ⟨f1, f2, f3⟩ := fl_le hx h0
  have h1 : fl x - 1 ≤ Lr r x := by unfold Lr; split <;> (try split) <;> omega
  have h2 : Mr r x ≤ fl x + 1 := by unfold Mr; split <;> omega
  have h3 : 0 ≤ Lr r x := by unfold Lr; split <;> (try split) <;> omega
  have h4 : fl x ≤ Mr r x := by unfold Mr; split <;> omega
  refine ⟨h3, ?_, ?_, h1, h2⟩
  · have hM : 0 ≤ Mr r x := by omega
    have a := (char_M g hx h0 hM).mpr (Int.le_refl _)
    rcases Int.lt_or_le (Mr r x) (Lr r x) with h | h
    · have b : ¬ le x (post r (Mr r x + 1)) := fun z => by
        have := (char_L g hx h0 hM).mp z
        omega
      have c : le (post r (Mr r x + 1)) x := by
        unfold le at b ⊢
        omega
      have := (char_M g hx h0 (by omega)).mp c
      omega
    · exact h
  · have a := (char_L g hx h0 h3).mpr (Int.le_refl _)
    rcases Int.lt_or_le (Lr r x + 1) (Mr r x) with h | h
    · have b := (char_M g hx h0 (k := Lr r x + 2) (by omega)).mpr (by omega)
      have c := rise_all g (k := Lr r x + 1) (by omega)
      rw [show Lr r x + 1 + 1 = Lr r x + 2 by omega] at c
      have d := lt_of_le_lt hx (bpos g (by omega)) (bpos g (by omega)) a c
      unfold le at b
      unfold lt at d
      omega
    · exact h
end
theorem mono_LM {r : R} (g : GR r) {x y : Int × Int} (hx : 0 < x.2) (hx0 : 0 ≤ x.1) (hy : 0 < y.2) (hy0 : 0 ≤ y.1) (h : lt x y) : Lr r x ≤ Lr r y ∧ Mr r x ≤ Mr r y := by
  have m1 := LM g hx hx0
  have m2 := LM g hy hy0
  constructor
  · refine (char_L g hx hx0 m2.1).mp ?_
    exact le_tr hx hy (bpos g (by omega)) (lt_le h) ((char_L g hy hy0 m2.1).mpr (Int.le_refl _))
  · refine (char_M g hy hy0 (by omega)).mp ?_
    exact le_tr (bpos g (by omega)) hx hy ((char_M g hx hx0 (by omega)).mpr (Int.le_refl _)) (lt_le h)
end K40
namespace K40
open PySem PySem.Spec PyProof.Rows L2 Dl
local macro_rules | `(tactic| walk_at "ev") => `(tactic| try simp -dsimp only [↓dSeq_at, cInt2, oIs2, oNot2, sp_is_tuple, sp_is_within, sp_is_integer, sp_common, sp_is_less, sp_is_at_most, sp_is_small, sp_floor_of, sp_law_below, dRet, dRetN, dNext, dIfS, dAsg, dDrop, dPar, dNever, dVar, dC, dOp, dUn, dTest, dChain, dAnd, dOr, dNot, dIf, dtAnd, dtOr, dtNot, dTup, daNil, daCons, dCall, dFn, dFnK, dNew, dLst, dOf,
  gdName, gdTup, gdCons, gdNil, gdSub, rdI, rdI0, oPlus, oSub, oTimes, oDiv, oMod, oPow, oLt, oLe, oGt, oGe, oIx, oEq, oNe, uNeg, oIsN, oNotN, D.isNon, cAbs, cMax, cMin, cInt, cDivmod, cLen, cIsi, tyD, items, litems, retD, sTup, mApp, dYes,
  atI_0, atI_1, atI_2, atI_3, atI_4, ixN_20, ixN_21, kit_ii, kit_ib, kit_is, kit_it, kit_il, kit_bi, kit_bb, kit_bs, kit_bt, kit_bl, kit_si, kit_sb, kit_ss, kit_st, kit_sl, kit_ti, kit_tb, kit_ts, kit_tt, kit_tl, kit_li, kit_lb, kit_ls, kit_lt, kit_ll,
  List.getElem?_cons_zero, List.getElem?_cons_succ, List.set_cons_zero, List.set_cons_succ, List.length_cons, List.length_nil, Mu.upd_same, Mu.upd_upd, Nat.zero_add, Nat.reduceAdd, Nat.reduceLeDiff, natlit, Int.reduceEq, Int.reduceLT, Int.reduceLE, Int.reduceAdd, Int.reduceSub, Int.reduceMul, Int.reducePow, Int.reduceNeg, permG2_10, permG3_210, zl_0, zl_1, zl_2, zl_3, zl_4, zl_5, zl_6, zl_7, zl_8, zl_9, zl_10, zl_11, zl_12, zl_13, zl_14, zl_15, zl_16, zl_17, zl_18, zl_19, zl_20, true_and, and_true, eq_self, not_true_eq_false, not_false_eq_true, decide_true, decide_false, if_true, Bool.false_eq_true, if_false, Bool.not_true, Bool.not_false, decide_eq_true_eq, Bool.not_eq_true', decide_eq_false_iff_not, Option.isSome, Option.map])
theorem fr_sz {r : R} (g : Gr0 r) {k : Int} (h0 : 0 ≤ k) (h1 : k ≤ 10 ^ 20) : Sz (post r k).1 ∧ Sz (post r k).2 := by
  have := post_sz g h0 h1
  unfold Sz
  omega
theorem sz_of {i : Int} (h0 : -(10 ^ 40) ≤ i) (h1 : i ≤ 10 ^ 40) : Sz i := by
  unfold Sz
  omega
/-! ## a rule is a rule -/
/-- posts 0 to len + 1 -/
def postD (r : R) : D → D := fun d => match d with | .int i => fr (post r i) | d => d
def posts (r : R) (n : Int) : List D := (rangeD 0 n).map (postD r)
theorem posts_get {r : R} {n : Int} {i : Nat} {d : D} (h : (posts r n)[i]? = some d) : (i : Int) < n ∧ d = fr (post r i) := by
  unfold posts at h
  rw [List.getElem?_map] at h
  have hl : i < (rangeD 0 n).length := by
    rcases Nat.lt_or_ge i (rangeD 0 n).length with q | q
    · exact q
    · rw [List.getElem?_eq_none q] at h
      cases h
  rw [rangeD_len] at hl
  unfold rangeD at h
  rw [List.getElem?_map, List.getElem?_range hl] at h
  cases h
  refine ⟨by omega, ?_⟩
  show fr (post r (0 + (i : Int))) = _
  rw [Int.zero_add]
theorem posts_len (r : R) (n : Int) : (posts r n).length = n.toNat := by
  unfold posts
  rw [List.length_map, rangeD_len, Int.sub_zero]
theorem cut_1 (xs : List D) : Dl.cutD xs (some 1) none = xs.drop 1 := by
  unfold Dl.cutD
  rw [show HT.sIx xs.length 0 (some 1) = min 1 xs.length from HT.sIx_nat xs.length 0 1, HT.sIx_none]
  cases xs with
  | nil => rfl
  | cons x r =>
    rw [show min 1 (x :: r).length = 1 by rw [List.length_cons]; omega]
    rw [List.take_of_length_le]
    rw [List.length_drop]
    omega
def sp_is_rule_any : DSp := fun ds μ Q => ∃ r, ds = [enc r] ∧ GR r ∧ Q (.bl true) μ
theorem len_is_rule_any : ∀ ds μ Q, sp_is_rule_any ds μ Q → ds.length = (["value"] : List Str).length := by
  rintro ds μ Q ⟨r, rfl, _⟩
  rfl
def db_is_rule_any : DTS := (dSeq (dIfS (dtOr (dtNot (dTest (dFn sp_is_tuple (daCons (dVar 0) (daCons (dC (.int 4)) daNil))))) (dtOr (dtNot (dTest (dCall cIsi (daCons (dOp oIx (dVar 0) (dC (.int 0))) (daCons (dC (.ty "str")) daNil))))) (dTest (dOp oNe (dOp oIx (dVar 0) (dC (.int 0))) (dC (.str "rule")))))) (dRet (dC (.bl false))) dNext) (dSeq (dAsg (dVar 0) (gdTup 4 (gdCons (gdName 1) (gdCons (gdName 2) (gdCons (gdName 3) (gdCons (gdName 4) gdNil)))))) (dSeq (dIfS (dtOr (dtNot (dTest (dCall cIsi (daCons (dVar 2) (daCons (dC (.ty "tuple")) daNil))))) (dtOr (dTest (dOp oGt (dCall cLen (daCons (dVar 2) daNil)) (dC (.int 4)))) (dtNot (dTest (dOf sAll (dLc (diSeq (dVar 2)) (gdName 5) dYes (dFn sp_is_small (daCons (dVar 5) daNil)) [5])))))) (dRet (dC (.bl false))) dNext) (dSeq (dIfS (dtOr (dtNot (dTest (dFn sp_is_within (daCons (dVar 4) (daCons (dC (.int 1)) (daCons (dC (.int 999)) daNil)))))) (dtOr (dtNot (dTest (dFn sp_is_within (daCons (dVar 3) (daCons (dC (.int 0)) (daCons (dVar 4) daNil)))))) (dTest (dOp oNe (dFn sp_common (daCons (dVar 3) (daCons (dVar 4) daNil))) (dC (.int 1)))))) (dRet (dC (.bl false))) dNext) (dSeq (dAsg (dNew (dLc (diR1 (daCons (dOp oPlus (dCall cLen (daCons (dVar 2) daNil)) (dC (.int 2))) daNil)) (gdName 7) dYes (dFn sp_signpost (daCons (dVar 0) (daCons (dVar 7) daNil))) [7])) (gdName 6)) (dSeq (dIfS (dtNot (dTest (dOf sAll (dLc (diZ2 (dVar 6) (dSl (dVar 6) (doSome (dC (.int 1))) doNone)) (gdTup 2 (gdCons (gdName 8) (gdCons (gdName 9) gdNil))) dYes (dFn sp_is_less (daCons (dVar 8) (daCons (dVar 9) daNil))) [8, 9])))) (dRet (dC (.bl false))) dNext) (dRet (dOf sAll (dLc (diEnum2 (dSl (dVar 6) (doSome (dC (.int 1))) doNone)) (gdTup 2 (gdCons (gdName 7) (gdCons (gdName 10) gdNil))) dYes (dAnd (dFn sp_is_at_most (daCons (dTup (daCons (dVar 7) (daCons (dC (.int 1)) daNil))) (daCons (dVar 10) daNil))) (dFn sp_is_at_most (daCons (dVar 10) (daCons (dTup (daCons (dOp oPlus (dVar 7) (dC (.int 1))) (daCons (dC (.int 1)) daNil))) daNil)))) [7, 10])))))))))
theorem pf_is_rule_any : ∀ ds μ Q, sp_is_rule_any ds μ Q → db_is_rule_any (retD Q) (startD ["value", "word", "firsts", "top", "bottom", "one", "posts", "many", "near", "far", "post"] ds) μ := by
  rintro ds μ Q ⟨r, rfl, g, h⟩
  show db_is_rule_any (retD Q) [some (enc r), none, none, none, none, none, none, none, none, none, none] μ
  have hl := g.len
  have hb := g.bot
  have ht := g.top
  unfold db_is_rule_any
  refine sq fun U hU => ?_
  unfold enc
  walk_at "ev"
  refine hU.go ?_
  refine sq fun U hU => ?_
  walk_at "ev"
  refine hU.go ?_
  refine sq fun U hU => ?_
  walk_at "ev"
  rw [List.length_map, if_neg (by omega)]
  simp -dsimp only [dLc, diSeq]
  walk_at "ev"
  refine lc_map (fun _ => .bl true) held_nil (by show (r.fs.map fr).length ≤ _; rw [List.length_map]; omega) (fun x hx μ' Qy hd q => ?_) ?_
  · obtain ⟨p, hp, rfl⟩ := List.mem_map.mp hx
    have := g.fsok p hp
    simp -dsimp only [wipeD, fr]
    walk_at "ev"
    exact ⟨⟨by omega, by omega, this.2.2.2⟩, q⟩
  refine sAll_map (b := fun _ => true) ?_
  walk_at "ev"
  rw [if_neg (by simp)]
  refine hU.go ?_
  refine sq fun U hU => ?_
  walk_at "ev"
  rw [if_neg (by omega), if_neg (by omega)]
  refine ⟨⟨by omega, by omega⟩, ?_⟩
  rw [g.cop, if_neg (by decide)]
  refine hU.go ?_
  refine sq fun U hU => ?_
  walk_at "ev"
  simp -dsimp only [dLc, diR1]
  walk_at "ev"
  rw [List.length_map]
  refine ⟨⟨by omega, by omega⟩, ?_⟩
  refine lc_map (postD r) held_nil (by show (rangeD _ _).length ≤ _; rw [rangeD_len]; omega) (fun x hx μ' Qy hd q => ?_) ?_
  · obtain ⟨i, hi, rfl⟩ := List.mem_map.mp hx
    have hi := List.mem_range.mp hi
    simp -dsimp only [wipeD]
    walk_at "ev"
    exact ⟨r, _, rfl, ⟨g.toGr0, by omega, by omega⟩, q⟩
  intro k hk
  refine hU.go ?_
  refine sq fun U hU => ?_
  walk_at "ev"
  simp -dsimp only [dLc, diZ2, dSl, doSome, doNone, lsrc]
  walk_at "ev"
  intro n hn
  have hkn : k ≠ n := Mu.ne_of Mu.upd_same hn
  simp -dsimp only [src2, lsrc]
  rw [Mu.upd_ne hkn, Mu.upd_same, Mu.upd_same]
  walk_at "ev"
  have hk2 : Src.held ⟨zipD (posts r (r.fs.length + 2)) (Dl.cutD (posts r (r.fs.length + 2)) (some 1) none), [(k, posts r (r.fs.length + 2)), (n, Dl.cutD (posts r (r.fs.length + 2)) (some 1) none)]⟩ ((μ.upd k (posts r (r.fs.length + 2))).upd n (Dl.cutD (posts r (r.fs.length + 2)) (some 1) none)) := by
    intro p hp
    cases hp with
    | head => exact (Mu.upd_ne hkn).trans Mu.upd_same
    | tail _ hp =>
      cases hp with
      | head => exact Mu.upd_same
      | tail _ hp => cases hp
  refine lc_map (fun _ => .bl true) hk2 ?_ (fun x hx μ' Qy hd q => ?_) ?_
  · show (zipD (posts r (r.fs.length + 2)) (Dl.cutD (posts r (r.fs.length + 2)) (some 1) none)).length ≤ _
    unfold zipD
    rw [List.length_zipWith, posts_len]
    omega
  · obtain ⟨i, hi⟩ := List.mem_iff_getElem?.mp hx
    obtain ⟨y, z, hy, hz, rfl⟩ := zipD_get hi
    have hz : (Dl.cutD (posts r (r.fs.length + 2)) (some 1) none)[i]? = some z := hz
    rw [cut_1, List.getElem?_drop] at hz
    obtain ⟨l1, rfl⟩ := posts_get hy
    obtain ⟨l2, rfl⟩ := posts_get hz
    simp -dsimp only [wipeD, fr]
    walk_at "ev"
    have s1 := fr_sz g.toGr0 (k := (i : Int)) (by omega) (by omega)
    have s2 := fr_sz g.toGr0 (k := ((1 + i : Nat) : Int)) (by omega) (by omega)
    refine ⟨⟨s1.1, s1.2, s2.1, s2.2⟩, ?_⟩
    have hr := g.rise (i : Int) (by omega) (by omega)
    simp only [lt] at hr
    have e : ((1 + i : Nat) : Int) = (i : Int) + 1 := by omega
    rw [e, decide_eq_true hr]
    exact q
  refine sAll_map (b := fun _ => true) ?_
  walk_at "ev"
  rw [if_neg (by simp)]
  refine hU.go ?_
  walk_at "ev"
  simp -dsimp only [dLc, diEnum2, dSl, doSome, doNone, lsrc]
  walk_at "ev"
  rw [Mu.upd_ne hkn, Mu.upd_same]
  intro m hm
  refine lc_map (fun _ => .bl true) (held_one Mu.upd_same) ?_ (fun x hx μ' Qy hd q => ?_) ?_
  · show (enumD (Dl.cutD (posts r (r.fs.length + 2)) (some 1) none)).length ≤ _
    rw [enumD_len, cut_1, List.length_drop, posts_len]
    omega
  · obtain ⟨i, hi⟩ := List.mem_iff_getElem?.mp hx
    obtain ⟨y, hy, rfl⟩ := enumD_get hi
    have hy : (Dl.cutD (posts r (r.fs.length + 2)) (some 1) none)[i]? = some y := hy
    rw [cut_1, List.getElem?_drop] at hy
    obtain ⟨l2, rfl⟩ := posts_get hy
    simp -dsimp only [wipeD, fr]
    walk_at "ev"
    have s2 := fr_sz g.toGr0 (k := ((1 + i : Nat) : Int)) (by omega) (by omega)
    have hr := g.near (i : Int) (by omega) (by omega)
    simp only [le] at hr
    have e : ((1 + i : Nat) : Int) = (i : Int) + 1 := by omega
    rw [e] at s2 ⊢
    refine ⟨⟨sz_of (by omega) (by omega), sz_of (by omega) (by omega), s2.1, s2.2⟩, ?_⟩
    rw [if_pos hr.1]
    refine ⟨⟨s2.1, s2.2, sz_of (by omega) (by omega), sz_of (by omega) (by omega)⟩, ?_⟩
    rw [decide_eq_true hr.2]
    exact q
  refine sAll_map (b := fun _ => true) ?_
  refine ⟨μ, (Mu.sub_upd hk).trans ((Mu.sub_upd hn).trans (Mu.sub_upd hm)), ?_⟩
  rw [List.all_eq_true.mpr fun _ _ => rfl]
  exact h
/-! ## what is passed -/
structure GF (x : Int × Int) : Prop where
  p1 : 0 < x.1 ∧ x.1 ≤ 10 ^ 15
  p2 : 0 < x.2 ∧ x.2 ≤ 10 ^ 15
  cop : Int.gcd x.1 x.2 = 1
theorem GF.fl {x : Int × Int} (h : GF x) : 0 ≤ fl x ∧ fl x ≤ 10 ^ 15 := by
  have := h.p1
  have := h.p2
  refine ⟨Int.ediv_nonneg (by omega) (by omega), ?_⟩
  have : x.1 / x.2 ≤ x.1 := Int.ediv_le_self _ (by omega)
  unfold K40.fl
  omega
def sp_want_rule : DSp := fun ds μ Q => ∃ r, ds = [enc r] ∧ GR r ∧ Q .non μ
def sp_want_fraction : DSp := fun ds μ Q => ∃ x, ds = [fr x] ∧ GF x ∧ Q .non μ
def sp_want_seats : DSp := fun ds μ Q => match ds with | [.int m, .int l] => (l ≤ m ∧ m ≤ 200) ∧ Q .non μ | _ => False
/-! ## what a fraction is rounded to, by the program -/
theorem le_dec (p q : Int × Int) : decide (p.1 * q.2 ≤ q.1 * p.2) = decide (le p q) := rfl
theorem lt_dec (p q : Int × Int) : decide (p.1 * q.2 < q.1 * p.2) = decide (lt p q) := rfl
section
variable {r : R} {x : Int × Int}
theorem ask_at_most {k : Int} (g : GR r) (gx : GF x) (h0 : 0 ≤ k) (h1 : k ≤ 10 ^ 20) {μ : Mu} {Q : DK} (h : Q (.bl (decide (le (post r k) x))) μ) : sp_is_at_most [fr (post r k), fr x] μ Q := by
  have s := fr_sz g.toGr0 h0 h1
  have h1 := gx.p1
  have h2 := gx.p2
  exact ⟨⟨s.1, s.2, sz_of (by omega) (by omega), sz_of (by omega) (by omega)⟩, h⟩
theorem ask_at_most' {k : Int} (g : GR r) (gx : GF x) (h0 : 0 ≤ k) (h1 : k ≤ 10 ^ 20) {μ : Mu} {Q : DK} (h : Q (.bl (decide (le x (post r k)))) μ) : sp_is_at_most [fr x, fr (post r k)] μ Q := by
  have s := fr_sz g.toGr0 h0 h1
  have h1 := gx.p1
  have h2 := gx.p2
  exact ⟨⟨sz_of (by omega) (by omega), sz_of (by omega) (by omega), s.1, s.2⟩, h⟩
theorem ask_less {k : Int} (g : GR r) (gx : GF x) (h0 : 0 ≤ k) (h1 : k ≤ 10 ^ 20) {μ : Mu} {Q : DK} (h : Q (.bl (decide (lt (post r k) x))) μ) : sp_is_less [fr (post r k), fr x] μ Q := by
  have s := fr_sz g.toGr0 h0 h1
  have h1 := gx.p1
  have h2 := gx.p2
  exact ⟨⟨s.1, s.2, sz_of (by omega) (by omega), sz_of (by omega) (by omega)⟩, h⟩
theorem ask_post {k : Int} (g : GR r) (h0 : 0 ≤ k) (h1 : k ≤ 10 ^ 20) {μ : Mu} {Q : DK} (h : Q (fr (post r k)) μ) : sp_signpost [enc r, .int k] μ Q := ⟨r, k, rfl, ⟨g.toGr0, h0, h1⟩, h⟩
theorem ask_floor (gx : GF x) {μ : Mu} {Q : DK} (h : Q (.int (fl x)) μ) : sp_floor_of [fr x] μ Q := by
  have h2 := gx.p2
  exact ⟨⟨by omega, by omega⟩, h⟩
end
end K40
namespace K40
open PySem PySem.Spec PyProof.Rows L2 Dl
local macro_rules | `(tactic| walk_at "ev") => `(tactic| try simp -dsimp only [↓dSeq_at, cInt2, oIs2, oNot2, dRet, dRetN, dNext, dIfS, dAsg, dDrop, dPar, dNever, dVar, dC, dOp, dUn, dTest, dChain, dAnd, dOr, dNot, dIf, dtAnd, dtOr, dtNot, dTup, daNil, daCons, dCall, dFn, dFnK, dNew, dLst, dOf,
  gdName, gdTup, gdCons, gdNil, gdSub, rdI, rdI0, oPlus, oSub, oTimes, oDiv, oMod, oPow, oLt, oLe, oGt, oGe, oIx, oEq, oNe, uNeg, oIsN, oNotN, D.isNon, cAbs, cMax, cMin, cInt, cDivmod, cLen, cIsi, tyD, items, litems, retD, sTup, mApp, dYes,
  atI_0, atI_1, atI_2, atI_3, atI_4, ixN_20, ixN_21, kit_ii, kit_ib, kit_is, kit_it, kit_il, kit_bi, kit_bb, kit_bs, kit_bt, kit_bl, kit_si, kit_sb, kit_ss, kit_st, kit_sl, kit_ti, kit_tb, kit_ts, kit_tt, kit_tl, kit_li, kit_lb, kit_ls, kit_lt, kit_ll,
  List.getElem?_cons_zero, List.getElem?_cons_succ, List.set_cons_zero, List.set_cons_succ, List.length_cons, List.length_nil, Mu.upd_same, Mu.upd_upd, Nat.zero_add, Nat.reduceAdd, Nat.reduceLeDiff, natlit, Int.reduceEq, Int.reduceLT, Int.reduceLE, Int.reduceAdd, Int.reduceSub, Int.reduceMul, Int.reducePow, Int.reduceNeg, permG2_10, permG3_210, zl_0, zl_1, zl_2, zl_3, zl_4, zl_5, zl_6, zl_7, zl_8, zl_9, zl_10, zl_11, zl_12, zl_13, zl_14, zl_15, zl_16, zl_17, zl_18, zl_19, zl_20, true_and, and_true, eq_self, not_true_eq_false, not_false_eq_true, decide_true, decide_false, if_true, Bool.false_eq_true, if_false, Bool.not_true, Bool.not_false, decide_eq_true_eq, Bool.not_eq_true', decide_eq_false_iff_not, Option.isSome, Option.map])
/-! ## the pot -/
def PB (a b : Int) : Prop := 0 ≤ a ∧ 0 ≤ b ∧ b ≤ 2147483587
def Pot (μ : Mu) (c : Nat) : Prop := ∃ a b : Int, μ c = some [.int a, .int b] ∧ PB a b
/-- the pot is turned -/
def Turn (c : Nat) (μ : Mu) (Q : Mu → Prop) : Prop := ∀ a b, PB a b → Q (μ.upd c [.int a, .int b])
theorem mulL {i j : Int} (h0 : -(2 ^ 64) < i) (h1 : i < 2 ^ 64) : Dl.MulOk i j := .inl ⟨h0, h1⟩
theorem mulR {i j : Int} (h0 : -(2 ^ 64) < j) (h1 : j < 2 ^ 64) : Dl.MulOk i j := .inr (.inl ⟨h0, h1⟩)
def sp_law_pot : DSp := fun ds μ Q => ∃ (ns : List Int) (k : Int), ds = [.frz (ns.map D.int), .int k] ∧ ((0 ≤ k ∧ k ≤ 100) ∧ ns.length ≤ 63) ∧ ∀ c, μ c = none → Turn c μ fun μ' => Q (.cell c) μ'
theorem len_law_pot : ∀ ds μ Q, sp_law_pot ds μ Q → ds.length = (["script", "k"] : List Str).length := by
  rintro ds μ Q ⟨ns, k, rfl, _⟩
  rfl
def db_law_pot : DTS := (dSeq (dAsg (dIf (dTest (dOp oLt (dVar 1) (dCall cLen (daCons (dVar 0) daNil)))) (dCall cAbs (daCons (dOp oIx (dVar 0) (dVar 1)) daNil)) (dOp oPlus (dOp oPlus (dOp oTimes (dC (.int 5399)) (dVar 1)) (dC (.int 61))) (dCall cInt2 (daCons (dOp oMod (dOf sSum (dLc (diSeq (dVar 0)) (gdName 3) dYes (dCall cAbs (daCons (dVar 3) daNil)) [3])) (dC (.int 1000003))) daNil)))) (gdName 2)) (dRet (dNew (dLst (daCons (dCall cMax (daCons (dC (.int 0)) (daCons (dOp oSub (dVar 2) (dOp oPow (dC (.int 10)) (dC (.int 18)))) daNil))) (daCons (dOp oPlus (dOp oMod (dCall cInt2 (daCons (dOp oPlus (dOp oPlus (dOp oTimes (dOp oMod (dCall cInt2 (daCons (dVar 2) daNil)) (dC (.int 2147483549))) (dC (.int 40692))) (dOp oTimes (dC (.int 6427)) (dVar 1))) (dC (.int 1109))) daNil)) (dC (.int 2147483563))) (dC (.int 1))) daNil))))))
theorem pf_law_pot : ∀ ds μ Q, sp_law_pot ds μ Q → db_law_pot (retD Q) (startD ["script", "k", "cell", "one"] ds) μ := by
  rintro ds μ Q ⟨ns, k, rfl, ⟨⟨h0, h1⟩, hn⟩, h⟩
  show db_law_pot (retD Q) [some (.frz (ns.map D.int)), some (.int k), none, none] μ
  unfold db_law_pot
  refine sq fun U hU => ?_
  walk_at "ev"
  have rest : ∀ (cell : Int) (w : Option D) (μ' : Mu), Mu.Sub μ μ' → U [some (.frz (ns.map D.int)), some (.int k), some (.int cell), w] μ' := by
    intro cell w μ' sb
    refine hU.fgt sb ?_
    walk_at "ev"
    have m0 := Int.emod_nonneg cell (show (2147483549 : Int) ≠ 0 by decide)
    have m1 := Int.emod_lt_of_pos cell (show (0 : Int) < 2147483549 by decide)
    refine ⟨⟨by decide, by decide, by decide⟩, mulR (by decide) (by decide), mulL (by decide) (by decide), ?_⟩
    intro c hc
    refine ⟨_, Mu.Sub.refl _, h c hc _ _ ⟨by omega, ?_, ?_⟩⟩
    · have := Int.emod_nonneg (cell % 2147483549 * 40692 + 6427 * k + 1109) (show (2147483563 : Int) ≠ 0 by decide)
      omega
    · have := Int.emod_lt_of_pos (cell % 2147483549 * 40692 + 6427 * k + 1109) (show (0 : Int) < 2147483563 by decide)
      omega
  rw [List.length_map]
  by_cases e : k < ns.length
  · rw [if_pos e]
    have hl : k.toNat < ns.length := by omega
    have ha := atI_nat (xs := ns) (j := k.toNat) (List.getElem?_eq_getElem hl)
    rw [show ((k.toNat : Nat) : Int) = k by omega] at ha
    rw [atI_map, ha]
    exact rest _ _ _ (Mu.Sub.refl _)
  · rw [if_neg e]
    refine ⟨mulL (by decide) (by decide), ?_⟩
    simp -dsimp only [dLc, diSeq]
    walk_at "ev"
    refine lc_tm (e := D.int) (fun n => .int (n.natAbs : Int)) held_nil (by omega) (fun v hv' μ' Qy hd' q2 => ?_) ?_
    · walk_at "ev"
      exact q2
    · refine ⟨ns.map fun n => (n.natAbs : Int), ?_, ?_⟩
      · rw [List.map_map]
        rfl
      · walk_at "ev"
        exact rest _ _ _ (Mu.Sub.refl _)
def sp_law_draw : DSp := fun ds μ Q => match ds with | [.cell c, .int m] => (Pot μ c ∧ 0 < m ∧ m < 2 ^ 30) ∧ ∀ r, 0 ≤ r → r < m → Turn c μ fun μ' => Q (.int r) μ' | _ => False
theorem len_law_draw : ∀ ds μ Q, sp_law_draw ds μ Q → ds.length = (["pot", "many"] : List Str).length := by
  intro ds μ Q h
  unfold sp_law_draw at h
  split at h <;> first | rfl | exact h.elim
def db_law_draw : DTS := (dSeq (dIfS (dTest (dOp oGt (dOp oIx (dVar 0) (dC (.int 0))) (dC (.int 0)))) (dSeq (dAsg (dCall cDivmod (daCons (dOp oIx (dVar 0) (dC (.int 0))) (daCons (dVar 1) daNil))) (gdTup 2 (gdCons (gdSub (dVar 0) (dC (.int 0))) (gdCons (gdName 2) gdNil)))) (dRet (dVar 2))) dNext) (dSeq (dAsg (dOp oMod (dCall cInt2 (daCons (dOp oPlus (dOp oTimes (dOp oIx (dVar 0) (dC (.int 1))) (dC (.int 39373))) (dC (.int 6449))) daNil)) (dC (.int 2147483587))) (gdSub (dVar 0) (dC (.int 1)))) (dRet (dOp oMod (dCall cInt2 (daCons (dOp oDiv (dOp oMod (dCall cInt2 (daCons (dOp oTimes (dOp oIx (dVar 0) (dC (.int 1))) (dOp oIx (dVar 0) (dC (.int 1)))) daNil)) (dC (.int 2147483549))) (dC (.int 29))) daNil)) (dVar 1)))))
theorem pf_law_draw : ∀ ds μ Q, sp_law_draw ds μ Q → db_law_draw (retD Q) (startD ["pot", "many", "digit"] ds) μ := by
  intro ds μ Q h
  unfold sp_law_draw at h
  split at h
  · rename_i c m
    obtain ⟨⟨⟨a, b, hc, hp⟩, hm0, hm1⟩, h⟩ := h
    obtain ⟨p1, p2, p3⟩ := hp
    show db_law_draw (retD Q) [some (.cell c), some (.int m), none] μ
    unfold db_law_draw
    refine sq fun U hU => ?_
    walk_at "ev"
    rw [hc]
    simp -dsimp only [atI_0]
    walk_at "ev"
    have r0 := Int.emod_nonneg a (show m ≠ 0 by omega)
    have r1 := Int.emod_lt_of_pos a hm0
    by_cases e : 0 < a
    · rw [if_pos e]
      refine sq fun V hV => ?_
      walk_at "ev"
      rw [hc]
      simp -dsimp only [atI_0]
      walk_at "ev"
      refine ⟨⟨hm0, by omega⟩, ?_⟩
      refine hV.go ?_
      walk_at "ev"
      exact ⟨_, Mu.Sub.refl _, h _ r0 r1 _ _ ⟨Int.ediv_nonneg p1 (by omega), p2, p3⟩⟩
    · rw [if_neg e]
      refine hU.go ?_
      refine sq fun V hV => ?_
      walk_at "ev"
      rw [hc]
      simp -dsimp only [atI_1]
      walk_at "ev"
      refine ⟨mulL (by omega) (by omega), ?_⟩
      generalize hb : (b * 39373 + 6449) % 2147483587 = b'
      have b0 : 0 ≤ b' := by rw [← hb]; exact Int.emod_nonneg _ (by decide)
      have b1 : b' < 2147483587 := by rw [← hb]; exact Int.emod_lt_of_pos _ (by decide)
      refine hV.go ?_
      walk_at "ev"
      refine ⟨mulL (by omega) (by omega), div_ok (by decide) (by decide), hm0, ?_⟩
      exact ⟨_, Mu.Sub.refl _, h _ (Int.emod_nonneg _ (by omega)) (Int.emod_lt_of_pos _ hm0) _ _ ⟨p1, b0, by omega⟩⟩
  · exact h.elim
theorem ask_draw {c : Nat} {m : Int} {μ : Mu} {Q : DK} (hp : Pot μ c) (h0 : 0 < m) (h1 : m < 2 ^ 30) (h : ∀ r, 0 ≤ r → r < m → Turn c μ fun μ' => Q (.int r) μ') : sp_law_draw [.cell c, .int m] μ Q := ⟨⟨hp, h0, h1⟩, h⟩
theorem pot_turn {μ : Mu} {c : Nat} {a b : Int} (h : PB a b) : Pot (μ.upd c [.int a, .int b]) c := ⟨a, b, Mu.upd_same, h⟩
def sp_law_pick : DSp := fun ds μ Q => match ds with | [.cell c, .cell s] => (Pot μ c ∧ s ≠ c) ∧ ∃ xs, μ s = some xs ∧ (0 < xs.length ∧ xs.length < 2 ^ 30) ∧ ∀ x, x ∈ xs → Turn c μ fun μ' => Q x μ' | _ => False
theorem len_law_pick : ∀ ds μ Q, sp_law_pick ds μ Q → ds.length = (["pot", "some"] : List Str).length := by
  intro ds μ Q h
  unfold sp_law_pick at h
  split at h <;> first | rfl | exact h.elim
def db_law_pick : DTS := (dRet (dOp oIx (dVar 1) (dFn sp_law_draw (daCons (dVar 0) (daCons (dCall cLen (daCons (dVar 1) daNil)) daNil)))))
theorem pf_law_pick : ∀ ds μ Q, sp_law_pick ds μ Q → db_law_pick (retD Q) (startD ["pot", "some"] ds) μ := by
  intro ds μ Q h
  unfold sp_law_pick at h
  split at h
  · rename_i c s
    obtain ⟨⟨hp, hne⟩, xs, hs, ⟨hl0, hl1⟩, h⟩ := h
    show db_law_pick (retD Q) [some (.cell c), some (.cell s)] μ
    unfold db_law_pick
    walk_at "ev"
    rw [hs]
    walk_at "ev"
    refine ask_draw hp (by omega) (by omega) fun r h0 h1 a b hb => ?_
    walk_at "ev"
    rw [Mu.upd_ne hne, hs]
    have hl : r.toNat < xs.length := by omega
    have ha := atI_nat (xs := xs) (j := r.toNat) (List.getElem?_eq_getElem hl)
    rw [show ((r.toNat : Nat) : Int) = r by omega] at ha
    walk_at "ev"
    rw [ha]
    exact ⟨_, Mu.Sub.refl _, h _ (List.getElem_mem hl) a b hb⟩
  · exact h.elim
/-- one of a fresh list, told at once -/
theorem ask_pick {c s : Nat} {xs : List D} {μ : Mu} {Q : DK} (hp : Pot μ c) (hs : μ s = none) (hl : 0 < xs.length ∧ xs.length < 2 ^ 30) (h : ∀ x, x ∈ xs → Turn c (μ.upd s xs) fun μ' => Q x μ') : sp_law_pick [.cell c, .cell s] (μ.upd s xs) Q := by
  obtain ⟨a, b, hc, hb⟩ := hp
  have hne : c ≠ s := Mu.ne_of hc hs
  exact ⟨⟨⟨a, b, (Mu.upd_ne hne).trans hc, hb⟩, fun z => hne z.symm⟩, xs, Mu.upd_same, hl, h⟩
theorem sub_turn {μ μ' : Mu} (s : Mu.Sub μ' μ) (c : Nat) (xs : List D) : Mu.Sub (μ'.upd c xs) (μ.upd c xs) := s.upd c xs
end K40
namespace K40
open PySem PySem.Spec PyProof.Rows L2 Dl
local macro_rules | `(tactic| walk_at "ev") => `(tactic| try simp -dsimp only [↓dSeq_at, cInt2, oIs2, oNot2, dRet, dRetN, dNext, dIfS, dAsg, dDrop, dPar, dNever, dVar, dC, dOp, dUn, dTest, dChain, dAnd, dOr, dNot, dIf, dtAnd, dtOr, dtNot, dTup, daNil, daCons, dCall, dFn, dFnK, dNew, dLst, dOf,
  gdName, gdTup, gdCons, gdNil, gdSub, rdI, rdI0, oPlus, oSub, oTimes, oDiv, oMod, oPow, oLt, oLe, oGt, oGe, oIx, oEq, oNe, uNeg, oIsN, oNotN, D.isNon, cAbs, cMax, cMin, cInt, cDivmod, cLen, cIsi, tyD, items, litems, retD, sTup, mApp, dYes,
  atI_0, atI_1, atI_2, atI_3, atI_4, ixN_20, ixN_21, kit_ii, kit_ib, kit_is, kit_it, kit_il, kit_bi, kit_bb, kit_bs, kit_bt, kit_bl, kit_si, kit_sb, kit_ss, kit_st, kit_sl, kit_ti, kit_tb, kit_ts, kit_tt, kit_tl, kit_li, kit_lb, kit_ls, kit_lt, kit_ll,
  List.getElem?_cons_zero, List.getElem?_cons_succ, List.set_cons_zero, List.set_cons_succ, List.length_cons, List.length_nil, Mu.upd_same, Mu.upd_upd, Nat.zero_add, Nat.reduceAdd, Nat.reduceLeDiff, natlit, Int.reduceEq, Int.reduceLT, Int.reduceLE, Int.reduceAdd, Int.reduceSub, Int.reduceMul, Int.reducePow, Int.reduceNeg, permG2_10, permG3_210, zl_0, zl_1, zl_2, zl_3, zl_4, zl_5, zl_6, zl_7, zl_8, zl_9, zl_10, zl_11, zl_12, zl_13, zl_14, zl_15, zl_16, zl_17, zl_18, zl_19, zl_20, true_and, and_true, eq_self, not_true_eq_false, not_false_eq_true, decide_true, decide_false, if_true, Bool.false_eq_true, if_false, Bool.not_true, Bool.not_false, decide_eq_true_eq, Bool.not_eq_true', decide_eq_false_iff_not, Option.isSome, Option.map])
/-! ## drawn rules -/
def chkR (r : R) : Bool := decide (r.fs.length ≤ 4) && (r.fs.all fun p => decide ((0 < p.1 ∧ p.1 ≤ 5000) ∧ 0 < p.2 ∧ p.2 ≤ 999 ∧ Int.gcd p.1 p.2 = 1)) && decide (1 ≤ r.bot ∧ r.bot ≤ 999) && decide (0 ≤ r.top ∧ r.top ≤ r.bot) && decide (Int.gcd r.top r.bot = 1) &&
  ((List.range (r.fs.length + 1)).all fun k => decide (lt (post r (k : Int)) (post r ((k : Int) + 1))) && decide (le ((k : Int), 1) (post r ((k : Int) + 1)) ∧ le (post r ((k : Int) + 1)) ((k : Int) + 1, 1)))
theorem gr_of {r : R} (h : chkR r = true) : GR r := by
  unfold chkR at h
  simp only [Bool.and_eq_true, decide_eq_true_eq, List.all_eq_true, List.mem_range] at h
  obtain ⟨⟨⟨⟨⟨h1, h2⟩, h3⟩, h4⟩, h5⟩, h6⟩ := h
  refine { len := h1, fsok := h2, bot := h3, top := h4, cop := h5, rise := fun k k0 k1 => ?_, near := fun k k0 k1 => ?_ }
  · have := (h6 k.toNat (by omega)).1
    rw [show ((k.toNat : Nat) : Int) = k by omega] at this
    exact this
  · have := (h6 k.toNat (by omega)).2
    rw [show ((k.toNat : Nat) : Int) = k by omega] at this
    exact this
def menu : List R := [⟨[], 1, 2⟩, ⟨[], 1, 1⟩, ⟨[], 1, 3⟩, ⟨[(7, 10)], 1, 2⟩, ⟨[(1, 3), (1, 1)], 0, 1⟩, ⟨[(1, 2), (4, 3)], 2, 5⟩]
theorem menu_ok : ∀ m ∈ menu, chkR m = true := by decide +kernel
theorem menu_gr {r : R} (h : r ∈ menu) : GR r := gr_of (menu_ok r h)
theorem menu_wide : ∀ m ∈ menu, ∀ s ∈ List.range 6, (post m (s : Int)).1 * (post m 1).2 ≤ 13 * ((post m 1).1 * (post m (s : Int)).2) := by decide +kernel
def sp_law_rule : DSp := fun ds μ Q => match ds with | [.cell c] => Pot μ c ∧ ∀ r, r ∈ menu → Turn c μ fun μ' => Q (enc r) μ' | _ => False
theorem len_law_rule : ∀ ds μ Q, sp_law_rule ds μ Q → ds.length = (["pot"] : List Str).length := by
  intro ds μ Q h
  unfold sp_law_rule at h
  split at h <;> first | rfl | exact h.elim
def db_law_rule : DTS := (dSeq (dAsg (dNew (dLst (daCons (dTup (daCons (dC (.str "rule")) (daCons (dTup daNil) (daCons (dC (.int 1)) (daCons (dC (.int 2)) daNil))))) (daCons (dTup (daCons (dC (.str "rule")) (daCons (dTup daNil) (daCons (dC (.int 1)) (daCons (dC (.int 1)) daNil))))) (daCons (dTup (daCons (dC (.str "rule")) (daCons (dTup daNil) (daCons (dC (.int 1)) (daCons (dC (.int 3)) daNil))))) (daCons (dTup (daCons (dC (.str "rule")) (daCons (dTup (daCons (dTup (daCons (dC (.int 7)) (daCons (dC (.int 10)) daNil))) daNil)) (daCons (dC (.int 1)) (daCons (dC (.int 2)) daNil))))) (daCons (dTup (daCons (dC (.str "rule")) (daCons (dTup (daCons (dTup (daCons (dC (.int 1)) (daCons (dC (.int 3)) daNil))) (daCons (dTup (daCons (dC (.int 1)) (daCons (dC (.int 1)) daNil))) daNil))) (daCons (dC (.int 0)) (daCons (dC (.int 1)) daNil))))) (daCons (dTup (daCons (dC (.str "rule")) (daCons (dTup (daCons (dTup (daCons (dC (.int 1)) (daCons (dC (.int 2)) daNil))) (daCons (dTup (daCons (dC (.int 4)) (daCons (dC (.int 3)) daNil))) daNil))) (daCons (dC (.int 2)) (daCons (dC (.int 5)) daNil))))) daNil)))))))) (gdName 1)) (dRet (dFn sp_law_pick (daCons (dVar 0) (daCons (dVar 1) daNil)))))
theorem pf_law_rule : ∀ ds μ Q, sp_law_rule ds μ Q → db_law_rule (retD Q) (startD ["pot", "plain"] ds) μ := by
  intro ds μ Q h
  unfold sp_law_rule at h
  split at h
  · rename_i c
    obtain ⟨⟨a0, b0, hc, hp⟩, h⟩ := h
    show db_law_rule (retD Q) [some (.cell c), none] μ
    unfold db_law_rule
    refine sq fun U hU => ?_
    walk_at "ev"
    intro s hs
    have hne : c ≠ s := Mu.ne_of hc hs
    show U _ (μ.upd s (menu.map enc))
    refine hU.go ?_
    walk_at "ev"
    refine ask_pick ⟨a0, b0, hc, hp⟩ hs ⟨by decide, by decide⟩ fun x hx a2 b2 hp2 => ?_
    obtain ⟨m, hm, rfl⟩ := List.mem_map.mp hx
    exact ⟨_, (Mu.sub_upd hs).upd c _, h m hm _ _ hp2⟩
  · exact h.elim
theorem ask_law_rule {c : Nat} {μ : Mu} {Q : DK} (hp : Pot μ c) (h : ∀ r, r ∈ menu → Turn c μ fun μ' => Q (enc r) μ') : sp_law_rule [.cell c] μ Q := ⟨hp, h⟩
/-! ## signposts by the law, as they stand -/
def lpost (r : R) (k : Int) : Int × Int := if k = 0 then (0, 1) else if k ≤ r.fs.length then r.fs.getD (k - 1).toNat (0, 1) else ((k - 1) * r.bot + r.top, r.bot)
def sp_law_post : DSp := fun ds μ Q => ∃ r k, ds = [enc r, .int k] ∧ (Gr0 r ∧ 0 ≤ k ∧ k ≤ 300) ∧ Q (fr (lpost r k)) μ
theorem len_law_post : ∀ ds μ Q, sp_law_post ds μ Q → ds.length = (["rule", "many"] : List Str).length := by
  rintro ds μ Q ⟨r, k, rfl, _⟩
  rfl
theorem lpost_in {r : R} {k : Int} (h0 : 0 < k) (h1 : k ≤ r.fs.length) : lpost r k = post r k := by
  unfold lpost post
  rw [if_neg (show ¬ k = 0 by omega), if_pos h1, if_neg (show ¬ k = 0 by omega), if_pos h1]
theorem lpost_out {r : R} {k : Int} (h1 : (r.fs.length : Int) < k) : lpost r k = ((k - 1) * r.bot + r.top, r.bot) := by
  unfold lpost
  rw [if_neg (by omega), if_neg (by omega)]
def db_law_post : DTS := (dSeq (dIfS (dTest (dOp oEq (dVar 1) (dC (.int 0)))) (dRet (dTup (daCons (dC (.int 0)) (daCons (dC (.int 1)) daNil)))) dNext) (dRet (dIf (dTest (dOp oLe (dVar 1) (dCall cLen (daCons (dOp oIx (dVar 0) (dC (.int 1))) daNil)))) (dOp oIx (dOp oIx (dVar 0) (dC (.int 1))) (dOp oSub (dVar 1) (dC (.int 1)))) (dTup (daCons (dOp oPlus (dOp oTimes (dOp oSub (dVar 1) (dC (.int 1))) (dOp oIx (dVar 0) (dC (.int 3)))) (dOp oIx (dVar 0) (dC (.int 2)))) (daCons (dOp oIx (dVar 0) (dC (.int 3))) daNil))))))
theorem pf_law_post : ∀ ds μ Q, sp_law_post ds μ Q → db_law_post (retD Q) (startD ["rule", "many"] ds) μ := by
  rintro ds μ Q ⟨r, k, rfl, ⟨g, h0, h1⟩, h⟩
  show db_law_post (retD Q) [some (enc r), some (.int k)] μ
  unfold db_law_post enc
  refine sq fun U hU => ?_
  walk_at "ev"
  by_cases e : k = 0
  · rw [if_pos e]
    subst e
    exact ⟨μ, Mu.Sub.refl _, h⟩
  · rw [if_neg e]
    refine hU.go ?_
    walk_at "ev"
    rw [List.length_map]
    by_cases e2 : k ≤ r.fs.length
    · rw [if_pos e2, atI_map]
      obtain ⟨p, hp, ep, ea⟩ := post_in (by omega) e2
      rw [ea]
      rw [lpost_in (by omega) e2, ep] at h
      exact ⟨μ, Mu.Sub.refl _, h⟩
    · rw [if_neg e2]
      have hb := g.bot
      rw [lpost_out (by omega)] at h
      exact ⟨mulL (by omega) (by omega), μ, Mu.Sub.refl _, h⟩
/-! ## drawn fractions -/
theorem gf_low {t b : Int} (h0 : 0 < t) (h1 : t ≤ 10 ^ 15) (h2 : 0 < b) (h3 : b ≤ 10 ^ 15) : GF (low t b) := by
  have hp := gcd_pos (t := t) h2
  have s := low_sz (t := t) h2
  refine ⟨⟨?_, by omega⟩, ⟨s.1, by omega⟩, ?_⟩
  · show 0 < t / (Int.gcd t b : Int)
    exact Int.ediv_pos_of_pos_of_dvd h0 (by omega) (Int.gcd_dvd_left t b)
  · exact Int.gcd_ediv_gcd_ediv_gcd (by omega)
theorem post_bd {r : R} (g : GR r) {k : Int} (h0 : 1 ≤ k) (h1 : k ≤ 300) : 0 < (post r k).1 ∧ (post r k).1 ≤ 299700 ∧ 0 < (post r k).2 ∧ (post r k).2 ≤ 999 := by
  have s := post_sz g.toGr0 (k := k) (by omega) (by omega)
  have a := at_most g (k := k) (by omega)
  have b := rise_all g (k := k - 1) (by omega)
  have c := post_sz g.toGr0 (k := k - 1) (by omega) (by omega)
  rw [show k - 1 + 1 = k by omega] at b
  simp only [le, lt] at a b
  have d : k * (post r k).2 ≤ 300 * 999 := mul_le_of (by omega) (by omega) h1 s.2.2.2
  refine ⟨?_, by omega, s.2.2.1, s.2.2.2⟩
  have e : 0 ≤ (post r (k - 1)).1 * (post r k).2 := Int.mul_nonneg (by omega) (by omega)
  rcases Int.lt_or_le 0 (post r k).1 with z | z
  · exact z
  · have : (post r k).1 = 0 := by omega
    rw [this] at b
    omega
theorem gf_post {r : R} (g : GR r) {k : Int} (h0 : 1 ≤ k) (h1 : k ≤ 300) : GF (post r k) := by
  have s := post_bd g h0 h1
  refine ⟨⟨s.1, by omega⟩, ⟨s.2.2.1, by omega⟩, ?_⟩
  by_cases e2 : k ≤ r.fs.length
  · obtain ⟨p, hp, ep, _⟩ := post_in (by omega) e2
    rw [ep]
    exact (g.fsok p hp).2.2.2
  · rw [post_out (by omega)]
    have hb := g.bot
    exact Int.gcd_ediv_gcd_ediv_gcd (by have := gcd_pos (t := (k - 1) * r.bot + r.top) (b := r.bot) (by omega); omega)
/-- a signpost of the law is the signpost -/
theorem lpost_pos {r : R} (g : GR r) {k : Int} (h0 : 1 ≤ k) (h1 : k ≤ 300) : 0 < (lpost r k).1 ∧ (lpost r k).1 < 2 ^ 40 ∧ 0 < (lpost r k).2 ∧ (lpost r k).2 < 2 ^ 20 := by
  by_cases e2 : k ≤ r.fs.length
  · have p := post_bd g h0 h1
    rw [lpost_in (by omega) e2]
    omega
  · rw [lpost_out (by omega)]
    have hb := g.bot
    have ht := g.top
    have p := post_bd g h0 h1
    rw [post_out (by omega)] at p
    have u : (k - 1) * r.bot ≤ 299 * 999 := mul_le_of (by omega) (by omega) (by omega) hb.2
    have z : 0 ≤ (k - 1) * r.bot := Int.mul_nonneg (by omega) (by omega)
    refine ⟨?_, by show (k - 1) * r.bot + r.top < _; omega, by show 0 < r.bot; omega, by show r.bot < _; omega⟩
    show 0 < (k - 1) * r.bot + r.top
    rcases Int.lt_or_le 0 ((k - 1) * r.bot + r.top) with y | y
    · exact y
    · have : (k - 1) * r.bot + r.top = 0 := by omega
      rw [this] at p
      have := p.1
      simp [low] at this
theorem lpost_eqv {r : R} (g : GR r) {k : Int} (h0 : 1 ≤ k) (h1 : k ≤ 300) : (lpost r k).1 * (post r k).2 = (post r k).1 * (lpost r k).2 := by
  by_cases e2 : k ≤ r.fs.length
  · rw [lpost_in (by omega) e2]
  · rw [lpost_out (by omega), post_out (by omega)]
    have hb := g.bot
    have e := low_eqv (t := (k - 1) * r.bot + r.top) (b := r.bot) (by omega)
    exact Int.le_antisymm e.2 e.1
end K40
namespace K40
open PySem PySem.Spec PyProof.Rows L2 Dl
/-! ## the greatest of fractions in lowest terms -/
theorem dvd_cop {a b c : Int} (h : Int.gcd a b = 1) (d : b ∣ a * c) : b ∣ c := by
  refine Int.natAbs_dvd_natAbs.mp (Nat.Coprime.dvd_of_dvd_mul_left (m := a.natAbs) ?_ ?_)
  · show Nat.gcd b.natAbs a.natAbs = 1
    rw [Nat.gcd_comm]
    exact h
  · rw [← Int.natAbs_mul]
    exact Int.natAbs_dvd_natAbs.mpr d
theorem can_eq {p q : Int × Int} (hp : GF p) (hq : GF q) (h1 : le p q) (h2 : le q p) : p = q := by
  have e : p.1 * q.2 = q.1 * p.2 := Int.le_antisymm h1 h2
  have p2 := hp.p2.1
  have q2 := hq.p2.1
  have a : p.2 ∣ q.2 := by
    have d : p.2 ∣ p.1 * q.2 := ⟨q.1, by rw [e, Int.mul_comm]⟩
    exact dvd_cop hp.cop d
  have b : q.2 ∣ p.2 := by
    have d : q.2 ∣ q.1 * p.2 := ⟨p.1, by rw [← e, Int.mul_comm]⟩
    exact dvd_cop hq.cop d
  have e2 : p.2 = q.2 := Int.le_antisymm (Int.le_of_dvd q2 a) (Int.le_of_dvd p2 b)
  rw [e2] at e
  exact Prod.ext (Int.eq_of_mul_eq_mul_right (by omega) e) e2
def IsMax (b : Int × Int) (l : List (Int × Int)) : Prop := b ∈ l ∧ ∀ x ∈ l, le x b
def up (b x : Int × Int) : Int × Int := if lt b x then x else b
def bst (l : List (Int × Int)) : Int × Int := l.foldl up (l.headD (0, 1))
theorem le_rfl' (p : Int × Int) : le p p := Int.le_refl _
theorem up_le {b x : Int × Int} : le b (up b x) ∧ le x (up b x) := by
  unfold up
  by_cases h : lt b x
  · rw [if_pos h]
    exact ⟨lt_le h, le_rfl' x⟩
  · rw [if_neg h]
    exact ⟨le_rfl' b, not_lt.mp h⟩
theorem up_or {b x : Int × Int} : up b x = b ∨ up b x = x := by
  unfold up
  by_cases h : lt b x
  · exact .inr (if_pos h)
  · exact .inl (if_neg h)
theorem fold_max : ∀ (l : List (Int × Int)) (b : Int × Int), GF b → (∀ x ∈ l, GF x) → (l.foldl up b = b ∨ l.foldl up b ∈ l) ∧ GF (l.foldl up b) ∧ le b (l.foldl up b) ∧ ∀ x ∈ l, le x (l.foldl up b)
  | [], b, gb, _ => ⟨.inl rfl, gb, le_rfl' b, fun x hx => nomatch hx⟩
  | y :: l, b, gb, hl => by
    have gy := hl y (List.mem_cons_self ..)
    have gu : GF (up b y) := by
      rcases up_or (b := b) (x := y) with e | e
      · rw [e]; exact gb
      · rw [e]; exact gy
    obtain ⟨h1, h2, h3, h4⟩ := fold_max l (up b y) gu fun x hx => hl x (List.mem_cons_of_mem _ hx)
    rw [List.foldl_cons]
    have ub := up_le (b := b) (x := y)
    refine ⟨?_, h2, le_tr gb.p2.1 gu.p2.1 h2.p2.1 ub.1 h3, fun x hx => ?_⟩
    · rcases h1 with e | e
      · rw [e]
        rcases up_or (b := b) (x := y) with q | q
        · exact .inl q
        · exact .inr (by rw [q]; exact List.mem_cons_self ..)
      · exact .inr (List.mem_cons_of_mem _ e)
    · cases hx with
      | head => exact le_tr gy.p2.1 gu.p2.1 h2.p2.1 ub.2 h3
      | tail _ hx => exact h4 x hx
theorem bst_max {l : List (Int × Int)} (h : l ≠ []) (g : ∀ x ∈ l, GF x) : IsMax (bst l) l ∧ GF (bst l) := by
  cases l with
  | nil => exact absurd rfl h
  | cons y l =>
    have f := fold_max (y :: l) y (g y (List.mem_cons_self ..)) g
    refine ⟨⟨?_, f.2.2.2⟩, f.2.1⟩
    rcases f.1 with e | e
    · show List.foldl up y (y :: l) ∈ _
      rw [e]
      exact List.mem_cons_self ..
    · exact e
theorem max_uni {l : List (Int × Int)} {b c : Int × Int} (g : ∀ x ∈ l, GF x) (hb : IsMax b l) (hc : IsMax c l) : b = c :=
  can_eq (g b hb.1) (g c hc.1) (hc.2 b hb.1) (hb.2 c hc.1)
/-! ## prices -/
def cost (r : R) (v m : Int) : Int × Int := low (v * (post r m).2) (post r m).1
theorem cost_gf {r : R} (g : GR r) {v m : Int} (v0 : 1 ≤ v) (v1 : v ≤ 10 ^ 9) (m0 : 1 ≤ m) (m1 : m ≤ 300) : GF (cost r v m) := by
  have b := post_bd g m0 m1
  have u : 1 * 1 ≤ v * (post r m).2 := Int.mul_le_mul v0 (by omega) (by omega) (by omega)
  have d : v * (post r m).2 ≤ 10 ^ 9 * 999 := mul_le_of (by omega) (by omega) v1 b.2.2.2
  exact gf_low (by omega) (by omega) b.1 (by omega)
theorem cost_down {r : R} (g : GR r) {v m : Int} (v0 : 1 ≤ v) (m0 : 1 ≤ m) (m1 : m + 1 ≤ 300) : lt (cost r v (m + 1)) (cost r v m) := by
  have b1 := post_bd g m0 (by omega)
  have b2 := post_bd g (k := m + 1) (by omega) m1
  have ri := rise_all g (k := m) (by omega)
  have e1 := low_eqv (t := v * (post r m).2) b1.1
  have e2 := low_eqv (t := v * (post r (m + 1)).2) b2.1
  have s1 := (low_sz (t := v * (post r m).2) b1.1).1
  have s2 := (low_sz (t := v * (post r (m + 1)).2) b2.1).1
  have mid : lt (v * (post r (m + 1)).2, (post r (m + 1)).1) (v * (post r m).2, (post r m).1) := by
    simp only [lt] at ri ⊢
    rw [Int.mul_assoc, Int.mul_assoc]
    refine Int.mul_lt_mul_of_pos_left ?_ (by omega)
    rw [Int.mul_comm (post r (m + 1)).2, Int.mul_comm (post r m).2]
    exact ri
  exact lt_of_le_lt s2 b2.1 s1 e2.1 (lt_of_lt_le b2.1 b1.1 s1 mid e1.2)
theorem cost_fall {r : R} (g : GR r) {v : Int} (v0 : 1 ≤ v) (v1 : v ≤ 10 ^ 9) {m : Int} (m0 : 1 ≤ m) : ∀ (d : Nat), m + (d : Int) + 1 ≤ 300 → lt (cost r v (m + (d : Int) + 1)) (cost r v m)
  | 0, h => by
    have := cost_down g (v := v) v0 m0 (by omega)
    rw [show m + ((0 : Nat) : Int) + 1 = m + 1 by omega]
    exact this
  | d + 1, h => by
    have a := cost_fall g v0 v1 m0 d (by omega)
    have b := cost_down g (v := v) (m := m + (d : Int) + 1) v0 (by omega) (by omega)
    rw [show m + ((d + 1 : Nat) : Int) + 1 = m + (d : Int) + 1 + 1 by omega]
    exact lt_of_lt_le (cost_gf g v0 v1 (by omega) (by omega)).p2.1 (cost_gf g v0 v1 (by omega) (by omega)).p2.1 (cost_gf g v0 v1 m0 (by omega)).p2.1 b (lt_le a)
theorem cost_after {r : R} (g : GR r) {v m n : Int} (v0 : 1 ≤ v) (v1 : v ≤ 10 ^ 9) (m0 : 1 ≤ m) (h : m < n) (n1 : n ≤ 300) : lt (cost r v n) (cost r v m) := by
  have := cost_fall g (v := v) v0 v1 m0 (n - m - 1).toNat (by omega)
  rw [show m + ((n - m - 1).toNat : Int) + 1 = n by omega] at this
  exact this
/-! ## the steps -/
def vt (vs : List Int) (a : Nat) : Int := vs.getD a 0
structure Vok (vs : List Int) : Prop where
  len : 1 ≤ vs.length ∧ vs.length ≤ 12
  v : ∀ x ∈ vs, 0 ≤ x ∧ x ≤ 10 ^ 9
theorem Vok.at {vs : List Int} (h : Vok vs) (a : Nat) : 0 ≤ vt vs a ∧ vt vs a ≤ 10 ^ 9 := by
  unfold vt
  rw [List.getD_eq_getElem?_getD]
  cases e : vs[a]? with
  | none => exact ⟨by decide, by decide⟩
  | some x => exact h.v x (List.mem_of_getElem? e)
abbrev Sf := Nat → Int
section
variable (r : R) (vs : List Int)
def act : List Nat := (List.range vs.length).filter fun a => decide (0 < vt vs a)
def pr (s : Sf) (a : Nat) : Int × Int := cost r (vt vs a) (s a + 1)
def best (s : Sf) : Int × Int := bst ((act vs).map (pr r vs s))
def isl (s : Sf) (a : Nat) : Bool := decide (0 < vt vs a) && decide (pr r vs s a = best r vs s)
def lot (s : Sf) : List Nat := (act vs).filter fun a => decide (pr r vs s a = best r vs s)
def give (s : Sf) : Sf := fun a => if isl r vs s a = true then s a + 1 else s a
def tot (s : Sf) : Int := ((List.range vs.length).map s).sum
def S : Nat → Sf
  | 0 => fun _ => 0
  | j + 1 => give r vs (S j)
def stepD (s : Sf) : D := .tup [fr (best r vs s), .tup ((lot r vs s).map fun a => .int ((a : Nat) : Int))]
def rowS (J : Nat) : List D := (List.range J).map fun j => stepD r vs (S r vs j)
structure Ends (h : Int) (J : Nat) : Prop where
  low : ∀ j, j < J → act vs ≠ [] ∧ tot vs (S r vs j) < h
  top : act vs = [] ∨ h ≤ tot vs (S r vs J)
theorem rowS_succ (J : Nat) : rowS r vs (J + 1) = rowS r vs J ++ [stepD r vs (S r vs J)] := by
  unfold rowS
  rw [List.range_succ, List.map_append]
  rfl
theorem rowS_len (J : Nat) : (rowS r vs J).length = J := by
  unfold rowS
  rw [List.length_map, List.length_range]
end
theorem Ends.uni {r : R} {vs : List Int} {h : Int} {J J' : Nat} (a : Ends r vs h J) (b : Ends r vs h J') : J = J' := by
  rcases Nat.lt_trichotomy J J' with e | e | e
  · have c := b.low J e
    rcases a.top with t | t
    · exact absurd t c.1
    · omega
  · exact e
  · have c := a.low J' e
    rcases b.top with t | t
    · exact absurd t c.1
    · omega
theorem lot_eq (r : R) (vs : List Int) (s : Sf) : lot r vs s = (List.range vs.length).filter (isl r vs s) := by
  unfold lot act isl
  rw [List.filter_filter]
  refine List.filter_congr fun a _ => ?_
  rw [Bool.and_comm]
theorem sum_bump (c : Nat → Bool) (f : Nat → Int) : ∀ l : List Nat, (l.map fun a => if c a = true then f a + 1 else f a).sum = (l.map f).sum + ((l.filter c).length : Nat)
  | [] => rfl
  | a :: l => by
    rw [List.map_cons, List.map_cons, List.sum_cons, List.sum_cons, sum_bump c f l, List.filter_cons]
    by_cases h : c a = true
    · rw [if_pos h, if_pos h, List.length_cons]
      omega
    · rw [if_neg h, if_neg h]
      omega
theorem tot_give (r : R) (vs : List Int) (s : Sf) : tot vs (give r vs s) = tot vs s + ((lot r vs s).length : Nat) := by
  rw [lot_eq]
  exact sum_bump (isl r vs s) s _
theorem S_pos (r : R) (vs : List Int) : ∀ (j : Nat) (a : Nat), 0 ≤ S r vs j a
  | 0, a => Int.le_refl _
  | j + 1, a => by
    have := S_pos r vs j a
    show 0 ≤ give r vs (S r vs j) a
    unfold give
    split <;> omega
theorem sum_ge {f : Nat → Int} (h : ∀ a, 0 ≤ f a) : ∀ (l : List Nat), 0 ≤ (l.map f).sum ∧ ∀ a ∈ l, f a ≤ (l.map f).sum
  | [] => ⟨Int.le_refl _, fun a ha => nomatch ha⟩
  | b :: l => by
    have i := sum_ge h l
    have hb := h b
    rw [List.map_cons, List.sum_cons]
    refine ⟨by omega, fun a ha => ?_⟩
    cases ha with
    | head => omega
    | tail _ ha =>
      have := i.2 a ha
      omega
theorem S_le (r : R) (vs : List Int) (j : Nat) {a : Nat} (ha : a < vs.length) : S r vs j a ≤ tot vs (S r vs j) := (sum_ge (S_pos r vs j) _).2 a (List.mem_range.mpr ha)
theorem tot_0 (r : R) (vs : List Int) : tot vs (S r vs 0) = 0 := by
  show ((List.range vs.length).map fun _ => (0 : Int)).sum = 0
  have : ∀ l : List Nat, (l.map fun _ => (0 : Int)).sum = 0 := fun l => by
    induction l with
    | nil => rfl
    | cons a l ih =>
      rw [List.map_cons, List.sum_cons, ih]
      rfl
  exact this _
/-- seats that the next steps may be drawn from -/
structure Sok (vs : List Int) (h : Int) (s : Sf) : Prop where
  lo : ∀ a, 0 ≤ s a
  hi : ∀ a, a < vs.length → s a < h
  hh : h ≤ 250
theorem S_ok {r : R} {vs : List Int} {h : Int} {j : Nat} (h2 : h ≤ 250) (t : tot vs (S r vs j) < h) : Sok vs h (S r vs j) := ⟨S_pos r vs j, fun a ha => by have := S_le r vs j ha; omega, h2⟩
section
variable {r : R} {vs : List Int} {h : Int} {s : Sf} (g : GR r) (hv : Vok vs) (hs : Sok vs h s)
theorem act_mem {a : Nat} : a ∈ act vs ↔ a < vs.length ∧ 0 < vt vs a := by
  unfold act
  rw [List.mem_filter, List.mem_range, decide_eq_true_eq]
include g hv hs
theorem pr_gf {a : Nat} (ha : a ∈ act vs) : GF (pr r vs s a) := by
  have v := hv.at a
  have m := act_mem.mp ha
  have lo := hs.lo a
  have hi := hs.hi a m.1
  have hh := hs.hh
  exact cost_gf g (by omega) v.2 (by omega) (by omega)
theorem prs_gf : ∀ x ∈ (act vs).map (pr r vs s), GF x := by
  intro x hx
  obtain ⟨a, ha, rfl⟩ := List.mem_map.mp hx
  exact pr_gf g hv hs ha
theorem best_max (ha : act vs ≠ []) : IsMax (best r vs s) ((act vs).map (pr r vs s)) ∧ GF (best r vs s) := bst_max (by simpa using ha) (prs_gf g hv hs)
theorem lot_pos (ha : act vs ≠ []) : 1 ≤ (lot r vs s).length := by
  have b := (best_max g hv hs ha).1.1
  obtain ⟨a, h1, h2⟩ := List.mem_map.mp b
  have : a ∈ lot r vs s := List.mem_filter.mpr ⟨h1, decide_eq_true h2⟩
  exact List.length_pos_of_mem this
end
def il (lo hi : Int) : List Int := (List.range (hi - lo).toNat).map fun i => lo + (i : Nat)
theorem mem_il {lo hi n : Int} : n ∈ il lo hi ↔ lo ≤ n ∧ n < hi := by
  unfold il
  rw [List.mem_map]
  constructor
  · rintro ⟨i, hi, rfl⟩
    have := List.mem_range.mp hi
    omega
  · intro h
    exact ⟨(n - lo).toNat, List.mem_range.mpr (by omega), by omega⟩
theorem il_cons {lo hi : Int} (h : lo < hi) : il lo hi = lo :: il (lo + 1) hi := by
  unfold il
  rw [show (hi - lo).toNat = (hi - (lo + 1)).toNat + 1 by omega, List.range_succ_eq_map, List.map_cons, List.map_map]
  refine congr (congrArg _ (by omega)) (List.map_congr_left fun i _ => ?_)
  show lo + ((i + 1 : Nat) : Int) = lo + 1 + (i : Int)
  omega
def rowsOf (r : R) (vs : List Int) (h : Int) (s : Sf) (a : Nat) : List (Nat × (Int × Int)) := (il (s a + 1) (h + 1)).map fun m => (a, cost r (vt vs a) m)
def rowsN (r : R) (vs : List Int) (h : Int) (s : Sf) : List (Nat × (Int × Int)) := (act vs).flatMap (rowsOf r vs h s)
section
variable {r : R} {vs : List Int} {h : Int} {s : Sf} (g : GR r) (hv : Vok vs) (hs : Sok vs h s)
include g hv hs
theorem rows_head {a : Nat} (ha : a ∈ act vs) : rowsOf r vs h s a = (a, pr r vs s a) :: (il (s a + 2) (h + 1)).map fun m => (a, cost r (vt vs a) m) := by
  have m := act_mem.mp ha
  have hi := hs.hi a m.1
  unfold rowsOf
  rw [il_cons (by omega), List.map_cons, show s a + 1 + 1 = s a + 2 by omega]
  rfl
theorem later {a : Nat} (ha : a ∈ act vs) {m : Int} (hm : m ∈ il (s a + 2) (h + 1)) : GF (cost r (vt vs a) m) ∧ lt (cost r (vt vs a) m) (pr r vs s a) := by
  have v := hv.at a
  have q := act_mem.mp ha
  have lo := hs.lo a
  have hh := hs.hh
  have k := mem_il.mp hm
  exact ⟨cost_gf g (by omega) v.2 (by omega) (by omega), cost_after g (by omega) v.2 (by omega) (by omega) (by omega)⟩
theorem late_ne {a : Nat} (ha : a ∈ act vs) {m : Int} (hm : m ∈ il (s a + 2) (h + 1)) : cost r (vt vs a) m ≠ best r vs s := by
  intro e
  have l := later g hv hs ha hm
  have b := best_max g hv hs (List.ne_nil_of_mem ha)
  have u := b.1.2 _ (List.mem_map_of_mem (f := pr r vs s) ha)
  have := lt_of_lt_le l.1.p2.1 (pr_gf g hv hs ha).p2.1 b.2.p2.1 l.2 u
  rw [e] at this
  exact Int.lt_irrefl _ this
theorem rows_gf : ∀ x ∈ (rowsN r vs h s).map (·.2), GF x := by
  intro x hx
  obtain ⟨p, hp, rfl⟩ := List.mem_map.mp hx
  obtain ⟨a, ha, hp⟩ := List.mem_flatMap.mp hp
  rw [rows_head g hv hs ha] at hp
  cases hp with
  | head => exact pr_gf g hv hs ha
  | tail _ hp =>
    obtain ⟨m, hm, rfl⟩ := List.mem_map.mp hp
    exact (later g hv hs ha hm).1
theorem rows_max (hne : act vs ≠ []) : IsMax (best r vs s) ((rowsN r vs h s).map (·.2)) := by
  have b := best_max g hv hs hne
  refine ⟨?_, fun x hx => ?_⟩
  · obtain ⟨a, ha, e⟩ := List.mem_map.mp b.1.1
    rw [← e]
    refine List.mem_map.mpr ⟨(a, pr r vs s a), List.mem_flatMap.mpr ⟨a, ha, ?_⟩, rfl⟩
    rw [rows_head g hv hs ha]
    exact List.mem_cons_self ..
  · obtain ⟨p, hp, rfl⟩ := List.mem_map.mp hx
    obtain ⟨a, ha, hp⟩ := List.mem_flatMap.mp hp
    have u := b.1.2 _ (List.mem_map_of_mem (f := pr r vs s) ha)
    rw [rows_head g hv hs ha] at hp
    cases hp with
    | head => exact u
    | tail _ hp =>
      obtain ⟨m, hm, rfl⟩ := List.mem_map.mp hp
      have l := later g hv hs ha hm
      exact le_tr l.1.p2.1 (pr_gf g hv hs ha).p2.1 b.2.p2.1 (lt_le l.2) u
theorem filter_none {β : Type} {c : β → Bool} : ∀ {l : List β}, (∀ x ∈ l, c x = false) → l.filter c = []
  | [], _ => rfl
  | x :: l, k => by
    rw [List.filter_cons, if_neg (by rw [k x (List.mem_cons_self ..)]; decide)]
    exact filter_none fun y hy => k y (List.mem_cons_of_mem _ hy)
theorem rows_lot : ((rowsN r vs h s).filter fun p => decide (p.2 = best r vs s)).map (·.1) = lot r vs s := by
  unfold rowsN lot
  have : ∀ l : List Nat, (∀ a ∈ l, a ∈ act vs) → ((l.flatMap (rowsOf r vs h s)).filter fun p => decide (p.2 = best r vs s)).map (·.1) = l.filter fun a => decide (pr r vs s a = best r vs s) := by
    intro l
    induction l with
    | nil => exact fun _ => rfl
    | cons a l ih =>
      intro hl
      have ha := hl a (List.mem_cons_self ..)
      rw [List.flatMap_cons, List.filter_append, List.map_append, ih fun b hb => hl b (List.mem_cons_of_mem _ hb), rows_head g hv hs ha, List.filter_cons, List.filter_cons]
      have z : ((il (s a + 2) (h + 1)).map fun m => (a, cost r (vt vs a) m)).filter (fun p => decide (p.2 = best r vs s)) = [] := filter_none g hv hs fun x hx => by
        obtain ⟨m, hm, rfl⟩ := List.mem_map.mp hx
        exact decide_eq_false (late_ne g hv hs ha hm)
      rw [z]
      by_cases e : pr r vs s a = best r vs s
      · rw [if_pos (decide_eq_true e), if_pos (decide_eq_true e)]
        rfl
      · rw [if_neg (by simpa using e), if_neg (by simpa using e)]
        rfl
  exact this _ fun _ ha => ha
theorem rows_give : ((rowsN r vs h s).filter fun p => !decide (p.2 = best r vs s)) = rowsN r vs h (give r vs s) := by
  unfold rowsN
  have : ∀ l : List Nat, (∀ a ∈ l, a ∈ act vs) → ((l.flatMap (rowsOf r vs h s)).filter fun p => !decide (p.2 = best r vs s)) = l.flatMap (rowsOf r vs h (give r vs s)) := by
    intro l
    induction l with
    | nil => exact fun _ => rfl
    | cons a l ih =>
      intro hl
      have ha := hl a (List.mem_cons_self ..)
      rw [List.flatMap_cons, List.flatMap_cons, List.filter_append, ih fun b hb => hl b (List.mem_cons_of_mem _ hb)]
      refine congrArg (· ++ _) ?_
      have z : ((il (s a + 2) (h + 1)).map fun m => (a, cost r (vt vs a) m)).filter (fun p => !decide (p.2 = best r vs s)) = (il (s a + 2) (h + 1)).map fun m => (a, cost r (vt vs a) m) := List.filter_eq_self.mpr fun x hx => by
        obtain ⟨m, hm, rfl⟩ := List.mem_map.mp hx
        show (!decide (cost r (vt vs a) m = best r vs s)) = true
        rw [decide_eq_false (late_ne g hv hs ha hm)]
        rfl
      rw [rows_head g hv hs ha, List.filter_cons, z]
      have pos := (act_mem.mp ha).2
      by_cases e : pr r vs s a = best r vs s
      · rw [if_neg (by simpa using e)]
        have gv : give r vs s a = s a + 1 := if_pos (by unfold isl; rw [decide_eq_true pos, decide_eq_true e]; rfl)
        unfold rowsOf
        rw [gv, show s a + 1 + 1 = s a + 2 by omega]
      · rw [if_pos (by simpa using e)]
        have gv : give r vs s a = s a := if_neg (by unfold isl; rw [decide_eq_true pos, decide_eq_false e]; decide)
        rw [← rows_head g hv hs ha]
        unfold rowsOf
        rw [gv]
  exact this _ fun _ ha => ha
theorem rows_ne (hne : act vs ≠ []) : rowsN r vs h s ≠ [] := by
  have m := (rows_max g hv hs hne).1
  intro e
  rw [e] at m
  cases m
end
theorem rows_nil {r : R} {vs : List Int} {h : Int} {s : Sf} (e : act vs = []) : rowsN r vs h s = [] := by
  unfold rowsN
  rw [e]
  rfl
end K40
namespace K40
open PySem PySem.Spec PyProof.Rows L2 Dl
local macro_rules | `(tactic| walk_at "ev") => `(tactic| try simp -dsimp only [↓dSeq_at, cInt2, oIs2, oNot2, sp_is_within, dRet, dRetN, dNext, dIfS, dAsg, dDrop, dPar, dNever, dVar, dC, dOp, dUn, dTest, dChain, dAnd, dOr, dNot, dIf, dtAnd, dtOr, dtNot, dTup, daNil, daCons, dCall, dFn, dFnK, dNew, dLst, dOf,
  gdName, gdTup, gdCons, gdNil, gdSub, rdI, rdI0, oPlus, oSub, oTimes, oDiv, oMod, oPow, oLt, oLe, oGt, oGe, oIx, oEq, oNe, uNeg, oIsN, oNotN, D.isNon, cAbs, cMax, cMin, cInt, cDivmod, cLen, cIsi, tyD, items, litems, retD, sTup, mApp, dYes,
  atI_0, atI_1, atI_2, atI_3, atI_4, ixN_20, ixN_21, kit_ii, kit_ib, kit_is, kit_it, kit_il, kit_bi, kit_bb, kit_bs, kit_bt, kit_bl, kit_si, kit_sb, kit_ss, kit_st, kit_sl, kit_ti, kit_tb, kit_ts, kit_tt, kit_tl, kit_li, kit_lb, kit_ls, kit_lt, kit_ll,
  List.getElem?_cons_zero, List.getElem?_cons_succ, List.set_cons_zero, List.set_cons_succ, List.length_cons, List.length_nil, Mu.upd_same, Mu.upd_upd, Nat.zero_add, Nat.reduceAdd, Nat.reduceLeDiff, natlit, Int.reduceEq, Int.reduceLT, Int.reduceLE, Int.reduceAdd, Int.reduceSub, Int.reduceMul, Int.reducePow, Int.reduceNeg, permG2_10, permG3_210, zl_0, zl_1, zl_2, zl_3, zl_4, zl_5, zl_6, zl_7, zl_8, zl_9, zl_10, zl_11, zl_12, zl_13, zl_14, zl_15, zl_16, zl_17, zl_18, zl_19, zl_20, true_and, and_true, eq_self, not_true_eq_false, not_false_eq_true, decide_true, decide_false, if_true, Bool.false_eq_true, if_false, Bool.not_true, Bool.not_false, decide_eq_true_eq, Bool.not_eq_true', decide_eq_false_iff_not, Option.isSome, Option.map])
def encV (vs : List Int) : D := .tup (vs.map D.int)
theorem GF.sz {x : Int × Int} (h : GF x) : Sz x.1 ∧ Sz x.2 := by
  have := h.p1
  have := h.p2
  exact ⟨sz_of (by omega) (by omega), sz_of (by omega) (by omega)⟩
def mx (xs : List (Int × Int)) : D := if xs = [] then .non else fr (bst xs)
theorem mx_nil : mx [] = .non := rfl
theorem mx_one (x : Int × Int) : mx [x] = fr x := by
  show (if [x] = [] then _ else _) = _
  rw [if_neg (by simp)]
  show fr (up x x) = fr x
  rcases up_or (b := x) (x := x) with e | e <;> rw [e]
theorem mx_cons (y x : Int × Int) (l : List (Int × Int)) : mx (y :: l) = fr (bst (y :: l)) ∧ mx (y :: l ++ [x]) = fr (up (bst (y :: l)) x) := by
  refine ⟨if_neg (by simp), ?_⟩
  show (if y :: l ++ [x] = [] then _ else _) = _
  rw [if_neg (by simp)]
  show fr ((y :: l ++ [x]).foldl up y) = _
  rw [List.foldl_append]
  rfl
theorem fold_in : ∀ (l : List (Int × Int)) (b : Int × Int), l.foldl up b = b ∨ l.foldl up b ∈ l
  | [], b => .inl rfl
  | y :: l, b => by
    rw [List.foldl_cons]
    rcases fold_in l (up b y) with e | e
    · rw [e]
      rcases up_or (b := b) (x := y) with q | q
      · exact .inl q
      · exact .inr (by rw [q]; exact List.mem_cons_self ..)
    · exact .inr (List.mem_cons_of_mem _ e)
theorem bst_mem {l : List (Int × Int)} (h : l ≠ []) : bst l ∈ l := by
  cases l with
  | nil => exact absurd rfl h
  | cons y l =>
    rcases fold_in (y :: l) y with e | e
    · show List.foldl up y (y :: l) ∈ _
      rw [e]
      exact List.mem_cons_self ..
    · exact e
def sp_most_of : DSp := fun ds μ Q => ∃ k xs, ds = [.cell k] ∧ μ k = some (xs.map fr) ∧ (∀ x ∈ xs, Sz x.1 ∧ Sz x.2) ∧ Q (mx xs) μ
def sp_is_row_of_votes : DSp := fun ds μ Q => ∃ vs, ds = [encV vs] ∧ Vok vs ∧ Q (.bl true) μ
theorem len_is_row_of_votes : ∀ ds μ Q, sp_is_row_of_votes ds μ Q → ds.length = (["value"] : List Str).length := by
  rintro ds μ Q ⟨vs, rfl, _⟩
  rfl
def db_is_row_of_votes : DTS := (dSeq (dIfS (dtOr (dtNot (dTest (dCall cIsi (daCons (dVar 0) (daCons (dC (.ty "tuple")) daNil))))) (dtNot (dTest (dChain oLe oLe (dC (.int 1)) (dCall cLen (daCons (dVar 0) daNil)) (dC (.int 12)))))) (dRet (dC (.bl false))) dNext) (dRet (dOf sAll (dLc (diSeq (dVar 0)) (gdName 1) dYes (dFn sp_is_within (daCons (dVar 1) (daCons (dC (.int 0)) (daCons (dC (.int 1000000000)) daNil)))) [1]))))
theorem pf_is_row_of_votes : ∀ ds μ Q, sp_is_row_of_votes ds μ Q → db_is_row_of_votes (retD Q) (startD ["value", "one"] ds) μ := by
  rintro ds μ Q ⟨vs, rfl, hv, h⟩
  show db_is_row_of_votes (retD Q) [some (.tup (vs.map D.int)), none] μ
  have hl := hv.len
  unfold db_is_row_of_votes
  refine sq fun U hU => ?_
  walk_at "ev"
  rw [List.length_map, if_pos (by omega), if_neg (by omega)]
  refine hU.go ?_
  walk_at "ev"
  simp -dsimp only [dLc, diSeq]
  walk_at "ev"
  refine lc_tm (fun _ => .bl true) held_nil (by omega) (fun v hv' μ' Qy hd q => ?_) ?_
  · simp -dsimp only [wipeD]
    walk_at "ev"
    have := hv.v v hv'
    show Qy (.bl (decide (0 ≤ v ∧ v ≤ 1000000000))) μ'
    rw [decide_eq_true (by omega)]
    exact q
  · refine sAll_ty (b := fun _ => true) ?_
    rw [all_yes]
    exact ⟨_, Mu.Sub.refl _, h⟩
def sp_want_votes : DSp := fun ds μ Q => ∃ vs, ds = [encV vs] ∧ Vok vs ∧ Q .non μ
def sp_want_house : DSp := fun ds μ Q => match ds with | [.int m] => (0 ≤ m ∧ m ≤ 200) ∧ Q .non μ | _ => False
def sp_want_number : DSp := fun ds μ Q => ∃ vs n, ds = [encV vs, .int n] ∧ (Vok vs ∧ 0 ≤ n ∧ n < vs.length) ∧ Q .non μ
/-! ## prices -/
theorem post_pos {r : R} (g : GR r) {m : Int} (m0 : 1 ≤ m) (m1 : m ≤ 300) : 0 < (post r m).1 ∧ (post r m).1 < 2 ^ 200 ∧ 0 < (post r m).2 ∧ (post r m).2 < 2 ^ 64 := by
  have b := post_bd g m0 m1
  exact ⟨b.1, by omega, b.2.2.1, by omega⟩
def sp_price_at : DSp := fun ds μ Q => ∃ r v m, ds = [enc r, .int v, .int m] ∧ (GR r ∧ (0 ≤ v ∧ v ≤ 10 ^ 9) ∧ 1 ≤ m ∧ m ≤ 300) ∧ Q (fr (cost r v m)) μ
theorem len_price_at : ∀ ds μ Q, sp_price_at ds μ Q → ds.length = (["rule", "votes", "many"] : List Str).length := by
  rintro ds μ Q ⟨r, v, m, rfl, _⟩
  rfl
def db_price_at : DTS := (dSeq (dAsg (dFn sp_signpost (daCons (dVar 0) (daCons (dVar 2) daNil))) (gdName 3)) (dRet (dFn sp_lowest (daCons (dOp oTimes (dVar 1) (dOp oIx (dVar 3) (dC (.int 1)))) (daCons (dOp oIx (dVar 3) (dC (.int 0))) daNil)))))
theorem pf_price_at : ∀ ds μ Q, sp_price_at ds μ Q → db_price_at (retD Q) (startD ["rule", "votes", "many", "post"] ds) μ := by
  rintro ds μ Q ⟨r, v, m, rfl, ⟨g, hv, m0, m1⟩, h⟩
  show db_price_at (retD Q) [some (enc r), some (.int v), some (.int m), none] μ
  have b := post_pos g m0 m1
  unfold db_price_at
  refine sq fun U hU => ?_
  walk_at "ev"
  refine ⟨r, m, rfl, ⟨g.toGr0, by omega, by omega⟩, ?_⟩
  refine hU.go ?_
  simp -dsimp only [fr]
  walk_at "ev"
  exact ⟨mulL (by omega) (by omega), ⟨b.1, b.2.1⟩, _, Mu.Sub.refl _, h⟩
def sp_law_price : DSp := fun ds μ Q => ∃ r v m, ds = [enc r, .int v, .int m] ∧ (GR r ∧ (0 ≤ v ∧ v ≤ 10 ^ 9) ∧ 1 ≤ m ∧ m ≤ 300) ∧ Q (fr (cost r v m)) μ
end K40
namespace K40
open PySem PySem.Spec PyProof.Rows L2 Dl
local macro_rules | `(tactic| walk_at "ev") => `(tactic| try simp -dsimp only [↓dSeq_at, cInt2, oIs2, oNot2, dRet, dRetN, dNext, dIfS, dAsg, dDrop, dPar, dNever, dVar, dC, dOp, dUn, dTest, dChain, dAnd, dOr, dNot, dIf, dtAnd, dtOr, dtNot, dTup, daNil, daCons, dCall, dFn, dFnK, dNew, dLst, dOf,
  gdName, gdTup, gdCons, gdNil, gdSub, rdI, rdI0, oPlus, oSub, oTimes, oDiv, oMod, oPow, oLt, oLe, oGt, oGe, oIx, oEq, oNe, uNeg, oIsN, oNotN, D.isNon, cAbs, cMax, cMin, cInt, cDivmod, cLen, cIsi, tyD, items, litems, retD, sTup, mApp, dYes,
  atI_0, atI_1, atI_2, atI_3, atI_4, ixN_20, ixN_21, kit_ii, kit_ib, kit_is, kit_it, kit_il, kit_bi, kit_bb, kit_bs, kit_bt, kit_bl, kit_si, kit_sb, kit_ss, kit_st, kit_sl, kit_ti, kit_tb, kit_ts, kit_tt, kit_tl, kit_li, kit_lb, kit_ls, kit_lt, kit_ll,
  List.getElem?_cons_zero, List.getElem?_cons_succ, List.set_cons_zero, List.set_cons_succ, List.length_cons, List.length_nil, Mu.upd_same, Mu.upd_upd, Nat.zero_add, Nat.reduceAdd, Nat.reduceLeDiff, natlit, Int.reduceEq, Int.reduceLT, Int.reduceLE, Int.reduceAdd, Int.reduceSub, Int.reduceMul, Int.reducePow, Int.reduceNeg, permG2_10, permG3_210, zl_0, zl_1, zl_2, zl_3, zl_4, zl_5, zl_6, zl_7, zl_8, zl_9, zl_10, zl_11, zl_12, zl_13, zl_14, zl_15, zl_16, zl_17, zl_18, zl_19, zl_20, true_and, and_true, eq_self, not_true_eq_false, not_false_eq_true, decide_true, decide_false, if_true, Bool.false_eq_true, if_false, Bool.not_true, Bool.not_false, decide_eq_true_eq, Bool.not_eq_true', decide_eq_false_iff_not, Option.isSome, Option.map])
def ivD (vs : List Int) (a : Nat) : D := .tup [.int ((a : Nat) : Int), .int (vt vs a)]
theorem enumV (vs : List Int) : enumD (vs.map D.int) = (List.range vs.length).map (ivD vs) := by
  refine List.ext_getElem? fun i => ?_
  unfold enumD
  rw [List.getElem?_map, List.getElem?_zipIdx, List.getElem?_map, List.getElem?_map]
  by_cases h : i < vs.length
  · rw [List.getElem?_range h, List.getElem?_eq_getElem h]
    show some (D.tup [.int ((0 + i : Nat) : Int), .int vs[i]]) = some (ivD vs i)
    unfold ivD vt
    rw [Nat.zero_add, List.getD_eq_getElem?_getD, List.getElem?_eq_getElem h]
    rfl
  · rw [List.getElem?_eq_none (by omega), List.getElem?_eq_none (by rw [List.length_range]; omega)]
    rfl
def seatD (n : Nat) (s : Sf) : List D := (List.range n).map fun a => .int (s a)
theorem seat_len (n : Nat) (s : Sf) : (seatD n s).length = n := by
  unfold seatD
  rw [List.length_map, List.length_range]
theorem seat_get {n : Nat} {s : Sf} {a : Nat} (h : a < n) : (seatD n s)[a]? = some (.int (s a)) := by
  unfold seatD
  rw [List.getElem?_map, List.getElem?_range h]
  rfl
theorem seat_at {n : Nat} {s : Sf} {a : Nat} (h : a < n) : atI (seatD n s) (a : Int) = some (.int (s a)) := atI_nat (seat_get h)
def gotD (r : R) (vs : List Int) (s : Sf) (a : Nat) : D := .tup [.int ((a : Nat) : Int), fr (pr r vs s a)]
theorem eqv_pair (p q : Int × Int) : PyData.eqv (.tuple [.int p.1, .int p.2]) (.tuple [.int q.1, .int q.2]) = decide (p = q) := by
  show (p.1 == q.1 && (p.2 == q.2 && true)) = decide (p = q)
  rw [Bool.and_true]
  by_cases e : p = q
  · subst e
    rw [decide_eq_true rfl]
    simp
  · rw [decide_eq_false e]
    cases h1 : p.1 == q.1 with
    | false => rfl
    | true =>
      cases h2 : p.2 == q.2 with
      | false => rfl
      | true => exact absurd (Prod.ext (beq_iff_eq.mp h1) (beq_iff_eq.mp h2)) e
theorem fr_nev (p q : Int × Int) (μ : Mu) (Q : DK) (h : Q (.bl (!decide (p = q))) μ) : deepEq true (fr p) (fr q) μ Q := by
  refine ⟨.tuple [.int p.1, .int p.2], .tuple [.int q.1, .int q.2], ?_, ?_, rfl, rfl, ?_⟩
  · exact .tup (.cons (.int _) (.cons (.int _) .nil))
  · exact .tup (.cons (.int _) (.cons (.int _) .nil))
  · rw [if_pos rfl, eqv_pair]
    exact h
theorem fr_eqv (p q : Int × Int) (μ : Mu) (Q : DK) (h : Q (.bl (decide (p = q))) μ) : deepEq false (fr p) (fr q) μ Q := by
  refine ⟨.tuple [.int p.1, .int p.2], .tuple [.int q.1, .int q.2], ?_, ?_, rfl, rfl, ?_⟩
  · exact .tup (.cons (.int _) (.cons (.int _) .nil))
  · exact .tup (.cons (.int _) (.cons (.int _) .nil))
  · rw [if_neg (by decide), eqv_pair]
    exact h
def sp_next_step : DSp := fun ds μ Q => ∃ r vs x s h, ds = [enc r, encV vs, x] ∧ ((∃ k, x = .cell k ∧ μ k = some (seatD vs.length s)) ∨ x = .tup (seatD vs.length s)) ∧ (GR r ∧ Vok vs ∧ Sok vs h s) ∧ Q (if act vs = [] then .non else stepD r vs s) μ
end K40
namespace K40
open PySem PySem.Spec PyProof.Rows L2 Dl
local macro_rules | `(tactic| walk_at "ev") => `(tactic| try simp -dsimp only [↓dSeq_at, cInt2, oIs2, oNot2, dPar3, dRet, dRetN, dNext, dIfS, dAsg, dDrop, dPar, dNever, dVar, dC, dOp, dUn, dTest, dChain, dAnd, dOr, dNot, dIf, dtAnd, dtOr, dtNot, dTup, daNil, daCons, dCall, dFn, dFnK, dNew, dLst, dOf,
  gdName, gdTup, gdCons, gdNil, gdSub, rdI, rdI0, oPlus, oSub, oTimes, oDiv, oMod, oPow, oLt, oLe, oGt, oGe, oIx, oEq, oNe, uNeg, oIsN, oNotN, D.isNon, cAbs, cMax, cMin, cInt, cDivmod, cLen, cIsi, tyD, items, litems, retD, sTup, mApp, dYes,
  atI_0, atI_1, atI_2, atI_3, atI_4, ixN_20, ixN_21, kit_ii, kit_ib, kit_is, kit_it, kit_il, kit_bi, kit_bb, kit_bs, kit_bt, kit_bl, kit_si, kit_sb, kit_ss, kit_st, kit_sl, kit_ti, kit_tb, kit_ts, kit_tt, kit_tl, kit_li, kit_lb, kit_ls, kit_lt, kit_ll,
  List.getElem?_cons_zero, List.getElem?_cons_succ, List.set_cons_zero, List.set_cons_succ, List.length_cons, List.length_nil, Mu.upd_same, Mu.upd_upd, Nat.zero_add, Nat.reduceAdd, Nat.reduceLeDiff, natlit, Int.reduceEq, Int.reduceLT, Int.reduceLE, Int.reduceAdd, Int.reduceSub, Int.reduceMul, Int.reducePow, Int.reduceNeg, permG2_10, permG3_210, zl_0, zl_1, zl_2, zl_3, zl_4, zl_5, zl_6, zl_7, zl_8, zl_9, zl_10, zl_11, zl_12, zl_13, zl_14, zl_15, zl_16, zl_17, zl_18, zl_19, zl_20, true_and, and_true, eq_self, not_true_eq_false, not_false_eq_true, decide_true, decide_false, if_true, Bool.false_eq_true, if_false, Bool.not_true, Bool.not_false, decide_eq_true_eq, Bool.not_eq_true', decide_eq_false_iff_not, Option.isSome, Option.map])
theorem ask_next {r : R} {vs : List Int} {k : Nat} {s : Sf} {h : Int} {μ : Mu} {Q : DK} (hk : μ k = some (seatD vs.length s)) (g : GR r) (hv : Vok vs) (hs : Sok vs h s) (q : Q (if act vs = [] then .non else stepD r vs s) μ) :
    sp_next_step [enc r, .tup (vs.map D.int), .cell k] μ Q := ⟨r, vs, _, s, h, rfl, .inl ⟨k, rfl, hk⟩, ⟨g, hv, hs⟩, q⟩
theorem seat_sum (n : Nat) (s : Sf) : ∃ ns : List Int, seatD n s = ns.map D.int ∧ ns.sum = ((List.range n).map s).sum := ⟨(List.range n).map s, by unfold seatD; rw [List.map_map]; rfl, rfl⟩
theorem tot_ge {r : R} {vs : List Int} {h : Int} (g : GR r) (hv : Vok vs) (h2 : h ≤ 200) : ∀ j, (∀ i, i < j → act vs ≠ [] ∧ tot vs (S r vs i) < h) → (j : Int) ≤ tot vs (S r vs j)
  | 0, _ => by rw [tot_0]; decide
  | j + 1, q => by
    have ih := tot_ge g hv h2 j fun i hi => q i (by omega)
    have a := q j (by omega)
    have l := lot_pos g hv (S_ok (by omega) a.2) a.1
    have t := tot_give r vs (S r vs j)
    show ((j + 1 : Nat) : Int) ≤ tot vs (give r vs (S r vs j))
    omega
def part (s : Sf) (l : List Nat) : Sf := fun a => if a ∈ l then s a + 1 else s a
theorem part_nil (s : Sf) : part s [] = s := by
  funext a
  unfold part
  rw [if_neg (by simp)]
theorem lot_nodup (r : R) (vs : List Int) (s : Sf) : (lot r vs s).Nodup := by
  unfold lot act
  exact (List.nodup_range.filter _).filter _
theorem lot_lt {r : R} {vs : List Int} {s : Sf} {a : Nat} (h : a ∈ lot r vs s) : a < vs.length ∧ isl r vs s a = true := by
  rw [lot_eq] at h
  have := List.mem_filter.mp h
  exact ⟨List.mem_range.mp this.1, this.2⟩
theorem part_all (r : R) (vs : List Int) (s : Sf) : seatD vs.length (part s (lot r vs s)) = seatD vs.length (give r vs s) := by
  unfold seatD
  refine List.map_congr_left fun a ha => ?_
  have ha := List.mem_range.mp ha
  unfold part give
  by_cases e : isl r vs s a = true
  · rw [if_pos e, if_pos (by rw [lot_eq]; exact List.mem_filter.mpr ⟨List.mem_range.mpr ha, e⟩)]
  · rw [if_neg e, if_neg fun z => e (lot_lt z).2]
theorem part_step {n : Nat} {s : Sf} {l : List Nat} {i a : Nat} (nd : l.Nodup) (h : l[i]? = some a) (ha : a < n) : part s (l.take i) a = s a ∧ (seatD n (part s (l.take i))).set a (.int (s a + 1)) = seatD n (part s (l.take (i + 1))) := by
  have et : l.take (i + 1) = l.take i ++ [a] := by rw [List.take_add_one, h]; rfl
  have no : a ∉ l.take i := by
    intro z
    have nd2 : (l.take (i + 1)).Nodup := nd.sublist (List.take_sublist _ _)
    rw [et] at nd2
    exact (List.nodup_append.mp nd2).2.2 a z a (List.mem_cons_self ..) rfl
  refine ⟨if_neg no, ?_⟩
  refine List.ext_getElem? fun j => ?_
  rw [List.getElem?_set]
  by_cases hj : j < n
  · rw [seat_get hj]
    by_cases e : a = j
    · subst e
      rw [if_pos rfl, if_pos (by rw [seat_len]; exact ha)]
      rw [seat_get ha]
      unfold part
      rw [et, if_pos (by simp)]
    · rw [if_neg e, seat_get hj]
      unfold part
      rw [et]
      by_cases m : j ∈ l.take i
      · rw [if_pos m, if_pos (List.mem_append_left _ m)]
      · rw [if_neg m, if_neg]
        intro z
        rcases List.mem_append.mp z with z | z
        · exact m z
        · cases z with
          | head => exact e rfl
          | tail _ z => cases z
  · rw [List.getElem?_eq_none (by rw [seat_len]; omega), List.getElem?_eq_none (by rw [seat_len]; omega), if_neg (show ¬ a = j by omega)]
def sp_steps_to : DSp := fun ds μ Q => ∃ r vs h, ds = [enc r, encV vs, .int h] ∧ (GR r ∧ Vok vs ∧ 0 ≤ h ∧ h ≤ 200) ∧ ∀ J, Ends r vs h J → ∀ k1 k2 μ', Mu.Sub μ μ' → μ k1 = none → μ' k1 = some (rowS r vs J) → μ' k2 = some (seatD vs.length (S r vs (J - 1))) → Q (.tup [.cell k1, .cell k2]) μ'
def rounds (f : Nat) (μ : Mu) : Nat := match μ f with
  | some xs => 300 - xs.length
  | none => 0
structure Wl (r : R) (vs : List Int) (h : Int) (μ : Mu) (f t j w : Nat) (ν : Mu) : Prop where
  ah : ν w = some (seatD vs.length (S r vs (j - 1)))
  wt : w ≠ t
  wf : w ≠ f
  sb : Mu.Sub μ ν
  fo : ν f = some (rowS r vs j)
  se : ν t = some (seatD vs.length (S r vs j))
  lo : ∀ i, i < j → act vs ≠ [] ∧ tot vs (S r vs i) < h
theorem zeros (n : Nat) : (List.replicate n [D.int 0]).flatten = seatD n fun _ => 0 := by
  unfold seatD
  induction n with
  | zero => rfl
  | succ n ih =>
    rw [List.replicate_succ', List.flatten_append, ih, List.range_succ, List.map_append]
    rfl
theorem none_of {μ ν : Mu} {t : Nat} (h : Mu.Sub μ ν) (n : ν t = none) : μ t = none := by
  cases e : μ t with
  | none => rfl
  | some xs =>
    rw [h t xs e] at n
    cases n
theorem _root_.Dl.Mu.Sub.put {μ ν : Mu} {t : Nat} {xs : List D} (h : Mu.Sub μ ν) (n : μ t = none) : Mu.Sub μ (ν.upd t xs) := fun j ys e => by
  rw [Mu.upd_ne (Mu.ne_of e n)]
  exact h j ys e
end K40
namespace K40
open PySem PySem.Spec PyProof.Rows L2 Dl
local macro_rules | `(tactic| walk_at "ev") => `(tactic| try simp -dsimp only [↓dSeq_at, cInt2, oIs2, oNot2, dRet, dRetN, dNext, dIfS, dAsg, dDrop, dPar, dNever, dVar, dC, dOp, dUn, dTest, dChain, dAnd, dOr, dNot, dIf, dtAnd, dtOr, dtNot, dTup, daNil, daCons, dCall, dFn, dFnK, dNew, dLst, dOf,
  gdName, gdTup, gdCons, gdNil, gdSub, rdI, rdI0, oPlus, oSub, oTimes, oDiv, oMod, oPow, oLt, oLe, oGt, oGe, oIx, oEq, oNe, uNeg, oIsN, oNotN, D.isNon, cAbs, cMax, cMin, cInt, cDivmod, cLen, cIsi, tyD, items, litems, retD, sTup, mApp, dYes,
  atI_0, atI_1, atI_2, atI_3, atI_4, ixN_20, ixN_21, kit_ii, kit_ib, kit_is, kit_it, kit_il, kit_bi, kit_bb, kit_bs, kit_bt, kit_bl, kit_si, kit_sb, kit_ss, kit_st, kit_sl, kit_ti, kit_tb, kit_ts, kit_tt, kit_tl, kit_li, kit_lb, kit_ls, kit_lt, kit_ll,
  List.getElem?_cons_zero, List.getElem?_cons_succ, List.set_cons_zero, List.set_cons_succ, List.length_cons, List.length_nil, Mu.upd_same, Mu.upd_upd, Nat.zero_add, Nat.reduceAdd, Nat.reduceLeDiff, natlit, Int.reduceEq, Int.reduceLT, Int.reduceLE, Int.reduceAdd, Int.reduceSub, Int.reduceMul, Int.reducePow, Int.reduceNeg, permG2_10, permG3_210, zl_0, zl_1, zl_2, zl_3, zl_4, zl_5, zl_6, zl_7, zl_8, zl_9, zl_10, zl_11, zl_12, zl_13, zl_14, zl_15, zl_16, zl_17, zl_18, zl_19, zl_20, true_and, and_true, eq_self, not_true_eq_false, not_false_eq_true, decide_true, decide_false, if_true, Bool.false_eq_true, if_false, Bool.not_true, Bool.not_false, decide_eq_true_eq, Bool.not_eq_true', decide_eq_false_iff_not, Option.isSome, Option.map])
/-- what is kept while the law runs: the pot stands somewhere, all else of the caller's is as it was -/
def Good (μ : Mu) (c : Nat) (ν : Mu) : Prop := ∃ a b : Int, PB a b ∧ Mu.Sub (μ.upd c [.int a, .int b]) ν
theorem Good.pot {μ ν : Mu} {c : Nat} (h : Good μ c ν) : Pot ν c := by
  obtain ⟨a, b, h1, h2⟩ := h
  exact ⟨a, b, h2 _ _ Mu.upd_same, h1⟩
theorem Good.sub {μ ν ν' : Mu} {c : Nat} (h : Good μ c ν) (n : Mu.Sub ν ν') : Good μ c ν' := by
  obtain ⟨a, b, h1, h2⟩ := h
  exact ⟨a, b, h1, h2.trans n⟩
theorem Good.new {μ ν : Mu} {c k : Nat} {xs : List D} (h : Good μ c ν) (n : ν k = none) : Good μ c (ν.upd k xs) := h.sub (Mu.sub_upd n)
theorem Good.turn {μ ν : Mu} {c : Nat} {a b : Int} (h : Good μ c ν) (hp : PB a b) : Good μ c (ν.upd c [.int a, .int b]) := by
  obtain ⟨a1, b1, h1, h2⟩ := h
  refine ⟨a, b, hp, ?_⟩
  have := h2.upd c [.int a, .int b]
  rw [Mu.upd_upd] at this
  exact this
theorem Good.start {μ : Mu} {c : Nat} (h : Pot μ c) : Good μ c μ := by
  obtain ⟨a, b, h1, h2⟩ := h
  refine ⟨a, b, h2, fun j ys e => ?_⟩
  by_cases z : j = c
  · subst z
    rw [Mu.upd_same] at e
    cases e
    exact h1
  · rw [Mu.upd_ne z] at e
    exact e
theorem upd_comm {μ : Mu} {j k : Nat} {xs ys : List D} (h : j ≠ k) : (μ.upd j xs).upd k ys = (μ.upd k ys).upd j xs := by
  funext i
  by_cases a : i = k
  · subst a
    rw [Mu.upd_same, Mu.upd_ne h.symm, Mu.upd_same]
  · rw [Mu.upd_ne a]
    by_cases b : i = j
    · subst b
      rw [Mu.upd_same, Mu.upd_same]
    · rw [Mu.upd_ne b, Mu.upd_ne b, Mu.upd_ne a]
theorem lc_pot {its : List D} {g : DTG} {de : DTE} {ρ : Rho} {Q : List D → Mu → Prop} {μ : Mu} {c : Nat} (P : D → Prop) (hp : Pot μ c) (hl : its.length ≤ 1000)
    (hb : ∀ x, x ∈ its → ∀ μ' (Qy : DK), Pot μ' c → (∀ y a b μ4, P y → PB a b → Mu.Sub (μ'.upd c [.int a, .int b]) μ4 → Qy y μ4) → g x ρ μ' fun ρ2 μ2 => de ρ2 μ2 Qy)
    (hq : ∀ xs : List D, xs.length = its.length → (∀ y ∈ xs, P y) → Turn c μ fun μ' => Q xs μ') : lcIn ⟨its, []⟩ g dYes de ρ Q μ := by
  intro k hk
  obtain ⟨a0, b0, hc, hpb⟩ := hp
  have ck : c ≠ k := Mu.ne_of hc hk
  refine ⟨fun i μ' => ∃ a b xs, PB a b ∧ xs.length = i ∧ (∀ y ∈ xs, P y) ∧ Mu.Sub ((μ.upd c [.int a, .int b]).upd k xs) μ', ⟨a0, b0, [], hpb, rfl, (fun _ hy => nomatch hy), ?_⟩, fun i x μ' hi w => ⟨held_nil, ?_⟩, fun μ' w => ⟨held_nil, ?_⟩⟩
  · rw [upd_comm ck]
    refine fun j ys e => ?_
    by_cases z : j = c
    · subst z
      rw [Mu.upd_same] at e
      cases e
      exact (Mu.upd_ne ck).trans hc
    · rw [Mu.upd_ne z] at e
      exact e
  · obtain ⟨a, b, xs, pb, len, all, sb⟩ := w
    have hi : its[i]? = some x := hi
    have li := (List.getElem?_eq_some_iff.mp hi).1
    have pot : Pot μ' c := ⟨a, b, sb _ _ ((Mu.upd_ne ck).trans Mu.upd_same), pb⟩
    refine hb x (List.mem_of_getElem? hi) μ' _ pot fun y a2 b2 μ4 hy pb2 s4 => ?_
    have s5 := (sb.upd c [.int a2, .int b2]).trans s4
    rw [← upd_comm ck, Mu.upd_upd] at s5
    refine ⟨xs, s5 _ _ Mu.upd_same, sz_lt (by omega), a2, b2, xs ++ [y], pb2, by rw [List.length_append, len]; rfl, fun z hz => ?_, ?_⟩
    · rcases List.mem_append.mp hz with hz | hz
      · exact all z hz
      · cases hz with
        | head => exact hy
        | tail _ hz => cases hz
    · have := s5.upd k (xs ++ [y])
      rw [Mu.upd_upd] at this
      exact this
  · obtain ⟨a, b, xs, pb, len, all, sb⟩ := w
    exact ⟨xs, μ.upd c [.int a, .int b], sb _ _ Mu.upd_same, (Mu.upd_ne ck.symm).trans hk, sb, hq xs len all a b pb⟩
def Vt (y : D) : Prop := ∃ v : Int, y = .int v ∧ 0 ≤ v ∧ v ≤ 10 ^ 9
theorem vts : ∀ (xs : List D), (∀ y ∈ xs, Vt y) → ∃ vs : List Int, xs = vs.map D.int ∧ ∀ v ∈ vs, 0 ≤ v ∧ v ≤ 10 ^ 9
  | [], _ => ⟨[], rfl, (fun _ h => nomatch h)⟩
  | y :: xs, h => by
    obtain ⟨v, rfl, hv⟩ := h y (List.mem_cons_self ..)
    obtain ⟨vs, rfl, hs⟩ := vts xs fun z hz => h z (List.mem_cons_of_mem _ hz)
    refine ⟨v :: vs, rfl, fun w hw => ?_⟩
    cases hw with
    | head => exact hv
    | tail _ hw => exact hs w hw
theorem vok_of {vs : List Int} {n : Nat} (h : ∀ v ∈ vs, 0 ≤ v ∧ v ≤ 10 ^ 9) (hn : vs.length = n) (h0 : 1 ≤ n) (h1 : n ≤ 12) : Vok vs := ⟨⟨by omega, by omega⟩, h⟩
def sp_law_votes : DSp := fun ds μ Q => ∃ c n, ds = [.cell c, .int n, .bl true] ∧ (Pot μ c ∧ 1 ≤ n ∧ n ≤ 12) ∧ ∀ vs, Vok vs → (vs.length : Int) = n → Turn c μ fun μ' => Q (encV vs) μ'
theorem turn_turn {c : Nat} {μ : Mu} {a b : Int} {P : Mu → Prop} (h : Turn c μ P) : Turn c (μ.upd c [.int a, .int b]) P := by
  intro a2 b2 hp
  rw [Mu.upd_upd]
  exact h a2 b2 hp
def sp_law_drawn : DSp := fun ds μ Q => ∃ c, ds = [.cell c] ∧ Pot μ c ∧ ∀ vs, Vok vs → Turn c μ fun μ' => Q (encV vs) μ'
end K40
namespace K40
open PySem PySem.Spec PyProof.Rows L2 Dl
local macro_rules | `(tactic| walk_at "ev") => `(tactic| try simp -dsimp only [↓dSeq_at, cInt2, oIs2, oNot2, dRet, dRetN, dNext, dIfS, dAsg, dDrop, dPar, dNever, dVar, dC, dOp, dUn, dTest, dChain, dAnd, dOr, dNot, dIf, dtAnd, dtOr, dtNot, dTup, daNil, daCons, dCall, dFn, dFnK, dNew, dLst, dOf,
  gdName, gdTup, gdCons, gdNil, gdSub, rdI, rdI0, oPlus, oSub, oTimes, oDiv, oMod, oPow, oLt, oLe, oGt, oGe, oIx, oEq, oNe, uNeg, oIsN, oNotN, D.isNon, cAbs, cMax, cMin, cInt, cDivmod, cLen, cIsi, tyD, items, litems, retD, sTup, mApp, dYes,
  atI_0, atI_1, atI_2, atI_3, atI_4, ixN_20, ixN_21, kit_ii, kit_ib, kit_is, kit_it, kit_il, kit_bi, kit_bb, kit_bs, kit_bt, kit_bl, kit_si, kit_sb, kit_ss, kit_st, kit_sl, kit_ti, kit_tb, kit_ts, kit_tt, kit_tl, kit_li, kit_lb, kit_ls, kit_lt, kit_ll,
  List.getElem?_cons_zero, List.getElem?_cons_succ, List.set_cons_zero, List.set_cons_succ, List.length_cons, List.length_nil, Mu.upd_same, Mu.upd_upd, Nat.zero_add, Nat.reduceAdd, Nat.reduceLeDiff, natlit, Int.reduceEq, Int.reduceLT, Int.reduceLE, Int.reduceAdd, Int.reduceSub, Int.reduceMul, Int.reducePow, Int.reduceNeg, permG2_10, permG3_210, zl_0, zl_1, zl_2, zl_3, zl_4, zl_5, zl_6, zl_7, zl_8, zl_9, zl_10, zl_11, zl_12, zl_13, zl_14, zl_15, zl_16, zl_17, zl_18, zl_19, zl_20, true_and, and_true, eq_self, not_true_eq_false, not_false_eq_true, decide_true, decide_false, if_true, Bool.false_eq_true, if_false, Bool.not_true, Bool.not_false, decide_eq_true_eq, Bool.not_eq_true', decide_eq_false_iff_not, Option.isSome, Option.map])
def pyfr (p : Int × Int) : PyData := .tuple [.int p.1, .int p.2]
theorem rp_fr {μ : Mu} {p : Int × Int} (h1 : p.1.natAbs < 10 ^ 22) (h2 : p.2.natAbs < 10 ^ 22) : RpOk μ (fr p) (pyfr p) 2 1 := (RpOk.tup (.cons (.int h1) (.cons (.int h2) .nil))).mono (by decide) (by decide)
def pyR (r : R) : PyData := .tuple [.str "rule", .tuple (r.fs.map pyfr), .int r.top, .int r.bot]
theorem rp_enc {μ : Mu} {r : R} (g : GR r) : RpOk μ (enc r) (pyR r) 100 3 := by
  have hb := g.bot
  have ht := g.top
  have hl := g.len
  have h := RpAll.map (μ := μ) (f := fr) (g := pyfr) (c := 2) (dep := 1) (xs := r.fs) fun p hp => by
    have := g.fsok p hp
    exact rp_fr (by omega) (by omega)
  refine (RpOk.tup (.cons (RpOk.str (x := "rule") (by decide)) (.cons (RpOk.tup h) (.cons (.int (by omega)) (.cons (.int (by omega)) .nil))))).mono ?_ (by omega)
  have e : (("rule" : Str).cps.size) = 4 := by decide
  omega
def pyV (vs : List Int) : PyData := .tuple (vs.map PyData.int)
theorem rp_votes {μ : Mu} {vs : List Int} (hv : Vok vs) : RpOk μ (.tup (vs.map D.int)) (pyV vs) 20 1 := by
  have h := RpAll.map (μ := μ) (f := D.int) (g := PyData.int) (c := 0) (dep := 0) (xs := vs) fun v hvv => by
    have := hv.v v hvv
    exact .int (by omega)
  have := hv.len
  exact (RpOk.tup h).mono (by omega) (by omega)
def pyS (r : R) (vs : List Int) (s : Sf) : PyData := .tuple [pyfr (best r vs s), .tuple ((lot r vs s).map fun a => PyData.int ((a : Nat) : Int))]
theorem lot_len {r : R} {vs : List Int} {s : Sf} (hv : Vok vs) : (lot r vs s).length ≤ 12 := by
  have a := List.length_filter_le (fun a => decide (pr r vs s a = best r vs s)) (act vs)
  have b := List.length_filter_le (fun a => decide (0 < vt vs a)) (List.range vs.length)
  rw [List.length_range] at b
  have := hv.len
  unfold lot
  have c : (act vs).length ≤ vs.length := b
  omega
theorem rp_step {μ : Mu} {r : R} {vs : List Int} {s : Sf} {h : Int} (g : GR r) (hv : Vok vs) (hs : Sok vs h s) (ha : act vs ≠ []) : RpOk μ (stepD r vs s) (pyS r vs s) 16 2 := by
  have b := (best_max g hv hs ha).2
  have b1 := b.p1
  have b2 := b.p2
  have l := lot_len (r := r) (s := s) hv
  have hl := hv.len
  have h2 := RpAll.map (μ := μ) (f := fun a => D.int ((a : Nat) : Int)) (g := fun a => PyData.int ((a : Nat) : Int)) (c := 0) (dep := 0) (xs := lot r vs s) fun a ha => by
    have := (lot_lt ha).1
    exact .int (by omega)
  exact (RpOk.tup (.cons (rp_fr (by omega) (by omega)) (.cons (RpOk.tup h2) .nil))).mono (by omega) (by omega)
theorem Ends.le {r : R} {vs : List Int} {h : Int} {J : Nat} (g : GR r) (hv : Vok vs) (h0 : 0 ≤ h) (h1 : h ≤ 200) (e : Ends r vs h J) : (J : Int) ≤ h := by
  rcases Nat.eq_zero_or_pos J with z | z
  · omega
  · have a := e.low (J - 1) (by omega)
    have b := tot_ge g hv h1 (J - 1) fun i hi => e.low i (by omega)
    omega
theorem rp_row {μ : Mu} {r : R} {vs : List Int} {h : Int} {J : Nat} (g : GR r) (hv : Vok vs) (h0 : 0 ≤ h) (h1 : h ≤ 200) (e : Ends r vs h J) : RpAll μ (rowS r vs J) ((List.range J).map fun j => pyS r vs (S r vs j)) 3400 2 := by
  have j := e.le g hv h0 h1
  have h := RpAll.map (μ := μ) (f := fun j => stepD r vs (S r vs j)) (g := fun j => pyS r vs (S r vs j)) (c := 16) (dep := 2) (xs := List.range J) fun i hi => by
    have l := e.low i (List.mem_range.mp hi)
    exact rp_step g hv (S_ok (by omega) l.2) l.1
  refine ⟨h.rs, h.sh, h.nd, h.ls, Nat.le_trans h.bk ?_, h.dp⟩
  rw [List.length_range]
  omega
theorem rp_cost {μ : Mu} {r : R} (g : GR r) {v m : Int} (hv : 0 ≤ v ∧ v ≤ 10 ^ 9) (m0 : 1 ≤ m) (m1 : m ≤ 300) : RpOk μ (fr (cost r v m)) (pyfr (cost r v m)) 2 1 := by
  have b := post_bd g m0 m1
  have s := low_sz (t := v * (post r m).2) b.1
  have u : 0 ≤ v * (post r m).2 := Int.mul_nonneg hv.1 (by omega)
  have d : v * (post r m).2 ≤ 10 ^ 9 * 999 := mul_le_of (by omega) (by omega) hv.2 b.2.2.2
  exact rp_fr (by show (low _ _).1.natAbs < _; omega) (by show (low _ _).2.natAbs < _; omega)
/-! ## one list alone -/
section
variable {r : R} {v : Int} (hv : 0 < v)
include hv
theorem al_act : act [0, v, 0] = [1] := by
  show (List.range 3).filter _ = _
  simp [List.range, List.range.loop, vt, hv]
theorem al_best (s : Sf) : best r [0, v, 0] s = cost r v (s 1 + 1) := by
  unfold best
  rw [al_act hv]
  show up _ _ = _
  rcases up_or (b := pr r [0, v, 0] s 1) (x := pr r [0, v, 0] s 1) with e | e <;> exact e
theorem al_lot (s : Sf) : lot r [0, v, 0] s = [1] := by
  unfold lot
  rw [al_act hv, List.filter_cons, if_pos (decide_eq_true (by rw [al_best hv]; rfl))]
  rfl
theorem al_S : ∀ j : Nat, S r [0, v, 0] j = fun a => if a = 1 then (j : Int) else 0
  | 0 => by
    funext a
    show (0 : Int) = _
    split <;> rfl
  | j + 1 => by
    have ih := al_S j
    funext a
    show give r [0, v, 0] (S r [0, v, 0] j) a = _
    unfold give isl
    have z : ¬ a = 1 → vt [0, v, 0] a = 0 := by
      intro e
      unfold vt
      match a, e with
      | 0, _ => rfl
      | 1, e => exact absurd rfl e
      | 2, _ => rfl
      | a + 3, _ => rfl
    rw [al_best hv, ih]
    by_cases e : a = 1
    · subst e
      rw [if_pos rfl, if_pos (by show (decide (0 < v) && decide (_ = _)) = true; rw [decide_eq_true hv]; exact decide_eq_true rfl)]
      show (if (1 : Nat) = 1 then (j : Int) else 0) + 1 = ((j + 1 : Nat) : Int)
      rw [if_pos rfl]
      omega
    · rw [if_neg e]
      refine (if_neg ?_).trans (if_neg e)
      rw [z e]
      exact Bool.false_ne_true
theorem al_tot (j : Nat) : tot [0, v, 0] (S r [0, v, 0] j) = (j : Int) := by
  rw [al_S hv]
  show ((List.range 3).map _).sum = _
  simp [List.range, List.range.loop]
def lateD (r : R) (v m : Int) : D := .tup [fr (cost r v m), .tup [.int 1]]
theorem al_row (J : Nat) : rowS r [0, v, 0] J = (il 1 (J + 1)).map (lateD r v) := by
  unfold rowS il
  rw [List.map_map, show ((J : Int) + 1 - 1).toNat = J by omega]
  refine List.map_congr_left fun j _ => ?_
  show stepD r [0, v, 0] (S r [0, v, 0] j) = lateD r v (1 + (j : Nat))
  unfold stepD lateD
  rw [al_best hv, al_lot hv, al_S hv]
  show D.tup [fr (cost r v ((j : Int) + 1)), _] = _
  rw [Int.add_comm]
  rfl
theorem al_ends {h : Int} {J : Nat} (h0 : 0 ≤ h) (e : Ends r [0, v, 0] h J) : (J : Int) = h := by
  have t := e.top
  rw [al_act hv, al_tot hv] at t
  rcases t with t | t
  · exact absurd t (by simp)
  · rcases Nat.eq_zero_or_pos J with z | z
    · omega
    · have a := (e.low (J - 1) (by omega)).2
      rw [al_tot hv] at a
      omega
end
def pyLate (r : R) (v m : Int) : PyData := .tuple [pyfr (cost r v m), .tuple [.int 1]]
theorem eq_late {μ : Mu} (r : R) (v m : Int) : EqOk μ (lateD r v m) (pyLate r v m) 2 :=
  .tup (.cons (.tup (.cons (.int _) (.cons (.int _) .nil))) (.cons (.tup (.cons (.int _) .emp)) .emp))
theorem vok_alone {v : Int} (h0 : 0 ≤ v) (h1 : v ≤ 10 ^ 9) : Vok [0, v, 0] := ⟨⟨by show 1 ≤ 3; decide, by show 3 ≤ 12; decide⟩, fun x hx => by
  simp only [List.mem_cons, List.not_mem_nil, or_false] at hx
  omega⟩
end K40
namespace K40
open PySem PySem.Spec PyProof.Rows L2 Dl
structure Deal (vs : List Int) (h : Int) (a : List Int) : Prop where
  len : a.length = vs.length
  nn : ∀ x ∈ a, 0 ≤ x
  sum : a.sum = h
def su (n : Nat) (f : Nat → Int) : Int := ((List.range n).map f).sum
theorem su_succ (n : Nat) (f : Nat → Int) : su (n + 1) f = su n f + f n := by
  unfold su
  rw [List.range_succ, List.map_append, List.sum_append, List.map_cons, List.map_nil, List.sum_cons]
  exact congrArg _ (Int.add_zero _)
theorem su_congr {f g : Nat → Int} : ∀ n, (∀ i, i < n → f i = g i) → su n f = su n g
  | 0, _ => rfl
  | n + 1, h => by rw [su_succ, su_succ, su_congr n fun i hi => h i (by omega), h n (by omega)]
theorem su_add (f g : Nat → Int) : ∀ n, su n (fun i => f i + g i) = su n f + su n g
  | 0 => rfl
  | n + 1 => by
    rw [su_succ, su_succ, su_succ, su_add f g n]
    omega
theorem su_sub (f g : Nat → Int) : ∀ n, su n (fun i => f i - g i) = su n f - su n g
  | 0 => rfl
  | n + 1 => by
    rw [su_succ, su_succ, su_succ, su_sub f g n]
    omega
theorem su_mul (f : Nat → Int) (c : Int) : ∀ n, su n (fun i => f i * c) = su n f * c
  | 0 => (Int.zero_mul c).symm
  | n + 1 => by rw [su_succ, su_succ, su_mul f c n, Int.add_mul]
theorem su_le {f g : Nat → Int} : ∀ n, (∀ i, i < n → f i ≤ g i) → su n f ≤ su n g
  | 0, _ => Int.le_refl _
  | n + 1, h => by
    rw [su_succ, su_succ]
    have a := su_le n fun i hi => h i (by omega)
    have b := h n (by omega)
    omega
theorem su_zero : ∀ n, su n (fun _ => 0) = 0
  | 0 => rfl
  | n + 1 => by rw [su_succ, su_zero n]; rfl
theorem su_nn {f : Nat → Int} {n : Nat} (h : ∀ i, i < n → 0 ≤ f i) : 0 ≤ su n f := by
  rw [← su_zero n]
  exact su_le n h
/-- nonneg with sum 0: all are 0 -/
theorem su_all0 {f : Nat → Int} : ∀ n, (∀ i, i < n → 0 ≤ f i) → su n f = 0 → ∀ i, i < n → f i = 0
  | 0, _, _, i, hi => by omega
  | n + 1, h, e, i, hi => by
    rw [su_succ] at e
    have a := su_nn (n := n) fun i hi => h i (by omega)
    have b := h n (by omega)
    by_cases z : i = n
    · subst z
      omega
    · exact su_all0 n (fun i hi => h i (by omega)) (by omega) i (by omega)
/-- sum 0 or more: one is not below 0 -/
theorem su_some_nn {f : Nat → Int} {n : Nat} (hn : 0 < n) (e : 0 ≤ su n f) : ∃ i, i < n ∧ 0 ≤ f i := by
  refine Classical.byContradiction fun z => ?_
  have h : ∀ i, i < n → f i ≤ -1 := fun i hi => Classical.byContradiction fun y => z ⟨i, hi, by omega⟩
  have a := su_le (g := fun _ => -1) n h
  have b : ∀ n : Nat, su n (fun _ => (-1 : Int)) = -(n : Int) := fun n => by
    induction n with
    | zero => rfl
    | succ n ih => rw [su_succ, ih]; omega
  rw [b] at a
  omega
theorem su_some_neg {f : Nat → Int} {n i : Nat} (hi : i < n) (hp : 0 < f i) (e : su n f = 0) : ∃ j, j < n ∧ f j < 0 := by
  refine Classical.byContradiction fun z => ?_
  have h : ∀ j, j < n → 0 ≤ f j := fun j hj => Classical.byContradiction fun y => z ⟨j, hj, by omega⟩
  have := su_all0 n h e i hi
  omega
def gt (l : List Int) (i : Nat) : Int := l.getD i 0
theorem gt_get {l : List Int} {i : Nat} (h : i < l.length) : l[i]? = some (gt l i) := by
  unfold gt
  rw [List.getD_eq_getElem?_getD, List.getElem?_eq_getElem h]
  rfl
theorem list_gt (l : List Int) : l = (List.range l.length).map (gt l) := by
  refine List.ext_getElem? fun i => ?_
  rw [List.getElem?_map]
  by_cases h : i < l.length
  · rw [List.getElem?_range h, gt_get h]
    rfl
  · rw [List.getElem?_eq_none (by omega), List.getElem?_eq_none (by rw [List.length_range]; omega)]
    rfl
theorem sum_gt (l : List Int) : l.sum = su l.length (gt l) := by
  unfold su
  rw [← list_gt]
theorem zip_gt {l m : List Int} (h : m.length = l.length) : l.zip m = (List.range l.length).map fun i => (gt l i, gt m i) := by
  refine List.ext_getElem? fun i => ?_
  rw [List.getElem?_map]
  by_cases hi : i < l.length
  · rw [List.getElem?_range hi]
    exact List.getElem?_zip_eq_some.mpr ⟨gt_get hi, gt_get (by omega)⟩
  · rw [List.getElem?_eq_none (by rw [List.length_zip]; omega), List.getElem?_eq_none (by rw [List.length_range]; omega)]
    rfl
/-! ## what seats lack -/
def Srt (out : List (List Int)) : Prop := out.Pairwise (fun x y => HT.lexLt y x = false)
theorem lex_antis : ∀ x y : List Int, HT.lexLt y x = false → HT.lexLt x y = false → x = y
  | [], [], _, _ => rfl
  | [], b :: y, _, h => by cases h
  | a :: x, [], h, _ => by cases h
  | a :: x, b :: y, h1, h2 => by
    rw [HT.lexLt_cons] at h1 h2
    by_cases e : a = b
    · subst e
      rw [if_pos rfl] at h1 h2
      rw [lex_antis x y h1 h2]
    · rw [if_neg (fun z => e z.symm), decide_eq_false_iff_not] at h1
      rw [if_neg e, decide_eq_false_iff_not] at h2
      omega
theorem lex_asym : ∀ x y : List Int, HT.lexLt x y = true → HT.lexLt y x = false
  | [], [], h => by cases h
  | [], b :: y, _ => rfl
  | a :: x, [], h => by cases h
  | a :: x, b :: y, h => by
    rw [HT.lexLt_cons] at h ⊢
    by_cases e : a = b
    · subst e
      rw [if_pos rfl] at h ⊢
      exact lex_asym x y h
    · rw [if_neg e, decide_eq_true_eq] at h
      rw [if_neg (fun z => e z.symm), decide_eq_false_iff_not]
      omega
theorem lex_irr : ∀ x : List Int, HT.lexLt x x = false
  | [] => rfl
  | a :: x => by
    rw [HT.lexLt_cons, if_pos rfl]
    exact lex_irr x
theorem lex_app : ∀ x y a b : List Int, x.length = y.length → HT.lexLt x y = true → HT.lexLt (x ++ a) (y ++ b) = true
  | [], [], _, _, _, h => by cases h
  | [], c :: y, _, _, hl, _ => by cases hl
  | c :: x, [], _, _, hl, _ => by cases hl
  | c :: x, d :: y, a, b, hl, h => by
    rw [HT.lexLt_cons] at h
    show HT.lexLt (c :: (x ++ a)) (d :: (y ++ b)) = true
    rw [HT.lexLt_cons]
    by_cases e : c = d
    · rw [if_pos e] at h ⊢
      exact lex_app x y a b (by simpa using hl) h
    · rw [if_neg e] at h ⊢
      exact h
theorem lex_snoc : ∀ (x : List Int) (m k : Int), m < k → HT.lexLt (x ++ [m]) (x ++ [k]) = true
  | [], m, k, h => by
    show HT.lexLt [m] [k] = true
    rw [HT.lexLt_cons, if_neg (by omega)]
    exact decide_eq_true h
  | c :: x, m, k, h => by
    show HT.lexLt (c :: (x ++ [m])) (c :: (x ++ [k])) = true
    rw [HT.lexLt_cons, if_pos rfl]
    exact lex_snoc x m k h
theorem srt_uniq {l m p : List (List Int)} (h1 : l.Perm p) (h2 : m.Perm p) (s1 : Srt l) (s2 : Srt m) : l = m :=
  List.Perm.eq_of_pairwise (fun x y _ _ a b => lex_antis x y a b) s1 s2 (h1.trans h2.symm)
def nx (p : List Int × Int) : List (List Int × Int) := (List.range (p.2 + 1).toNat).map fun (m : Nat) => (p.1 ++ [(m : Int)], p.2 - m)
def Rw (h : Int) : Nat → List (List Int × Int)
  | 0 => [([], h)]
  | t + 1 => (Rw h t).flatMap nx
def Ev (n : Nat) (h : Int) : List (List Int) := ((Rw h n).filter fun p => decide (p.2 = 0)).map (·.1)
theorem sum_snoc (l : List Int) (m : Int) : (l ++ [m]).sum = l.sum + m := by
  rw [List.sum_append, List.sum_cons]
  exact congrArg _ (Int.add_zero m)
theorem Rw_mem {h : Int} (h0 : 0 ≤ h) : ∀ (t : Nat) (p : List Int × Int), p ∈ Rw h t ↔ p.1.length = t ∧ (∀ x ∈ p.1, 0 ≤ x) ∧ p.2 = h - p.1.sum ∧ 0 ≤ p.2
  | 0, (l, k) => by
    show (l, k) ∈ [([], h)] ↔ _
    rw [List.mem_singleton]
    constructor
    · intro e
      cases e
      exact ⟨rfl, (fun x hx => nomatch hx), by simp, h0⟩
    · rintro ⟨e1, _, e3, _⟩
      have : l = [] := List.length_eq_zero_iff.mp e1
      subst this
      have e3 : k = h - 0 := e3
      rw [e3, Int.sub_zero]
  | t + 1, (l, k) => by
    show (l, k) ∈ (Rw h t).flatMap nx ↔ _
    rw [List.mem_flatMap]
    constructor
    · rintro ⟨p, hp, hx⟩
      obtain ⟨q1, q2, q3, q4⟩ := (Rw_mem h0 t p).mp hp
      obtain ⟨m, hm, e⟩ := List.mem_map.mp hx
      have hm := List.mem_range.mp hm
      cases e
      refine ⟨by rw [List.length_append, q1]; rfl, fun x hx => ?_, ?_, by show 0 ≤ p.2 - (m : Int); omega⟩
      · rcases List.mem_append.mp hx with z | z
        · exact q2 x z
        · rw [List.mem_singleton.mp z]
          omega
      · show p.2 - (m : Int) = h - (p.1 ++ [(m : Int)]).sum
        rw [sum_snoc, q3]
        omega
    · rintro ⟨e1, e2, e3, e4⟩
      have e1 : l.length = t + 1 := e1
      rcases List.eq_nil_or_concat l with rfl | ⟨L, b, rfl⟩
      · cases e1
      · rw [List.concat_eq_append] at e1 e2 e3 ⊢
        have e3 : k = h - (L ++ [b]).sum := e3
        have e4 : 0 ≤ k := e4
        rw [List.length_append] at e1
        rw [sum_snoc] at e3
        have b0 := e2 b (by simp)
        refine ⟨(L, h - L.sum), (Rw_mem h0 t _).mpr ⟨by have : [b].length = 1 := rfl; show L.length = t; omega, fun x hx => e2 x (List.mem_append_left _ hx), rfl, by show 0 ≤ h - L.sum; omega⟩, List.mem_map.mpr ⟨b.toNat, List.mem_range.mpr (by show b.toNat < (h - L.sum + 1).toNat; omega), ?_⟩⟩
        show (L ++ [((b.toNat : Nat) : Int)], h - L.sum - ((b.toNat : Nat) : Int)) = (L ++ [b], k)
        rw [show ((b.toNat : Nat) : Int) = b by omega, e3]
        congr 1
        omega
theorem Rw_pw {h : Int} (h0 : 0 ≤ h) : ∀ t : Nat, (Rw h t).Pairwise fun p q => HT.lexLt p.1 q.1 = true
  | 0 => List.pairwise_singleton _ _
  | t + 1 => by
    show ((Rw h t).flatMap nx).Pairwise _
    rw [List.pairwise_flatMap]
    refine ⟨fun p hp => List.pairwise_map.mpr (List.pairwise_lt_range.imp fun {a b : Nat} (hab : a < b) => lex_snoc p.1 ((a : Nat) : Int) ((b : Nat) : Int) (by omega)), ?_⟩
    refine (List.Pairwise.imp_of_mem ?_ (Rw_pw h0 t))
    intro p q hp hq hpq x hx y hy
    obtain ⟨m, _, rfl⟩ := List.mem_map.mp hx
    obtain ⟨k, _, rfl⟩ := List.mem_map.mp hy
    exact lex_app _ _ _ _ (by rw [((Rw_mem h0 t p).mp hp).1, ((Rw_mem h0 t q).mp hq).1]) hpq
theorem Ev_pw {h : Int} (h0 : 0 ≤ h) (n : Nat) : (Ev n h).Pairwise fun x y => HT.lexLt x y = true := List.pairwise_map.mpr ((Rw_pw h0 n).filter _)
theorem Ev_srt {h : Int} (h0 : 0 ≤ h) (n : Nat) : Srt (Ev n h) := (Ev_pw h0 n).imp fun {a b} hab => lex_asym a b hab
theorem Ev_nd {h : Int} (h0 : 0 ≤ h) (n : Nat) : (Ev n h).Nodup := (Ev_pw h0 n).imp fun {a b} hab e => by
  rw [e, lex_irr] at hab
  cases hab
theorem Ev_mem {vs : List Int} {h : Int} (h0 : 0 ≤ h) {a : List Int} : a ∈ Ev vs.length h ↔ Deal vs h a := by
  unfold Ev
  rw [List.mem_map]
  constructor
  · rintro ⟨p, hp, rfl⟩
    obtain ⟨p1, p2⟩ := List.mem_filter.mp hp
    obtain ⟨q1, q2, q3, q4⟩ := (Rw_mem h0 _ p).mp p1
    have := of_decide_eq_true p2
    exact ⟨q1, q2, by omega⟩
  · intro d
    exact ⟨(a, 0), List.mem_filter.mpr ⟨(Rw_mem h0 _ _).mpr ⟨d.len, d.nn, by rw [d.sum]; show (0 : Int) = h - h; omega, Int.le_refl _⟩, by simp⟩, rfl⟩
end K40
namespace K40
open PySem PySem.Spec PyProof.Rows L2 Dl
theorem su_one (i : Nat) (c : Int) : ∀ n, su n (fun k => if k = i then c else 0) = if i < n then c else 0
  | 0 => rfl
  | n + 1 => by
    rw [su_succ, su_one i c n]
    by_cases e : n = i
    · subst e
      rw [if_neg (by omega), if_pos rfl, if_pos (by omega), Int.zero_add]
    · rw [if_neg e, Int.add_zero]
      by_cases l : i < n
      · rw [if_pos l, if_pos (by omega)]
      · rw [if_neg l, if_neg (by omega)]
/-- one seat from j to i -/
theorem filter_sub {T lot : List Int} (s : lot.Sublist T) (nd : T.Nodup) : T.filter (fun x => decide (x ∈ lot)) = lot := by
  induction s with
  | slnil => rfl
  | @cons l T a s ih =>
    have n := List.nodup_cons.mp nd
    have na : a ∉ l := fun z => n.1 (s.subset z)
    rw [List.filter_cons, if_neg (by simpa using na)]
    exact ih n.2
  | @cons_cons l T a s ih =>
    have n := List.nodup_cons.mp nd
    rw [List.filter_cons, if_pos (by simp)]
    refine congrArg _ ((List.filter_congr fun x hx => ?_).trans (ih n.2))
    have : ¬ x = a := fun e => n.1 (e ▸ hx)
    simp [this]
def stp (m : Int) (lots : List (List Int)) (x : Int) : List (List Int) := lots ++ (lots.filter fun l => decide ((l.length : Int) < m)).map (· ++ [x])
def Cs (m : Int) (ups : List Int) : List (List Int) := ups.foldl (stp m) [[]]
theorem Cs_snoc (m : Int) (ups : List Int) (x : Int) : Cs m (ups ++ [x]) = stp m (Cs m ups) x := by
  unfold Cs
  rw [List.foldl_append]
  rfl
theorem sub_snoc {l L : List Int} {b : Int} : l.Sublist (L ++ [b]) ↔ l.Sublist L ∨ ∃ k, k.Sublist L ∧ l = k ++ [b] := by
  rw [List.sublist_append_iff]
  constructor
  · rintro ⟨l1, l2, rfl, s1, s2⟩
    cases s2 with
    | cons _ s =>
      cases s
      rw [List.append_nil]
      exact .inl s1
    | cons_cons _ s =>
      cases s
      exact .inr ⟨l1, s1, rfl⟩
  · rintro (s | ⟨k, s, rfl⟩)
    · exact ⟨l, [], (List.append_nil l).symm, s, List.nil_sublist _⟩
    · exact ⟨k, [b], rfl, s, List.Sublist.refl _⟩
theorem Cs_mem {m : Int} (hm : 0 ≤ m) : ∀ (n : Nat) (ups l : List Int), ups.length = n → (l ∈ Cs m ups ↔ l.Sublist ups ∧ (l.length : Int) ≤ m)
  | 0, ups, l, h => by
    rw [List.length_eq_zero_iff.mp h]
    unfold Cs
    rw [List.foldl_nil, List.mem_singleton, List.sublist_nil]
    constructor
    · rintro rfl
      exact ⟨rfl, by simpa using hm⟩
    · exact fun z => z.1
  | n + 1, ups, l, h => by
    rcases List.eq_nil_or_concat ups with rfl | ⟨L, b, rfl⟩
    · cases h
    · rw [List.concat_eq_append] at h ⊢
      rw [List.length_append] at h
      have hL : L.length = n := by
        have : [b].length = 1 := rfl
        omega
      rw [Cs_snoc]
      unfold stp
      rw [List.mem_append, List.mem_map, Cs_mem hm n L l hL, sub_snoc]
      constructor
      · rintro (⟨s, e⟩ | ⟨k, hk, rfl⟩)
        · exact ⟨.inl s, e⟩
        · obtain ⟨k1, k2⟩ := List.mem_filter.mp hk
          have k3 := (Cs_mem hm n L k hL).mp k1
          have := of_decide_eq_true k2
          refine ⟨.inr ⟨k, k3.1, rfl⟩, ?_⟩
          rw [List.length_append]
          show ((k.length + 1 : Nat) : Int) ≤ m
          omega
      · rintro ⟨s | ⟨k, s, rfl⟩, e⟩
        · exact .inl ⟨s, e⟩
        · rw [List.length_append] at e
          have e : ((k.length + 1 : Nat) : Int) ≤ m := e
          exact .inr ⟨k, List.mem_filter.mpr ⟨(Cs_mem hm n L k hL).mpr ⟨s, by omega⟩, decide_eq_true (by omega)⟩, rfl⟩
theorem Cs_nd {m : Int} (hm : 0 ≤ m) : ∀ (n : Nat) (ups : List Int), ups.length = n → ups.Nodup → (Cs m ups).Nodup
  | 0, ups, h, _ => by
    rw [List.length_eq_zero_iff.mp h]
    exact List.nodup_cons.mpr ⟨(fun z => nomatch z), List.nodup_nil⟩
  | n + 1, ups, h, nd => by
    rcases List.eq_nil_or_concat ups with rfl | ⟨L, b, rfl⟩
    · cases h
    · rw [List.concat_eq_append] at h nd ⊢
      rw [List.length_append] at h
      have hL : L.length = n := by
        have : [b].length = 1 := rfl
        omega
      have n2 := List.nodup_append.mp nd
      have ih := Cs_nd hm n L hL n2.1
      rw [Cs_snoc]
      unfold stp
      have two : (((Cs m L).filter fun l => decide ((l.length : Int) < m)).map (· ++ [b])).Nodup := List.pairwise_map.mpr ((ih.filter _).imp fun h e => h (List.append_cancel_right e))
      refine List.nodup_append.mpr ⟨ih, two, fun x hx y hy e => ?_⟩
      obtain ⟨k, hk, rfl⟩ := List.mem_map.mp hy
      have sx := ((Cs_mem hm n L x hL).mp hx).1
      have : b ∈ L := sx.subset (by rw [e]; simp)
      exact n2.2.2 b this b (by simp) rfl
theorem su_mem (n : Nat) : ∀ lot : List Int, lot.Nodup → (∀ x ∈ lot, 0 ≤ x ∧ x < n) → su n (fun (i : Nat) => if (i : Int) ∈ lot then 1 else 0) = (lot.length : Int)
  | [], _, _ => by
    have e : su n (fun (i : Nat) => if (i : Int) ∈ ([] : List Int) then (1 : Int) else 0) = su n (fun _ => 0) := su_congr n fun i _ => if_neg (by simp)
    rw [e, su_zero]
    rfl
  | x :: lot, nd, hb => by
    have nx := (List.nodup_cons.mp nd).1
    have bx := hb x (List.mem_cons_self ..)
    have ih := su_mem n lot (List.nodup_cons.mp nd).2 fun y hy => hb y (List.mem_cons_of_mem _ hy)
    have e : su n (fun (i : Nat) => if (i : Int) ∈ x :: lot then (1 : Int) else 0) = su n (fun (i : Nat) => (if i = x.toNat then 1 else 0) + if (i : Int) ∈ lot then 1 else 0) := su_congr n fun i _ => by
      by_cases c : i = x.toNat
      · have ex : ((i : Nat) : Int) = x := by omega
        rw [if_pos c, ex, if_pos (List.mem_cons_self ..), if_neg nx]
        omega
      · have ne : ¬ ((i : Nat) : Int) = x := by omega
        rw [if_neg c]
        by_cases m : (i : Int) ∈ lot
        · rw [if_pos (List.mem_cons_of_mem _ m), if_pos m]
          omega
        · rw [if_neg m, if_neg (fun z => by
            cases z with
            | head => exact ne rfl
            | tail _ z => exact m z)]
          omega
    rw [e, su_add, su_one, if_pos (by omega), ih, List.length_cons]
    omega
theorem Cs_len (m : Int) : ∀ (n : Nat) (ups : List Int), ups.length = n → (Cs m ups).length ≤ 2 ^ n
  | 0, ups, h => by
    rw [List.length_eq_zero_iff.mp h]
    exact Nat.le_refl _
  | n + 1, ups, h => by
    rcases List.eq_nil_or_concat ups with rfl | ⟨L, b, rfl⟩
    · cases h
    · rw [List.concat_eq_append] at h ⊢
      rw [List.length_append] at h
      have hL : L.length = n := by
        have : [b].length = 1 := rfl
        omega
      have ih := Cs_len m n L hL
      rw [Cs_snoc]
      unfold stp
      rw [List.length_append, List.length_map]
      have := List.length_filter_le (fun l : List Int => decide ((l.length : Int) < m)) (Cs m L)
      rw [Nat.pow_succ]
      omega
theorem Cs_small {m : Int} {ups : List Int} (h : ups.length ≤ 12) : (Cs m ups).length ≤ 4096 := by
  have a := Cs_len m _ ups rfl
  have b : 2 ^ ups.length ≤ 2 ^ 12 := Nat.pow_le_pow_right (by decide) h
  omega

/-! ## deals by the rule -/
section
variable {r : R} {vs : List Int} (g : GR r) (hv : Vok vs)
abbrev K (r : R) (vs : List Int) (i : Nat) (m : Int) : Int × Int := cost r (vt vs i) m
theorem gf_tr {p q x : Int × Int} (a : GF p) (b : GF q) (c : GF x) (h1 : le p q) (h2 : le q x) : le p x := le_tr a.p2.1 b.p2.1 c.p2.1 h1 h2
theorem gf_lt1 {p q x : Int × Int} (a : GF p) (b : GF q) (c : GF x) (h1 : lt p q) (h2 : le q x) : lt p x := lt_of_lt_le a.p2.1 b.p2.1 c.p2.1 h1 h2
theorem gf_lt2 {p q x : Int × Int} (a : GF p) (b : GF q) (c : GF x) (h1 : le p q) (h2 : lt q x) : lt p x := lt_of_le_lt a.p2.1 b.p2.1 c.p2.1 h1 h2
theorem act_vt {i : Nat} (hi : i ∈ act vs) : i < vs.length ∧ 1 ≤ vt vs i := by
  have := act_mem.mp hi
  omega
theorem act_of {i : Nat} (hi : i < vs.length) (h : 0 < vt vs i) : i ∈ act vs := act_mem.mpr ⟨hi, h⟩
/-- by the rule -/
structure By (r : R) (vs : List Int) (s : Sf) : Prop where
  z : ∀ i, i < vs.length → ¬ 0 < vt vs i → s i = 0
  o : ∀ i, i ∈ act vs → ∀ j, j ∈ act vs → 0 < s j → le (K r vs i (s i + 1)) (K r vs j (s j))
structure Bs (r : R) (vs : List Int) (s : Sf) : Prop where
  z : ∀ i, i < vs.length → ¬ 0 < vt vs i → s i = 0
  o : ∀ i, i ∈ act vs → ∀ j, j ∈ act vs → 0 < s j → lt (K r vs i (s i + 1)) (K r vs j (s j))
structure Bn (n : Nat) (c : Int) (s : Sf) : Prop where
  lo : ∀ a, 0 ≤ s a
  hi : ∀ a, a < n → s a ≤ c
theorem Bn.sok {n : Nat} {c : Int} {s : Sf} (b : Bn vs.length c s) (h : c ≤ 249) : Sok vs (c + 1) s := ⟨b.lo, fun a ha => by have := b.hi a ha; omega, by omega⟩
include g hv
theorem kg {i : Nat} (hi : i ∈ act vs) {m : Int} (m0 : 1 ≤ m) (m1 : m ≤ 300) : GF (K r vs i m) := cost_gf g (act_vt hi).2 (hv.at i).2 m0 m1
theorem kd {i : Nat} (hi : i ∈ act vs) {m n : Int} (m0 : 1 ≤ m) (h : m < n) (n1 : n ≤ 300) : lt (K r vs i n) (K r vs i m) := cost_after g (act_vt hi).2 (hv.at i).2 m0 h n1
theorem kl {i : Nat} (hi : i ∈ act vs) {m n : Int} (m0 : 1 ≤ m) (h : m ≤ n) (n1 : n ≤ 300) : le (K r vs i n) (K r vs i m) := by
  by_cases e : m = n
  · rw [e]
    exact le_rfl' _
  · exact lt_le (kd g hv hi m0 (by omega) n1)
variable {s : Sf} {c : Int} (b : Bn vs.length c s) (hc : c ≤ 200) (ha : act vs ≠ [])
include b hc ha
theorem best_gf : GF (best r vs s) := (best_max g hv (Bn.sok (n := 0) b (by omega)) ha).2
theorem best_up {i : Nat} (hi : i ∈ act vs) : le (K r vs i (s i + 1)) (best r vs s) := (best_max g hv (Bn.sok (n := 0) b (by omega)) ha).1.2 _ (List.mem_map_of_mem (f := pr r vs s) hi)
theorem best_at : ∃ i, i ∈ lot r vs s := by
  have := lot_pos g hv (Bn.sok (n := 0) b (by omega)) ha
  cases e : lot r vs s with
  | nil =>
    rw [e] at this
    simp at this
  | cons x l => exact ⟨x, List.mem_cons_self ..⟩
omit b hc ha g hv in
theorem lot_iff {i : Nat} : i ∈ lot r vs s ↔ i ∈ act vs ∧ K r vs i (s i + 1) = best r vs s := by
  unfold lot
  rw [List.mem_filter, decide_eq_true_eq]
  exact Iff.rfl
theorem not_lot {i : Nat} (hi : i ∈ act vs) (n : i ∉ lot r vs s) : lt (K r vs i (s i + 1)) (best r vs s) := by
  have u := best_up g hv b hc ha hi
  have bi := b.hi i (act_vt hi).1
  have lo := b.lo i
  refine Classical.byContradiction fun z => n (lot_iff.mpr ⟨hi, can_eq (kg g hv hi (by omega) (by omega)) (best_gf g hv b hc ha) u (not_lt.mp z)⟩)
/-- seats more -/
def plus (s : Sf) (L : List Int) : Sf := fun a => s a + if ((a : Nat) : Int) ∈ L then 1 else 0
def lotI (r : R) (vs : List Int) (s : Sf) : List Int := (lot r vs s).map fun (a : Nat) => (a : Int)
omit b hc ha g hv in
theorem lotI_mem {a : Nat} : (a : Int) ∈ lotI r vs s ↔ a ∈ lot r vs s := by
  unfold lotI
  rw [List.mem_map]
  constructor
  · rintro ⟨x, hx, e⟩
    rw [show a = x by omega]
    exact hx
  · exact fun h => ⟨a, h, rfl⟩
omit b hc ha g hv in
theorem plus_in {L : List Int} {a : Nat} (h : (a : Int) ∈ L) : plus s L a = s a + 1 := by
  unfold plus
  rw [if_pos h]
omit b hc ha g hv in
theorem plus_out {L : List Int} {a : Nat} (h : ¬ (a : Int) ∈ L) : plus s L a = s a := by
  unfold plus
  rw [if_neg h, Int.add_zero]
omit b hc ha g hv in
theorem plus_ge (L : List Int) (a : Nat) : s a ≤ plus s L a ∧ plus s L a ≤ s a + 1 := by
  unfold plus
  split <;> omega
theorem by_plus (h : By r vs s) {L : List Int} (hL : ∀ a : Nat, (a : Int) ∈ L → a ∈ lot r vs s) : By r vs (plus s L) := by
  refine ⟨fun i hi hz => ?_, fun i hi j hj hp => ?_⟩
  · rw [plus_out fun m => hz (act_mem.mp (lot_iff.mp (hL i m)).1).2]
    exact h.z i hi hz
  · have bi := b.hi i (act_vt hi).1
    have bj := b.hi j (act_vt hj).1
    have li := b.lo i
    have lj := b.lo j
    have pi := plus_ge (s := s) L i
    have pj := plus_ge (s := s) L j
    have n1 : le (K r vs i (plus s L i + 1)) (K r vs i (s i + 1)) := kl g hv hi (by omega) (by omega) (by omega)
    have n2 : le (K r vs i (s i + 1)) (K r vs j (plus s L j)) := by
      by_cases m : (j : Int) ∈ L
      · rw [plus_in m, (lot_iff.mp (hL j m)).2]
        exact best_up g hv b hc ha hi
      · rw [plus_out m] at hp ⊢
        exact h.o i hi j hj hp
    exact gf_tr (kg g hv hi (by omega) (by omega)) (kg g hv hi (by omega) (by omega)) (kg g hv hj (by omega) (by omega)) n1 n2
omit b hc ha g hv in
theorem isl_iff {a : Nat} (h : a < vs.length) : isl r vs s a = true ↔ a ∈ lot r vs s := by
  unfold isl
  rw [Bool.and_eq_true, decide_eq_true_eq, decide_eq_true_eq, lot_iff, act_mem]
  exact ⟨fun z => ⟨⟨h, z.1⟩, z.2⟩, fun z => ⟨z.1.2, z.2⟩⟩
omit b hc ha g hv in
theorem give_at {a : Nat} (h : a < vs.length) : give r vs s a = if a ∈ lot r vs s then s a + 1 else s a := by
  unfold give
  by_cases m : a ∈ lot r vs s
  · rw [if_pos m, if_pos ((isl_iff h).mpr m)]
  · rw [if_neg m, if_neg (fun z => m ((isl_iff h).mp z))]
theorem bs_give (h : Bs r vs s) : Bs r vs (give r vs s) := by
  refine ⟨fun i hi hz => ?_, fun i hi j hj hp => ?_⟩
  · rw [give_at hi, if_neg fun m => hz (act_mem.mp (lot_iff.mp m).1).2]
    exact h.z i hi hz
  · have il := (act_vt hi).1
    have jl := (act_vt hj).1
    have bi := b.hi i il
    have bj := b.hi j jl
    have li := b.lo i
    have lj := b.lo j
    rw [give_at jl] at hp
    rw [give_at il, give_at jl]
    have A : lt (K r vs i ((if i ∈ lot r vs s then s i + 1 else s i) + 1)) (best r vs s) := by
      by_cases m : i ∈ lot r vs s
      · rw [if_pos m, ← (lot_iff.mp m).2]
        exact kd g hv hi (by omega) (by omega) (by omega)
      · rw [if_neg m]
        exact not_lot g hv b hc ha hi m
    by_cases m : j ∈ lot r vs s
    · rw [if_pos m] at hp ⊢
      rw [(lot_iff.mp m).2]
      exact A
    · rw [if_neg m] at hp ⊢
      have n1 : le (K r vs i ((if i ∈ lot r vs s then s i + 1 else s i) + 1)) (K r vs i (s i + 1)) := kl g hv hi (by omega) (by split <;> omega) (by split <;> omega)
      exact gf_lt2 (kg g hv hi (by split <;> omega) (by split <;> omega)) (kg g hv hi (by omega) (by omega)) (kg g hv hj (by omega) (by omega)) n1 (h.o i hi j hj hp)
omit b hc ha in
theorem S_bs {h : Int} (h1 : h ≤ 200) (ha : act vs ≠ []) : ∀ j, (∀ i, i < j → tot vs (S r vs i) < h) → Bs r vs (S r vs j)
  | 0, _ => ⟨fun _ _ _ => rfl, fun _ _ _ _ z => absurd z (Int.lt_irrefl 0)⟩
  | j + 1, q => by
    have t := q j (by omega)
    exact bs_give g hv (c := h) ⟨S_pos r vs j, fun a ha => by have := S_le r vs j ha; omega⟩ h1 ha (S_bs h1 ha j fun i hi => q i (by omega))
omit b hc ha g hv in
theorem Bs.by {s : Sf} (h : Bs r vs s) : By r vs s := ⟨h.z, fun i hi j hj hp => lt_le (h.o i hi j hj hp)⟩
omit b hc ha g hv in
theorem su_pos {f : Nat → Int} : ∀ n, 0 < su n f → ∃ i, i < n ∧ 0 < f i
  | 0, h => absurd h (Int.lt_irrefl 0)
  | n + 1, h => by
    rw [su_succ] at h
    by_cases p : 0 < f n
    · exact ⟨n, by omega, p⟩
    · obtain ⟨i, hi, q⟩ := su_pos (f := f) n (by omega)
      exact ⟨i, by omega, q⟩
/-- a deal by the rule lies between two steps -/
theorem between (h : Bs r vs s) {d : Sf} {cd : Int} (bd : Bn vs.length cd d) (hcd : cd ≤ 200) (hd : By r vs d) (t0 : su vs.length s < su vs.length d) (t1 : su vs.length d ≤ su vs.length (give r vs s)) :
    ∀ a, a < vs.length → s a ≤ d a ∧ d a ≤ give r vs s a := by
  have low : ∀ a, a < vs.length → s a ≤ d a := by
    intro i hi
    refine Classical.byContradiction fun z => ?_
    have sp : 0 < su vs.length (fun k => d k - s k) := by
      rw [su_sub]
      omega
    obtain ⟨j, hj, pj⟩ := su_pos _ sp
    have pj : 0 < d j - s j := pj
    have di := bd.lo i
    have dj := bd.lo j
    have si := b.lo i
    have sj := b.lo j
    have bsi := b.hi i hi
    have bdj := bd.hi j hj
    have ai : i ∈ act vs := act_of hi (Classical.byContradiction fun y => by have := h.z i hi y; omega)
    have aj : j ∈ act vs := act_of hj (Classical.byContradiction fun y => by have := hd.z j hj y; omega)
    have e1 := hd.o i ai j aj (by omega)
    have e2 : le (K r vs i (s i)) (K r vs i (d i + 1)) := kl g hv ai (by omega) (by omega) (by omega)
    have e3 := h.o j aj i ai (by omega)
    have e4 : le (K r vs j (d j)) (K r vs j (s j + 1)) := kl g hv aj (by omega) (by omega) (by omega)
    have g1 := kg g hv ai (m := s i) (by omega) (by omega)
    have g2 := kg g hv ai (m := d i + 1) (by omega) (by omega)
    have g3 := kg g hv aj (m := d j) (by omega) (by omega)
    have g4 := kg g hv aj (m := s j + 1) (by omega) (by omega)
    have := gf_tr g1 g3 g4 (gf_tr g1 g2 g3 e2 e1) e4
    exact not_lt.mpr this e3
  refine fun i hi => ⟨low i hi, ?_⟩
  refine Classical.byContradiction fun z => ?_
  have sn : su vs.length (fun k => d k - give r vs s k) ≤ 0 := by
    rw [su_sub]
    omega
  obtain ⟨j, hj, pj⟩ : ∃ j, j < vs.length ∧ d j < give r vs s j := by
    refine Classical.byContradiction fun y => ?_
    have all : ∀ k, k < vs.length → 0 ≤ d k - give r vs s k := fun k hk => by
      have : ¬ d k < give r vs s k := fun w => y ⟨k, hk, w⟩
      omega
    have nn := su_nn all
    have := su_all0 _ all (by omega) i hi
    omega
  have lj := low j hj
  have li := low i hi
  rw [give_at hj] at pj
  rw [give_at hi] at z
  have mj : j ∈ lot r vs s := Classical.byContradiction fun y => by
    rw [if_neg y] at pj
    omega
  rw [if_pos mj] at pj
  have ej : d j = s j := by omega
  have aj := (lot_iff.mp mj).1
  have si := b.lo i
  have sj := b.lo j
  have bsi := b.hi i hi
  have bsj := b.hi j hj
  have bdi := bd.hi i hi
  have ai : i ∈ act vs := act_of hi (Classical.byContradiction fun y => by
    have := hd.z i hi y
    split at z <;> omega)
  have e1 := hd.o j aj i ai (by split at z <;> omega)
  rw [ej, (lot_iff.mp mj).2] at e1
  have gb := best_gf g hv b hc ha
  have e2 : lt (K r vs i (d i)) (best r vs s) := by
    by_cases m : i ∈ lot r vs s
    · rw [if_pos m] at z
      rw [← (lot_iff.mp m).2]
      exact kd g hv ai (by omega) (by omega) (by omega)
    · rw [if_neg m] at z
      have q := not_lot g hv b hc ha ai m
      exact gf_lt2 (kg g hv ai (by omega) (by omega)) (kg g hv ai (by omega) (by omega)) gb (kl g hv ai (by omega) (by omega) (by omega)) q
  exact not_lt.mpr e1 e2
/-- one seat more -/
theorem one_more (h : By r vs s) {e : Sf} (he : By r vs e) (up : ∀ a, a < vs.length → s a ≤ e a) (t : su vs.length e = su vs.length s + 1) : ∃ i, i ∈ lot r vs s ∧ ∀ a, a < vs.length → e a = plus s [(i : Int)] a := by
  have sd : su vs.length (fun k => e k - s k) = 1 := by
    rw [su_sub]
    omega
  obtain ⟨i, hi, pi⟩ := su_pos vs.length (f := fun k => e k - s k) (by omega)
  have pi : 0 < e i - s i := pi
  have z : su vs.length (fun k => (e k - s k) - if k = i then 1 else 0) = 0 := by
    rw [su_sub, su_one, if_pos hi]
    omega
  have all := su_all0 (f := fun k => (e k - s k) - if k = i then 1 else 0) vs.length (fun k hk => by
    have := up k hk
    by_cases c : k = i
    · subst c
      rw [if_pos rfl]
      omega
    · rw [if_neg c]
      omega) z
  have ei : e i = s i + 1 := by
    have := all i hi
    rw [if_pos rfl] at this
    omega
  have eo : ∀ k, k < vs.length → k ≠ i → e k = s k := fun k hk ne => by
    have := all k hk
    rw [if_neg ne] at this
    omega
  have si := b.lo i
  have bi := b.hi i hi
  have ai : i ∈ act vs := act_of hi (Classical.byContradiction fun y => by
    have := he.z i hi y
    omega)
  refine ⟨i, Classical.byContradiction fun n => ?_, fun a ha' => ?_⟩
  · obtain ⟨j, mj⟩ := best_at g hv b hc ha
    have ne : j ≠ i := fun q => n (q ▸ mj)
    have aj := (lot_iff.mp mj).1
    have q1 := he.o j aj i ai (by omega)
    rw [eo j (act_vt aj).1 ne, ei, (lot_iff.mp mj).2] at q1
    exact not_lt.mpr q1 (not_lot g hv b hc ha ai n)
  · by_cases q : a = i
    · subst q
      rw [plus_in (List.mem_cons_self ..), ei]
    · rw [plus_out (fun w => by
        cases w with
        | head => exact q rfl
        | tail _ w => cases w), eo a ha' q]
end
end K40
namespace K40
open PySem PySem.Spec PyProof.Rows L2 Dl
section
variable {r : R} {vs : List Int}
instance (p q : Int × Int) : Decidable (le p q) := inferInstanceAs (Decidable (_ ≤ _))
instance (p q : Int × Int) : Decidable (lt p q) := inferInstanceAs (Decidable (_ < _))
def byb (r : R) (vs : List Int) (d : List Int) : Bool := ((List.range vs.length).all fun i => decide (0 < vt vs i) || decide (gt d i = 0)) && (act vs).all fun i => (act vs).all fun j => !decide (0 < gt d j) || decide (le (K r vs i (gt d i + 1)) (K r vs j (gt d j)))
theorem byb_iff {d : List Int} : byb r vs d = true ↔ By r vs (gt d) := by
  unfold byb
  rw [Bool.and_eq_true, List.all_eq_true, List.all_eq_true]
  constructor
  · rintro ⟨h1, h2⟩
    refine ⟨fun i hi hz => ?_, fun i hi j hj hp => ?_⟩
    · have := h1 i (List.mem_range.mpr hi)
      rw [Bool.or_eq_true, decide_eq_true_eq, decide_eq_true_eq] at this
      exact this.resolve_left hz
    · have := List.all_eq_true.mp (h2 i hi) j hj
      rw [Bool.or_eq_true, Bool.not_eq_true', decide_eq_false_iff_not, decide_eq_true_eq] at this
      exact this.resolve_left fun z => z hp
  · intro h
    refine ⟨fun i hi => ?_, fun i hi => List.all_eq_true.mpr fun j hj => ?_⟩
    · rw [Bool.or_eq_true, decide_eq_true_eq, decide_eq_true_eq]
      by_cases c : 0 < vt vs i
      · exact .inl c
      · exact .inr (h.z i (List.mem_range.mp hi) c)
    · rw [Bool.or_eq_true, Bool.not_eq_true', decide_eq_false_iff_not, decide_eq_true_eq]
      by_cases c : 0 < gt d j
      · exact .inr (h.o i hi j hj c)
      · exact .inl c
def Dls (r : R) (vs : List Int) (h : Int) : List (List Int) := (Ev vs.length h).filter (byb r vs)
theorem Dls_mem {h : Int} (h0 : 0 ≤ h) {a : List Int} : a ∈ Dls r vs h ↔ Deal vs h a ∧ By r vs (gt a) := by
  unfold Dls
  rw [List.mem_filter, Ev_mem h0, byb_iff]
theorem Dls_srt {h : Int} (h0 : 0 ≤ h) : Srt (Dls r vs h) := List.Pairwise.filter _ (Ev_srt h0 _)
theorem Dls_nd {h : Int} (h0 : 0 ≤ h) : (Dls r vs h).Nodup := (Ev_nd h0 _).filter _
theorem nn_gt {a : List Int} : (∀ x ∈ a, 0 ≤ x) ↔ ∀ k, k < a.length → 0 ≤ gt a k := by
  constructor
  · intro h k hk
    exact h _ (List.mem_of_getElem? (gt_get hk))
  · intro h x hx
    obtain ⟨k, hk⟩ := List.mem_iff_getElem?.mp hx
    have kl := (List.getElem?_eq_some_iff.mp hk).1
    have e := gt_get kl
    rw [hk] at e
    cases e
    exact h k kl
theorem gt_out {a : List Int} {k : Nat} (h : a.length ≤ k) : gt a k = 0 := by
  unfold gt
  rw [List.getD_eq_getElem?_getD, List.getElem?_eq_none h]
  rfl
theorem gt_le {vs a : List Int} {h : Int} (hd : Deal vs h a) {i : Nat} (hi : i < vs.length) : 0 ≤ gt a i ∧ gt a i ≤ h := by
  have nn := nn_gt.mp hd.nn
  refine ⟨nn i (by rw [hd.len]; exact hi), ?_⟩
  have s := sum_gt a
  rw [hd.sum, hd.len] at s
  have := su_nn (f := fun k => gt a k - if k = i then gt a i else 0) (n := vs.length) fun k hk => by
    by_cases e : k = i
    · subst e
      simp
    · rw [if_neg e]
      have := nn k (by rw [hd.len]; exact hk)
      omega
  rw [su_sub, su_one, if_pos hi] at this
  have e : su vs.length (fun k => gt a k) = h := s.symm
  omega
theorem deal_bn {a : List Int} {h : Int} (hd : Deal vs h a) : Bn vs.length h (gt a) := ⟨fun k => by
  by_cases c : k < vs.length
  · exact (gt_le hd c).1
  · rw [gt_out (by rw [hd.len]; omega)]
    exact Int.le_refl _, fun k hk => (gt_le hd hk).2⟩
def dealOf (n : Nat) (s : Sf) (L : List Int) : List Int := (List.range n).map (plus s L)
theorem dealOf_len (n : Nat) (s : Sf) (L : List Int) : (dealOf n s L).length = n := by
  unfold dealOf
  rw [List.length_map, List.length_range]
theorem dealOf_gt {n : Nat} {s : Sf} {L : List Int} {i : Nat} (hi : i < n) : gt (dealOf n s L) i = plus s L i := by
  have := gt_get (l := dealOf n s L) (i := i) (by rw [dealOf_len]; exact hi)
  unfold dealOf at this
  rw [List.getElem?_map, List.getElem?_range hi] at this
  exact (Option.some.inj this).symm
theorem By.congr {s t : Sf} (h : By r vs s) (e : ∀ a, a < vs.length → t a = s a) : By r vs t := by
  refine ⟨fun i hi hz => by rw [e i hi]; exact h.z i hi hz, fun i hi j hj hp => ?_⟩
  rw [e i (act_vt hi).1, e j (act_vt hj).1]
  rw [e j (act_vt hj).1] at hp
  exact h.o i hi j hj hp
theorem list_ext_gt {l m : List Int} {n : Nat} (hl : l.length = n) (hm : m.length = n) (h : ∀ i, i < n → gt l i = gt m i) : l = m := by
  rw [list_gt l, list_gt m, hl, hm]
  exact List.map_congr_left fun i hi => h i (List.mem_range.mp hi)
theorem plus_sum {n : Nat} {s : Sf} {L : List Int} (nd : L.Nodup) (hb : ∀ x ∈ L, 0 ≤ x ∧ x < n) : su n (plus s L) = su n s + L.length := by
  have e : su n (plus s L) = su n s + su n (fun (i : Nat) => if (i : Int) ∈ L then 1 else 0) := su_add s _ n
  rw [e, su_mem n L nd hb]
theorem lotI_nd (r : R) (vs : List Int) (s : Sf) : (lotI r vs s).Nodup := List.pairwise_map.mpr ((lot_nodup r vs s).imp fun h e => h (by omega))
theorem lotI_lt {s : Sf} {x : Int} (h : x ∈ lotI r vs s) : (0 ≤ x ∧ x < vs.length) ∧ x.toNat ∈ lot r vs s := by
  obtain ⟨a, ha, rfl⟩ := List.mem_map.mp h
  have := (lot_lt ha).1
  rw [Int.toNat_natCast]
  exact ⟨⟨by omega, by omega⟩, ha⟩
theorem dealOf_inj {s : Sf} {l m : List Int} (hl : l.Sublist (lotI r vs s)) (hm : m.Sublist (lotI r vs s)) (e : dealOf vs.length s l = dealOf vs.length s m) : l = m := by
  rw [← filter_sub hl (lotI_nd r vs s), ← filter_sub hm (lotI_nd r vs s)]
  refine List.filter_congr fun x hx => decide_eq_decide.mpr ?_
  have b := (lotI_lt hx).1
  have g1 := dealOf_gt (n := vs.length) (s := s) (L := l) (i := x.toNat) (by omega)
  have g2 := dealOf_gt (n := vs.length) (s := s) (L := m) (i := x.toNat) (by omega)
  have ex : ((x.toNat : Nat) : Int) = x := by omega
  rw [e, g2] at g1
  by_cases c : x ∈ l <;> by_cases d : x ∈ m
  · exact ⟨fun _ => d, fun _ => c⟩
  · rw [plus_out (by rw [ex]; exact d), plus_in (by rw [ex]; exact c)] at g1
    omega
  · rw [plus_in (by rw [ex]; exact d), plus_out (by rw [ex]; exact c)] at g1
    omega
  · exact ⟨fun z => absurd z c, fun z => absurd z d⟩
/-- lots of m out of ups -/
def chs (ups : List Int) (m : Int) : List (List Int) := (Cs m ups).filter fun l => decide ((l.length : Int) = m)
theorem chs_mem {ups : List Int} {m : Int} (hm : 0 ≤ m) {l : List Int} : l ∈ chs ups m ↔ l.Sublist ups ∧ (l.length : Int) = m := by
  unfold chs
  rw [List.mem_filter, Cs_mem hm _ ups l rfl, decide_eq_true_eq]
  exact ⟨fun z => ⟨z.1.1, z.2⟩, fun z => ⟨⟨z.1, by omega⟩, z.2⟩⟩
/-- those of the last step that has not all its seats -/
def ups (r : R) (vs : List Int) (J : Nat) : List Int := if J = 0 then [] else lotI r vs (S r vs (J - 1))
def lft (r : R) (vs : List Int) (h : Int) (J : Nat) : Int := h - tot vs (S r vs (J - 1))
def raw (r : R) (vs : List Int) (h : Int) (J : Nat) : List (List Int) := (chs (ups r vs J) (lft r vs h J)).map (dealOf vs.length (S r vs (J - 1)))
theorem deal_of {h : Int} {s : Sf} {L : List Int} (hs : ∀ a, 0 ≤ s a) (nd : L.Nodup) (hb : ∀ x ∈ L, 0 ≤ x ∧ x < vs.length) (e : tot vs s + L.length = h) : Deal vs h (dealOf vs.length s L) := by
  refine ⟨dealOf_len _ _ _, nn_gt.mpr fun k hk => ?_, ?_⟩
  · rw [dealOf_len] at hk
    rw [dealOf_gt hk]
    have := plus_ge (s := s) L k
    have := hs k
    omega
  · have : (dealOf vs.length s L).sum = su vs.length (plus s L) := rfl
    rw [this, plus_sum nd hb]
    exact e
theorem tot_S0 : tot vs (S r vs 0) = 0 := tot_0 r vs
theorem ends_cases {h : Int} {J : Nat} (e : Ends r vs h J) (h0 : 0 ≤ h) (hact : h = 0 ∨ act vs ≠ []) : (J = 0 ∧ h = 0) ∨ (0 < J ∧ act vs ≠ [] ∧ tot vs (S r vs (J - 1)) < h ∧ h ≤ tot vs (S r vs J)) := by
  by_cases z : J = 0
  · subst z
    refine .inl ⟨rfl, ?_⟩
    rcases hact with q | q
    · exact q
    · have t := e.top.resolve_left q
      rw [tot_0] at t
      omega
  · have l := e.low (J - 1) (by omega)
    exact .inr ⟨by omega, l.1, l.2, e.top.resolve_left l.1⟩
theorem raw_perm (g : GR r) (hv : Vok vs) {h : Int} {J : Nat} (e : Ends r vs h J) (h0 : 0 ≤ h) (h1 : h ≤ 200) (hact : h = 0 ∨ act vs ≠ []) : (raw r vs h J).Perm (Dls r vs h) := by
  rcases ends_cases e h0 hact with ⟨rfl, rfl⟩ | ⟨j0, ha, t0, t1⟩
  · have er : raw r vs 0 0 = [dealOf vs.length (S r vs 0) []] := by
      unfold raw lft ups
      rw [if_pos rfl, tot_0]
      rfl
    rw [er]
    refine (List.perm_ext_iff_of_nodup (by simp) (Dls_nd (Int.le_refl 0))).mpr fun a => ?_
    rw [List.mem_singleton, Dls_mem (Int.le_refl 0)]
    have z0 : ∀ i, i < vs.length → gt (dealOf vs.length (S r vs 0) []) i = 0 := fun i hi => by
      rw [dealOf_gt hi, plus_out (by simp)]
      rfl
    constructor
    · rintro rfl
      refine ⟨deal_of (fun a => S_pos r vs 0 a) List.nodup_nil (fun x hx => by simp at hx) (by rw [tot_0]; rfl), ?_⟩
      exact ⟨fun i hi _ => z0 i hi, fun i hi j hj hp => by
        rw [z0 j (act_vt hj).1] at hp
        omega⟩
    · rintro ⟨d, _⟩
      refine list_ext_gt d.len (dealOf_len _ _ _) fun i hi => ?_
      rw [z0 i hi]
      have := gt_le d hi
      omega
  · have eu : ups r vs J = lotI r vs (S r vs (J - 1)) := if_neg (by omega)
    have sp := S_pos r vs (J - 1)
    have sl := fun a ha => S_le r vs (J - 1) (a := a) ha
    have bn : Bn vs.length h (S r vs (J - 1)) := ⟨sp, fun a ha => by have := sl a ha; omega⟩
    have bs := S_bs g hv h1 ha (J - 1) fun i hi => (e.low i (by omega)).2
    have gv : tot vs (S r vs J) = su vs.length (give r vs (S r vs (J - 1))) := by
      rw [show J = J - 1 + 1 by omega]
      rfl
    unfold raw
    rw [eu, show lft r vs h J = h - tot vs (S r vs (J - 1)) from rfl]
    rw [gv] at t1
    clear eu gv e sl
    generalize S r vs (J - 1) = s at *
    have lp : 0 ≤ h - tot vs s := by omega
    have nd : ((chs (lotI r vs s) (h - tot vs s)).map (dealOf vs.length s)).Nodup := by
      refine List.pairwise_map.mpr (List.Pairwise.imp_of_mem ?_ ((Cs_nd lp _ (lotI r vs s) rfl (lotI_nd r vs s)).filter _))
      intro x y hx hy ne q
      exact ne (dealOf_inj ((chs_mem lp).mp hx).1 ((chs_mem lp).mp hy).1 q)
    refine (List.perm_ext_iff_of_nodup nd (Dls_nd h0)).mpr fun a => ?_
    rw [List.mem_map, Dls_mem h0]
    constructor
    · rintro ⟨L, hL, rfl⟩
      obtain ⟨sub, len⟩ := (chs_mem lp).mp hL
      have ndL := (lotI_nd r vs s).sublist sub
      have d := deal_of (vs := vs) (h := h) (L := L) sp ndL (fun x hx => (lotI_lt (sub.subset hx)).1) (by omega)
      refine ⟨d, (by_plus g hv bn h1 ha bs.by (L := L) fun a ha => lotI_mem.mp (sub.subset ha)).congr fun i hi => dealOf_gt hi⟩
    · rintro ⟨d, bd⟩
      have sd : su vs.length (gt a) = h := by rw [← d.len, ← sum_gt, d.sum]
      have bt := between g hv bn h1 ha bs (deal_bn d) h1 bd (by rw [sd]; exact t0) (by rw [sd]; exact t1)
      refine ⟨(lotI r vs s).filter fun x => decide (gt a x.toNat = s x.toNat + 1), ?_, ?_⟩
      · have sub : ((lotI r vs s).filter fun x => decide (gt a x.toNat = s x.toNat + 1)).Sublist (lotI r vs s) := List.filter_sublist
        have eq : ∀ i, i < vs.length → gt a i = plus s ((lotI r vs s).filter fun x => decide (gt a x.toNat = s x.toNat + 1)) i := fun i hi => by
          have b := bt i hi
          rw [give_at hi] at b
          by_cases m : i ∈ lot r vs s
          · rw [if_pos m] at b
            by_cases q : gt a i = s i + 1
            · rw [plus_in (List.mem_filter.mpr ⟨lotI_mem.mpr m, by rw [Int.toNat_natCast]; exact decide_eq_true q⟩), q]
            · rw [plus_out fun z => q (by
                have := of_decide_eq_true (List.mem_filter.mp z).2
                rw [Int.toNat_natCast] at this
                exact this)]
              omega
          · rw [if_neg m] at b
            rw [plus_out fun z => m (lotI_mem.mp (List.mem_filter.mp z).1)]
            omega
        refine (chs_mem lp).mpr ⟨sub, ?_⟩
        have ps := plus_sum (n := vs.length) (s := s) ((lotI_nd r vs s).sublist sub) fun x hx => (lotI_lt (sub.subset hx)).1
        have := su_congr (f := gt a) vs.length eq
        have t : tot vs s = su vs.length s := rfl
        omega
      · refine list_ext_gt (dealOf_len _ _ _) d.len fun i hi => ?_
        rw [dealOf_gt hi]
        have b := bt i hi
        rw [give_at hi] at b
        by_cases m : i ∈ lot r vs s
        · rw [if_pos m] at b
          by_cases q : gt a i = s i + 1
          · rw [plus_in (List.mem_filter.mpr ⟨lotI_mem.mpr m, by rw [Int.toNat_natCast]; exact decide_eq_true q⟩), q]
          · rw [plus_out fun z => q (by
              have := of_decide_eq_true (List.mem_filter.mp z).2
              rw [Int.toNat_natCast] at this
              exact this)]
            omega
        · rw [if_neg m] at b
          rw [plus_out fun z => m (lotI_mem.mp (List.mem_filter.mp z).1)]
          omega
theorem raw_sorted (g : GR r) (hv : Vok vs) {h : Int} {J : Nat} (e : Ends r vs h J) (h0 : 0 ≤ h) (h1 : h ≤ 200) (hact : h = 0 ∨ act vs ≠ []) {out : List (List Int)} (p : out.Perm (raw r vs h J)) (q : out.Pairwise fun x y => HT.lexLt y x = false) : out = Dls r vs h :=
  srt_uniq p (raw_perm g hv e h0 h1 hact).symm q (Dls_srt h0)
/-! ## grown -/
def Gro (r : R) (vs : List Int) (h : Int) (d : List Int) : List (List Int) := (Ev vs.length (h + 1)).filter fun e => ((List.range vs.length).all fun i => decide (gt d i ≤ gt e i)) && byb r vs e
theorem Gro_mem {h : Int} (h0 : 0 ≤ h) {d a : List Int} : a ∈ Gro r vs h d ↔ Deal vs (h + 1) a ∧ (∀ i, i < vs.length → gt d i ≤ gt a i) ∧ By r vs (gt a) := by
  unfold Gro
  rw [List.mem_filter, Ev_mem (by omega), Bool.and_eq_true, List.all_eq_true, byb_iff]
  constructor
  · rintro ⟨x, y, z⟩
    exact ⟨x, fun i hi => of_decide_eq_true (y i (List.mem_range.mpr hi)), z⟩
  · rintro ⟨x, y, z⟩
    exact ⟨x, fun i hi => decide_eq_true (y i (List.mem_range.mp hi)), z⟩
def rawG (r : R) (vs : List Int) (d : List Int) : List (List Int) := (lotI r vs (gt d)).map fun i => dealOf vs.length (gt d) [i]
theorem grown_perm (g : GR r) (hv : Vok vs) {h : Int} {d : List Int} (h0 : 0 ≤ h) (h1 : h ≤ 200) (hact : act vs ≠ []) (hd : Deal vs h d) (bd : By r vs (gt d)) : (rawG r vs d).Perm (Gro r vs h d) := by
  have bn := deal_bn hd
  have sd : su vs.length (gt d) = h := by rw [← hd.len, ← sum_gt, hd.sum]
  have nd : (rawG r vs d).Nodup := by
    refine List.pairwise_map.mpr (List.Pairwise.imp_of_mem ?_ (lotI_nd r vs (gt d)))
    intro x y hx hy ne q
    have bx := (lotI_lt hx).1
    have by' := (lotI_lt hy).1
    have g1 := dealOf_gt (n := vs.length) (s := gt d) (L := [x]) (i := x.toNat) (by omega)
    have g2 := dealOf_gt (n := vs.length) (s := gt d) (L := [y]) (i := x.toNat) (by omega)
    rw [q, g2, plus_out (L := [y]) (by rw [show ((x.toNat : Nat) : Int) = x by omega]; simpa using ne), plus_in (L := [x]) (by rw [show ((x.toNat : Nat) : Int) = x by omega]; simp)] at g1
    omega
  refine (List.perm_ext_iff_of_nodup nd ((Ev_nd (by omega) _).filter _)).mpr fun a => ?_
  show _ ↔ a ∈ Gro r vs h d
  rw [Gro_mem h0]
  unfold rawG
  rw [List.mem_map]
  constructor
  · rintro ⟨x, hx, rfl⟩
    have b := lotI_lt hx
    have D := deal_of (vs := vs) (h := h + 1) (s := gt d) (L := [x]) bn.lo (by simp) (fun y hy => by
      cases hy with
      | head => exact b.1
      | tail _ hy => cases hy) (by show su vs.length (gt d) + _ = _; rw [sd]; rfl)
    refine ⟨D, fun i hi => ?_, (by_plus g hv bn h1 hact bd (L := [x]) fun a ha => ?_).congr fun i hi => dealOf_gt hi⟩
    · rw [dealOf_gt hi]
      exact (plus_ge _ _).1
    · cases ha with
      | head => exact lotI_mem.mp hx
      | tail _ ha => cases ha
  · rintro ⟨D, up, B⟩
    have se : su vs.length (gt a) = h + 1 := by rw [← D.len, ← sum_gt, D.sum]
    obtain ⟨i, hi, eq⟩ := one_more g hv bn h1 hact bd B up (by omega)
    exact ⟨i, lotI_mem.mpr hi, list_ext_gt (dealOf_len _ _ _) D.len fun k hk => by rw [dealOf_gt hk, eq k hk]⟩
theorem grown_sorted (g : GR r) (hv : Vok vs) {h : Int} {d : List Int} (h0 : 0 ≤ h) (h1 : h ≤ 200) (hact : act vs ≠ []) (hd : Deal vs h d) (bd : By r vs (gt d)) {out : List (List Int)} (p : out.Perm (rawG r vs d)) (q : out.Pairwise fun x y => HT.lexLt y x = false) : out = Gro r vs h d :=
  srt_uniq p (grown_perm g hv h0 h1 hact hd bd).symm q (List.Pairwise.filter _ (Ev_srt (by omega) _))
theorem Gro_ne (g : GR r) (hv : Vok vs) {h : Int} {d : List Int} (h0 : 0 ≤ h) (h1 : h ≤ 200) (hact : act vs ≠ []) (hd : Deal vs h d) (bd : By r vs (gt d)) : Gro r vs h d ≠ [] := fun z => by
  obtain ⟨i, hi⟩ := best_at g hv (deal_bn hd) h1 hact
  have := (grown_perm g hv h0 h1 hact hd bd).mem_iff.mp (List.mem_map_of_mem (f := fun i => dealOf vs.length (gt d) [i]) (lotI_mem.mpr hi))
  rw [z] at this
  cases this
/-! ## a part exchanged -/
theorem mix (g : GR r) (hv : Vok vs) {d e : Sf} {c : Int} (bd : Bn vs.length c d) (be : Bn vs.length c e) (hc : c ≤ 200) (p : Nat → Prop) (hd : By r vs d) (out : ∀ a, a < vs.length → ¬ p a → e a = d a)
    (ez : ∀ i, i < vs.length → p i → ¬ 0 < vt vs i → e i = 0) (eo : ∀ i, i ∈ act vs → p i → ∀ j, j ∈ act vs → p j → 0 < e j → le (K r vs i (e i + 1)) (K r vs j (e j))) (t : su vs.length e = su vs.length d) : By r vs e := by
  by_cases w : ∃ w, w < vs.length ∧ e w < d w
  · obtain ⟨w, wl, ew⟩ := w
    obtain ⟨u, ul, eu⟩ : ∃ u, u < vs.length ∧ d u < e u := by
      have z : su vs.length (fun k => e k - d k) = 0 := by
        rw [su_sub]
        omega
      refine Classical.byContradiction fun y => ?_
      have all : ∀ k, k < vs.length → 0 ≤ -(e k - d k) := fun k hk => by
        have : ¬ d k < e k := fun q => y ⟨k, hk, q⟩
        omega
      have sn : su vs.length (fun k => -(e k - d k)) = 0 := by
        have := su_mul (fun k => e k - d k) (-1) vs.length
        rw [z] at this
        refine Eq.trans (su_congr _ fun t _ => ?_) this
        omega
      have := su_all0 _ all sn w wl
      omega
    have pw : p w := Classical.byContradiction fun q => by
      have := out w wl q
      omega
    have pu : p u := Classical.byContradiction fun q => by
      have := out u ul q
      omega
    have dw := bd.lo w
    have du := bd.lo u
    have ew0 := be.lo w
    have eu0 := be.lo u
    have dwh := bd.hi w wl
    have duh := bd.hi u ul
    have ewh := be.hi w wl
    have euh := be.hi u ul
    have aw : w ∈ act vs := act_of wl (Classical.byContradiction fun q => by
      have := hd.z w wl q
      omega)
    have au : u ∈ act vs := act_of ul (Classical.byContradiction fun q => by
      have := ez u ul pu q
      omega)
    have G := fun {i : Nat} (hi : i ∈ act vs) {m : Int} (m0 : 1 ≤ m) (m1 : m ≤ 300) => kg g hv hi (m := m) m0 m1
    have q1 : le (K r vs u (e u)) (K r vs u (d u + 1)) := kl g hv au (by omega) (by omega) (by omega)
    have q2 : le (K r vs u (d u + 1)) (K r vs w (d w)) := hd.o u au w aw (by omega)
    have q3 : le (K r vs w (d w)) (K r vs w (e w + 1)) := kl g hv aw (by omega) (by omega) (by omega)
    have q4 : le (K r vs w (e w + 1)) (K r vs u (e u)) := eo w aw pw u au pu (by omega)
    refine ⟨fun i hi hz => ?_, fun i hi j hj hp => ?_⟩
    · by_cases q : p i
      · exact ez i hi q hz
      · rw [out i hi q]
        exact hd.z i hi hz
    · have di := bd.lo i
      have dj := bd.lo j
      have ei := be.lo i
      have ej := be.lo j
      have dih := bd.hi i (act_vt hi).1
      have djh := bd.hi j (act_vt hj).1
      have eih := be.hi i (act_vt hi).1
      have ejh := be.hi j (act_vt hj).1
      have A : le (K r vs i (e i + 1)) (K r vs w (d w)) := by
        by_cases c1 : d i ≤ e i
        · exact gf_tr (G hi (by omega) (by omega)) (G hi (by omega) (by omega)) (G aw (by omega) (by omega)) (kl g hv hi (m := d i + 1) (by omega) (by omega) (by omega)) (hd.o i hi w aw (by omega))
        · have pi : p i := Classical.byContradiction fun q => by
            have := out i (act_vt hi).1 q
            omega
          exact gf_tr (G hi (by omega) (by omega)) (G au (by omega) (by omega)) (G aw (by omega) (by omega)) (eo i hi pi u au pu (by omega)) (gf_tr (G au (by omega) (by omega)) (G au (by omega) (by omega)) (G aw (by omega) (by omega)) q1 q2)
      have B : le (K r vs w (d w)) (K r vs j (e j)) := by
        by_cases c1 : e j ≤ d j
        · refine gf_tr (G aw (by omega) (by omega)) (G hj (m := d j) (by omega) (by omega)) (G hj (by omega) (by omega)) ?_ (kl g hv hj (by omega) c1 (by omega))
          exact gf_tr (G aw (by omega) (by omega)) (G au (m := d u + 1) (by omega) (by omega)) (G hj (by omega) (by omega)) (gf_tr (G aw (by omega) (by omega)) (G au (m := e u) (by omega) (by omega)) (G au (by omega) (by omega)) (gf_tr (G aw (by omega) (by omega)) (G aw (m := e w + 1) (by omega) (by omega)) (G au (by omega) (by omega)) q3 q4) q1) (hd.o u au j hj (by omega))
        · have pj : p j := Classical.byContradiction fun q => by
            have := out j (act_vt hj).1 q
            omega
          exact gf_tr (G aw (by omega) (by omega)) (G aw (m := e w + 1) (by omega) (by omega)) (G hj (by omega) (by omega)) q3 (eo w aw pw j hj pj hp)
      exact gf_tr (G hi (by omega) (by omega)) (G aw (by omega) (by omega)) (G hj (by omega) (by omega)) A B
  · have all : ∀ k, k < vs.length → 0 ≤ e k - d k := fun k hk => by
      have : ¬ e k < d k := fun q => w ⟨k, hk, q⟩
      omega
    have z := su_all0 _ all (by rw [su_sub]; omega)
    exact hd.congr fun a ha => by
      have := z a ha
      omega
end
end K40
namespace K40
open PySem PySem.Spec PyProof.Rows L2 Dl
def encR (r : R) (vs : List Int) (h : Int) : D := .tup [.str "race", enc r, encV vs, .int h]
local macro_rules | `(tactic| walk_at "ev") => `(tactic| try simp -dsimp only [↓dSeq_at, cInt2, oIs2, oNot2, encV, sp_is_within, sp_is_tuple, sp_is_integer, encR, dRet, dRetN, dNext, dIfS, dAsg, dDrop, dPar, dNever, dVar, dC, dOp, dUn, dTest, dChain, dAnd, dOr, dNot, dIf, dtAnd, dtOr, dtNot, dTup, daNil, daCons, dCall, dFn, dFnK, dNew, dLst, dOf,
  gdName, gdTup, gdCons, gdNil, gdSub, rdI, rdI0, oPlus, oSub, oTimes, oDiv, oMod, oPow, oLt, oLe, oGt, oGe, oIx, oEq, oNe, uNeg, oIsN, oNotN, D.isNon, cAbs, cMax, cMin, cInt, cDivmod, cLen, cIsi, tyD, items, litems, retD, sTup, mApp, dYes,
  atI_0, atI_1, atI_2, atI_3, atI_4, ixN_20, ixN_21, kit_ii, kit_ib, kit_is, kit_it, kit_il, kit_bi, kit_bb, kit_bs, kit_bt, kit_bl, kit_si, kit_sb, kit_ss, kit_st, kit_sl, kit_ti, kit_tb, kit_ts, kit_tt, kit_tl, kit_li, kit_lb, kit_ls, kit_lt, kit_ll,
  List.getElem?_cons_zero, List.getElem?_cons_succ, List.set_cons_zero, List.set_cons_succ, List.length_cons, List.length_nil, Mu.upd_same, Mu.upd_upd, Nat.zero_add, Nat.reduceAdd, Nat.reduceLeDiff, natlit, Int.reduceEq, Int.reduceLT, Int.reduceLE, Int.reduceAdd, Int.reduceSub, Int.reduceMul, Int.reducePow, Int.reduceNeg, permG2_10, permG3_210, zl_0, zl_1, zl_2, zl_3, zl_4, zl_5, zl_6, zl_7, zl_8, zl_9, zl_10, zl_11, zl_12, zl_13, zl_14, zl_15, zl_16, zl_17, zl_18, zl_19, zl_20, true_and, and_true, eq_self, not_true_eq_false, not_false_eq_true, decide_true, decide_false, if_true, Bool.false_eq_true, if_false, Bool.not_true, Bool.not_false, decide_eq_true_eq, Bool.not_eq_true', decide_eq_false_iff_not, Option.isSome, Option.map])
structure Rok (r : R) (vs : List Int) (h : Int) : Prop where
  g : GR r
  v : Vok vs
  h0 : 0 ≤ h
  h1 : h ≤ 200
def sp_is_race_any : DSp := fun ds μ Q => ∃ r vs h, ds = [encR r vs h] ∧ Rok r vs h ∧ Q (.bl true) μ
theorem len_is_race_any : ∀ ds μ Q, sp_is_race_any ds μ Q → ds.length = (["value"] : List Str).length := by
  rintro ds μ Q ⟨r, vs, h, rfl, _⟩
  rfl
def db_is_race_any : DTS := (dSeq (dIfS (dtOr (dtNot (dTest (dFn sp_is_tuple (daCons (dVar 0) (daCons (dC (.int 4)) daNil))))) (dtOr (dtNot (dTest (dCall cIsi (daCons (dOp oIx (dVar 0) (dC (.int 0))) (daCons (dC (.ty "str")) daNil))))) (dtOr (dTest (dOp oNe (dOp oIx (dVar 0) (dC (.int 0))) (dC (.str "race")))) (dtNot (dTest (dFn sp_is_rule_any (daCons (dOp oIx (dVar 0) (dC (.int 1))) daNil))))))) (dRet (dC (.bl false))) dNext) (dRet (dAnd (dFn sp_is_row_of_votes (daCons (dOp oIx (dVar 0) (dC (.int 2))) daNil)) (dFn sp_is_within (daCons (dOp oIx (dVar 0) (dC (.int 3))) (daCons (dC (.int 0)) (daCons (dC (.int 200)) daNil)))))))
theorem pf_is_race_any : ∀ ds μ Q, sp_is_race_any ds μ Q → db_is_race_any (retD Q) (startD ["value"] ds) μ := by
  rintro ds μ Q ⟨r, vs, h, rfl, ok, q⟩
  show db_is_race_any (retD Q) [some (encR r vs h)] μ
  unfold db_is_race_any
  refine sq fun U hU => ?_
  walk_at "ev"
  refine ⟨r, rfl, ok.g, ?_⟩
  walk_at "ev"
  refine hU.go ?_
  walk_at "ev"
  refine ⟨vs, rfl, ok.v, ?_⟩
  walk_at "ev"
  have a := ok.h0
  have b := ok.h1
  rw [decide_eq_true (by omega)]
  exact ⟨_, Mu.Sub.refl _, q⟩
def sp_want_race : DSp := fun ds μ Q => ∃ r vs h, ds = [encR r vs h] ∧ Rok r vs h ∧ Q .non μ
theorem len_want_race : ∀ ds μ Q, sp_want_race ds μ Q → ds.length = (["race"] : List Str).length := by
  rintro ds μ Q ⟨r, vs, h, rfl, _⟩
  rfl
def db_want_race : DTS := (dIfS (dtNot (dTest (dFn sp_is_race_any (daCons (dVar 0) daNil)))) dNever dNext)
theorem pf_want_race : ∀ ds μ Q, sp_want_race ds μ Q → db_want_race (retD Q) (startD ["race"] ds) μ := by
  rintro ds μ Q ⟨r, vs, h, rfl, ok, q⟩
  show db_want_race (retD Q) [some (encR r vs h)] μ
  unfold db_want_race
  walk_at "ev"
  refine ⟨r, vs, h, rfl, ok, ?_⟩
  walk_at "ev"
  exact ⟨_, Mu.Sub.refl _, q⟩
def sp_is_count : DSp := fun ds μ Q => match ds with | [.int v] => Q (.bl (decide (0 ≤ v))) μ | _ => False
local macro_rules | `(tactic| walk_at "ev") => `(tactic| try simp -dsimp only [↓dSeq_at, cInt2, oIs2, oNot2, encV, sp_is_within, sp_is_tuple, sp_is_count, encR, dRet, dRetN, dNext, dIfS, dAsg, dDrop, dPar, dNever, dVar, dC, dOp, dUn, dTest, dChain, dAnd, dOr, dNot, dIf, dtAnd, dtOr, dtNot, dTup, daNil, daCons, dCall, dFn, dFnK, dNew, dLst, dOf,
  gdName, gdTup, gdCons, gdNil, gdSub, rdI, rdI0, oPlus, oSub, oTimes, oDiv, oMod, oPow, oLt, oLe, oGt, oGe, oIx, oEq, oNe, uNeg, oIsN, oNotN, D.isNon, cAbs, cMax, cMin, cInt, cDivmod, cLen, cIsi, tyD, items, litems, retD, sTup, mApp, dYes,
  atI_0, atI_1, atI_2, atI_3, atI_4, ixN_20, ixN_21, kit_ii, kit_ib, kit_is, kit_it, kit_il, kit_bi, kit_bb, kit_bs, kit_bt, kit_bl, kit_si, kit_sb, kit_ss, kit_st, kit_sl, kit_ti, kit_tb, kit_ts, kit_tt, kit_tl, kit_li, kit_lb, kit_ls, kit_lt, kit_ll,
  List.getElem?_cons_zero, List.getElem?_cons_succ, List.set_cons_zero, List.set_cons_succ, List.length_cons, List.length_nil, Mu.upd_same, Mu.upd_upd, Nat.zero_add, Nat.reduceAdd, Nat.reduceLeDiff, natlit, Int.reduceEq, Int.reduceLT, Int.reduceLE, Int.reduceAdd, Int.reduceSub, Int.reduceMul, Int.reducePow, Int.reduceNeg, permG2_10, permG3_210, zl_0, zl_1, zl_2, zl_3, zl_4, zl_5, zl_6, zl_7, zl_8, zl_9, zl_10, zl_11, zl_12, zl_13, zl_14, zl_15, zl_16, zl_17, zl_18, zl_19, zl_20, true_and, and_true, eq_self, not_true_eq_false, not_false_eq_true, decide_true, decide_false, if_true, Bool.false_eq_true, if_false, Bool.not_true, Bool.not_false, decide_eq_true_eq, Bool.not_eq_true', decide_eq_false_iff_not, Option.isSome, Option.map])
def sp_is_deal_of : DSp := fun ds μ Q => ∃ r vs h d, ds = [encR r vs h, encV d] ∧ (Rok r vs h ∧ Deal vs h d) ∧ Q (.bl true) μ
def sp_want_deal : DSp := fun ds μ Q => ∃ r vs h d, ds = [encR r vs h, encV d] ∧ (Rok r vs h ∧ Deal vs h d) ∧ Q .non μ
theorem act_max {vs : List Int} {m : Int} (hm : m ∈ vs) (hl : ∀ y ∈ vs, y ≤ m) : 0 < m ↔ act vs ≠ [] := by
  constructor
  · intro p z
    obtain ⟨i, hi⟩ := List.mem_iff_getElem?.mp hm
    have il := (List.getElem?_eq_some_iff.mp hi).1
    have e : vt vs i = m := by
      have := gt_get il
      rw [hi] at this
      exact (Option.some.inj this).symm
    have := act_of (vs := vs) il (by rw [e]; exact p)
    rw [z] at this
    cases this
  · intro ne
    obtain ⟨i, hi⟩ := List.exists_mem_of_ne_nil _ ne
    have a := act_vt hi
    have := hl _ (List.mem_of_getElem? (gt_get (l := vs) a.1))
    have e : gt vs i = vt vs i := rfl
    omega
theorem act_dec (vs : List Int) : act vs = [] ∨ act vs ≠ [] := by
  cases act vs with
  | nil => exact .inl rfl
  | cons a l => exact .inr (fun z => nomatch z)
/-- whether a race has deals -/
def hasD (vs : List Int) (h : Int) : Prop := h = 0 ∨ act vs ≠ []
def sp_has_deals : DSp := fun ds μ Q => ∃ r vs h, ds = [encR r vs h] ∧ (Rok r vs h ∧ hasD vs h) ∧ Q (.bl true) μ
def sp_want_deals : DSp := fun ds μ Q => ∃ r vs h, ds = [encR r vs h] ∧ (Rok r vs h ∧ hasD vs h) ∧ Q .non μ
def sp_want_one_of : DSp := fun ds μ Q => ∃ r vs h d, ds = [encR r vs h, encV d] ∧ (Rok r vs h ∧ hasD vs h ∧ Deal vs h d) ∧ Q .non μ
/-! ## lots -/
theorem zip_typed (l m : List Int) : zipD (l.map D.int) (m.map D.int) = (l.zip m).map fun p => D.tup [.int p.1, .int p.2] := by
  unfold zipD
  rw [List.zipWith_map, List.zip, List.map_zipWith]
theorem inc_zip : ∀ (a : Int) (L : List Int), (a :: L).Pairwise (· < ·) → (((a :: L).zip L).all fun p => decide (p.1 < p.2)) = true
  | a, [], _ => rfl
  | a, b :: L, h => by
    have h1 := List.pairwise_cons.mp h
    rw [List.zip_cons_cons, List.all_cons, inc_zip b L h1.2, decide_eq_true (h1.1 b (List.mem_cons_self ..))]
    rfl
theorem inc_all {L : List Int} (h : L.Pairwise (· < ·)) : ((L.zip (L.drop 1)).all fun p => decide (p.1 < p.2)) = true := by
  cases L with
  | nil => rfl
  | cons a L => exact inc_zip a L h
structure Lok (n : Nat) (L : List Int) : Prop where
  inc : L.Pairwise (· < ·)
  bd : ∀ x ∈ L, 0 ≤ x ∧ x < n
  ne : L ≠ []
theorem Lok.nd {n : Nat} {L : List Int} (h : Lok n L) : L.Nodup := h.inc.imp fun h e => by omega
theorem Lok.len {n : Nat} {L : List Int} (h : Lok n L) : L.length ≤ n := by
  have e := su_mem n L h.nd h.bd
  have : su n (fun (i : Nat) => if (i : Int) ∈ L then (1 : Int) else 0) ≤ su n (fun _ => 1) := su_le n fun i _ => by split <;> omega
  have o : ∀ n, su n (fun _ => (1 : Int)) = n := fun n => by
    induction n with
    | zero => rfl
    | succ n ih =>
      rw [su_succ, ih]
      omega
  rw [e, o] at this
  omega
def sp_are_rising : DSp := fun ds μ Q => ∃ n L, ds = [encV L] ∧ (Lok n L ∧ n ≤ 12) ∧ Q (.bl true) μ
def sp_is_lot : DSp := fun ds μ Q => ∃ (L : List Int) (n : Nat), ds = [encV L, .int ((n : Int) - 1)] ∧ (Lok n L ∧ n ≤ 12) ∧ Q (.bl true) μ
def sp_want_lot : DSp := fun ds μ Q => ∃ r vs h L, ds = [encR r vs h, encV L] ∧ (Rok r vs h ∧ Lok vs.length L) ∧ Q .non μ
end K40
namespace K40
open PySem PySem.Spec PyProof.Rows L2 Dl
local macro_rules | `(tactic| walk_at "ev") => `(tactic| try simp -dsimp only [↓dSeq_at, cInt2, oIs2, oNot2, encV, sp_is_within, sp_is_tuple, sp_is_count, encR, dPar3, dRet, dRetN, dNext, dIfS, dAsg, dDrop, dPar, dNever, dVar, dC, dOp, dUn, dTest, dChain, dAnd, dOr, dNot, dIf, dtAnd, dtOr, dtNot, dTup, daNil, daCons, dCall, dFn, dFnK, dNew, dLst, dOf,
  gdName, gdTup, gdCons, gdNil, gdSub, rdI, rdI0, oPlus, oSub, oTimes, oDiv, oMod, oPow, oLt, oLe, oGt, oGe, oIx, oEq, oNe, uNeg, oIsN, oNotN, D.isNon, cAbs, cMax, cMin, cInt, cDivmod, cLen, cIsi, tyD, items, litems, retD, sTup, mApp, dYes,
  atI_0, atI_1, atI_2, atI_3, atI_4, ixN_20, ixN_21, kit_ii, kit_ib, kit_is, kit_it, kit_il, kit_bi, kit_bb, kit_bs, kit_bt, kit_bl, kit_si, kit_sb, kit_ss, kit_st, kit_sl, kit_ti, kit_tb, kit_ts, kit_tt, kit_tl, kit_li, kit_lb, kit_ls, kit_lt, kit_ll,
  List.getElem?_cons_zero, List.getElem?_cons_succ, List.set_cons_zero, List.set_cons_succ, List.length_cons, List.length_nil, Mu.upd_same, Mu.upd_upd, Nat.zero_add, Nat.reduceAdd, Nat.reduceLeDiff, natlit, Int.reduceEq, Int.reduceLT, Int.reduceLE, Int.reduceAdd, Int.reduceSub, Int.reduceMul, Int.reducePow, Int.reduceNeg, permG2_10, permG3_210, zl_0, zl_1, zl_2, zl_3, zl_4, zl_5, zl_6, zl_7, zl_8, zl_9, zl_10, zl_11, zl_12, zl_13, zl_14, zl_15, zl_16, zl_17, zl_18, zl_19, zl_20, true_and, and_true, eq_self, not_true_eq_false, not_false_eq_true, decide_true, decide_false, if_true, Bool.false_eq_true, if_false, Bool.not_true, Bool.not_false, decide_eq_true_eq, Bool.not_eq_true', decide_eq_false_iff_not, Option.isSome, Option.map])
theorem low_le {t b t' b' : Int} (h0 : 0 < b) (h1 : 0 < b') : le (low t b) (low t' b') ↔ t * b' ≤ t' * b := by
  have e1 := low_eqv (t := t) h0
  have e2 := low_eqv (t := t') h1
  have s1 := (low_sz (t := t) h0).1
  have s2 := (low_sz (t := t') h1).1
  constructor
  · intro z
    exact le_tr (p := (t, b)) (q := low t b) (r := (t', b')) h0 s1 h1 e1.2 (le_tr s1 s2 h1 z e2.1)
  · intro z
    have z : le (t, b) (t', b') := z
    exact le_tr s1 h0 s2 e1.1 (le_tr h0 h1 s2 z e2.2)
section
variable {r : R} {vs : List Int} {h : Int} {d : List Int}
def gains (r : R) (vs : List Int) (d : List Int) (i j : Nat) : Bool := decide (gt d j ≠ 0 ∧ i ≠ j ∧ vt vs j * (post r (gt d i + 1)).1 * (post r (gt d j)).2 < vt vs i * (post r (gt d j)).1 * (post r (gt d i + 1)).2)
theorem K_le (ok : Rok r vs h) {i j : Nat} {m n : Int} (m0 : 1 ≤ m) (m1 : m ≤ 300) (n0 : 1 ≤ n) (n1 : n ≤ 300) : le (K r vs i m) (K r vs j n) ↔ vt vs i * (post r n).1 * (post r m).2 ≤ vt vs j * (post r m).1 * (post r n).2 := by
  have p := post_pos ok.g m0 m1
  have q := post_pos ok.g n0 n1
  unfold K cost
  rw [low_le p.1 q.1, Int.mul_right_comm, Int.mul_right_comm (vt vs j)]
theorem gain_iff (ok : Rok r vs h) (hd : Deal vs h d) (ha : act vs ≠ []) : (∀ i j, i < vs.length → j < vs.length → gains r vs d i j = false) ↔ By r vs (gt d) := by
  have g := ok.g
  have hv := ok.v
  have h1 := ok.h1
  constructor
  · intro no
    have key : ∀ i j, i < vs.length → j < vs.length → 0 < gt d j → i ≠ j → vt vs i * (post r (gt d j)).1 * (post r (gt d i + 1)).2 ≤ vt vs j * (post r (gt d i + 1)).1 * (post r (gt d j)).2 := fun i j hi hj hp ne => by
      have := of_decide_eq_false (no i j hi hj)
      refine Classical.byContradiction fun z => this ⟨by omega, ne, by omega⟩
    refine ⟨fun j hj hz => Classical.byContradiction fun y => ?_, fun i hi j hj hp => ?_⟩
    · obtain ⟨i, hi⟩ := List.exists_mem_of_ne_nil _ ha
      have ai := act_vt hi
      have bi := gt_le hd ai.1
      have bj := gt_le hd hj
      have ne : i ≠ j := fun e => by
        subst e
        omega
      have k := key i j ai.1 hj (by omega) ne
      have v0 : vt vs j = 0 := by
        have := (hv.at j).1
        omega
      rw [v0, Int.zero_mul, Int.zero_mul] at k
      have p1 := post_pos g (m := gt d j) (by omega) (by omega)
      have p2 := post_pos g (m := gt d i + 1) (by omega) (by omega)
      have := Int.mul_pos (Int.mul_pos (show 0 < vt vs i by omega) p1.1) p2.2.2.1
      omega
    · have ai := act_vt hi
      have aj := act_vt hj
      have bi := gt_le hd ai.1
      have bj := gt_le hd aj.1
      by_cases e : i = j
      · subst e
        exact kl g hv hi (by omega) (by omega) (by omega)
      · exact (K_le ok (by omega) (by omega) (by omega) (by omega)).mpr (key i j ai.1 aj.1 hp e)
  · intro b i j hi hj
    refine decide_eq_false fun z => ?_
    obtain ⟨z1, z2, z3⟩ := z
    have bi := gt_le hd hi
    have bj := gt_le hd hj
    have p1 := post_pos g (m := gt d j) (by omega) (by omega)
    have p2 := post_pos g (m := gt d i + 1) (by omega) (by omega)
    have aj : j ∈ act vs := act_of hj (Classical.byContradiction fun y => by
      have := b.z j hj y
      omega)
    by_cases c : 0 < vt vs i
    · have ai := act_of hi c
      have := (K_le ok (by omega) (by omega) (by omega) (by omega)).mp (b.o i ai j aj (by omega))
      omega
    · have v0 : vt vs i = 0 := by
        have := (hv.at i).1
        omega
      rw [v0, Int.zero_mul, Int.zero_mul] at z3
      have := Int.mul_nonneg (Int.mul_nonneg (hv.at j).1 (Int.le_of_lt p2.1)) (Int.le_of_lt p1.2.2.1)
      omega
end
theorem a_at {a : List Int} {i : Nat} (hi : i < a.length) : atI (a.map D.int) (i : Int) = some (.int (gt a i)) := by
  refine atI_nat ?_
  rw [List.getElem?_map, gt_get hi]
  rfl
def sp_does_gain : DSp := fun ds μ Q => ∃ (r : R) (vs : List Int) (h : Int) (d : List Int) (i j : Nat), ds = [enc r, encV vs, encV d, .int (i : Int), .int (j : Int)] ∧ ((Rok r vs h ∧ Deal vs h d) ∧ i < vs.length ∧ j < vs.length) ∧ Q (.bl (gains r vs d i j)) μ
def sp_first_gain : DSp := fun ds μ Q => ∃ (r : R) (vs : List Int) (h : Int) (d : List Int), ds = [enc r, encV vs, encV d] ∧ (Rok r vs h ∧ Deal vs h d) ∧ ((∀ i j, i < vs.length → j < vs.length → gains r vs d i j = false) → Q .non μ) ∧ ∀ i j : Nat, i < vs.length → j < vs.length → gains r vs d i j = true → Q (.tup [.int (i : Int), .int (j : Int)]) μ
theorem range0_at {n : Int} {i : Nat} {x : D} (h : (rangeD 0 n)[i]? = some x) : x = .int (i : Int) ∧ (i : Int) < n := by
  have hl := (List.getElem?_eq_some_iff.mp h).1
  rw [rangeD_len] at hl
  unfold rangeD at h
  rw [List.getElem?_map, List.getElem?_range hl] at h
  cases h
  exact ⟨congrArg D.int (Int.zero_add _), by omega⟩
/-- seats only where there are votes, or no seats at all -/
def someD (vs : List Int) (d : List Int) : Prop := act vs ≠ [] ∨ ∀ i, i < vs.length → gt d i = 0
def sp_is_by : DSp := fun ds μ Q => ∃ (r : R) (vs : List Int) (h : Int) (d : List Int), ds = [encR r vs h, encV d] ∧ ((Rok r vs h ∧ Deal vs h d) ∧ someD vs d) ∧ Q (.bl (byb r vs d)) μ
def sp_is_by_rule : DSp := fun ds μ Q => ∃ (r : R) (vs : List Int) (h : Int) (d : List Int), ds = [encR r vs h, encV d] ∧ ((Rok r vs h ∧ Deal vs h d) ∧ act vs ≠ []) ∧ Q (.bl (byb r vs d)) μ
end K40
namespace K40
open PySem PySem.Spec PyProof.Rows L2 Dl
/-! ## the deal that comes seat by seat -/
theorem vt_len {vs : List Int} {i : Nat} (h : 0 < vt vs i) : i < vs.length := by
  refine Classical.byContradiction fun z => ?_
  unfold vt at h
  rw [List.getD_eq_getElem?_getD, List.getElem?_eq_none (by omega)] at h
  exact Int.lt_irrefl _ h
theorem K_zero {r : R} {vs : List Int} {i : Nat} (h : vt vs i = 0) (m : Int) : (K r vs i m).1 = 0 := by
  show (low (vt vs i * (post r m).2) (post r m).1).1 = 0
  rw [h, Int.zero_mul]
  unfold low
  exact Int.zero_ediv _
section
variable {r : R} {vs : List Int} (g : GR r) (hv : Vok vs)
include g hv
theorem Kp {i : Nat} {m : Int} (m0 : 1 ≤ m) (m1 : m ≤ 300) : 0 ≤ (K r vs i m).1 ∧ 0 < (K r vs i m).2 := by
  have b := post_bd g m0 m1
  have s := low_sz (t := vt vs i * (post r m).2) b.1
  exact ⟨s.2.2.2 (Int.mul_nonneg (hv.at i).1 (by omega)), s.1⟩
theorem K_pos {i : Nat} {m : Int} (h : 0 < vt vs i) (m0 : 1 ≤ m) (m1 : m ≤ 300) : 0 < (K r vs i m).1 :=
  (kg g hv (act_of (vt_len h) h) m0 m1).p1.1
theorem zero_le {i j : Nat} {m n : Int} (h : vt vs i = 0) (m0 : 1 ≤ m) (m1 : m ≤ 300) (n0 : 1 ≤ n) (n1 : n ≤ 300) : le (K r vs i m) (K r vs j n) := by
  show (K r vs i m).1 * _ ≤ _
  rw [K_zero h, Int.zero_mul]
  exact Int.mul_nonneg (Kp g hv n0 n1).1 (Int.le_of_lt (Kp g hv m0 m1).2)
theorem Kl {i : Nat} {m n : Int} (m0 : 1 ≤ m) (h : m ≤ n) (n1 : n ≤ 300) : le (K r vs i n) (K r vs i m) := by
  by_cases c : 0 < vt vs i
  · exact kl g hv (act_of (vt_len c) c) m0 h n1
  · have := (hv.at i).1
    exact zero_le g hv (by omega) (by omega) n1 m0 (by omega)
theorem By.all {s : Sf} {c : Int} (hs : By r vs s) (bn : Bn vs.length c s) (hc : c ≤ 250) {i j : Nat} (hi : i < vs.length) (hj : j < vs.length) (hp : 0 < s j) : le (K r vs i (s i + 1)) (K r vs j (s j)) := by
  have aj : 0 < vt vs j := Classical.byContradiction fun y => by
    have := hs.z j hj y
    omega
  have li := bn.lo i
  have ui := bn.hi i hi
  have uj := bn.hi j hj
  by_cases c : 0 < vt vs i
  · exact hs.o i (act_of hi c) j (act_of hj aj) hp
  · have := (hv.at i).1
    exact zero_le g hv (by omega) (by omega) (by omega) (by omega) (by omega)
end
/-- the first of the greatest -/
def fold1 (f : Nat → Int × Int) (b : Nat) (l : List Nat) : Nat := l.foldl (fun b x => if lt (f b) (f x) then x else b) b
theorem fold1_spec (f : Nat → Int × Int) : ∀ (l : List Nat) (b : Nat), 0 < (f b).2 → (∀ x ∈ l, 0 < (f x).2) →
    (fold1 f b l = b ∨ fold1 f b l ∈ l) ∧ le (f b) (f (fold1 f b l)) ∧ (∀ x ∈ l, le (f x) (f (fold1 f b l))) ∧ (fold1 f b l ≠ b → lt (f b) (f (fold1 f b l)))
  | [], b, _, _ => ⟨.inl rfl, le_rfl' _, (fun x hx => nomatch hx), fun z => absurd rfl z⟩
  | y :: l, b, pb, pl => by
    have py := pl y (List.mem_cons_self ..)
    have e : fold1 f b (y :: l) = fold1 f (if lt (f b) (f y) then y else b) l := rfl
    rw [e]
    by_cases c : lt (f b) (f y)
    · rw [if_pos c]
      obtain ⟨h1, h2, h3, h4⟩ := fold1_spec f l y py fun x hx => pl x (List.mem_cons_of_mem _ hx)
      have pz : 0 < (f (fold1 f y l)).2 := by
        rcases h1 with e | e
        · rw [e]; exact py
        · exact pl _ (List.mem_cons_of_mem _ e)
      have lb := lt_of_lt_le pb py pz c h2
      refine ⟨.inr ?_, lt_le lb, fun x hx => ?_, fun _ => lb⟩
      · rcases h1 with e | e
        · rw [e]; exact List.mem_cons_self ..
        · exact List.mem_cons_of_mem _ e
      · cases hx with
        | head => exact h2
        | tail _ hx => exact h3 x hx
    · rw [if_neg c]
      obtain ⟨h1, h2, h3, h4⟩ := fold1_spec f l b pb fun x hx => pl x (List.mem_cons_of_mem _ hx)
      have pz : 0 < (f (fold1 f b l)).2 := by
        rcases h1 with e | e
        · rw [e]; exact pb
        · exact pl _ (List.mem_cons_of_mem _ e)
      refine ⟨?_, h2, fun x hx => ?_, h4⟩
      · rcases h1 with e | e
        · exact .inl e
        · exact .inr (List.mem_cons_of_mem _ e)
      · cases hx with
        | head => exact le_tr py pb pz (not_lt.mp c) h2
        | tail _ hx => exact h3 x hx
def rest (n num : Nat) : List Nat := (List.range n).filter fun a => decide (a ≠ num)
def ordr (n num : Nat) (b : Bool) : List Nat := if b = true then num :: rest n num else rest n num ++ [num]
theorem rest_mem {n num a : Nat} : a ∈ rest n num ↔ a < n ∧ a ≠ num := by
  unfold rest
  rw [List.mem_filter, List.mem_range, decide_eq_true_eq]
theorem ordr_mem {n num a : Nat} {b : Bool} (h : num < n) : a ∈ ordr n num b ↔ a < n := by
  unfold ordr
  cases b
  · rw [if_neg (by decide), List.mem_append, rest_mem, List.mem_singleton]
    omega
  · rw [if_pos rfl, List.mem_cons, rest_mem]
    omega
def pk (r : R) (vs : List Int) (ord : List Nat) (s : Sf) : Nat := fold1 (pr r vs s) (ord.headD 0) ord.tail
theorem pk_spec {r : R} {vs : List Int} (g : GR r) (hv : Vok vs) {s : Sf} {c : Int} (bn : Bn vs.length c s) (hc : c ≤ 250) {num : Nat} (hn : num < vs.length) (b : Bool) {p : Nat} (e : pk r vs (ordr vs.length num b) s = p) :
    p < vs.length ∧ (∀ x, x < vs.length → le (pr r vs s x) (pr r vs s p)) ∧ (b = true → p ≠ num → lt (pr r vs s num) (pr r vs s p)) ∧ (b = false → p = num → ∀ x, x < vs.length → x ≠ num → lt (pr r vs s x) (pr r vs s num)) := by
  have P : ∀ x, x < vs.length → 0 < (pr r vs s x).2 := fun x hx => (Kp g hv (by have := bn.lo x; omega) (by have := bn.hi x hx; omega)).2
  cases b with
  | true =>
    have e : fold1 (pr r vs s) num (rest vs.length num) = p := e
    obtain ⟨h1, h2, h3, h4⟩ := fold1_spec (pr r vs s) (rest vs.length num) num (P num hn) fun x hx => P x (rest_mem.mp hx).1
    rw [e] at h1 h2 h3 h4
    refine ⟨?_, fun x hx => ?_, fun _ ne => h4 ne, fun z => nomatch z⟩
    · rcases h1 with q | q
      · omega
      · exact (rest_mem.mp q).1
    · by_cases q : x = num
      · rw [q]; exact h2
      · exact h3 x (rest_mem.mpr ⟨hx, q⟩)
  | false =>
    have e : fold1 (pr r vs s) ((rest vs.length num ++ [num]).headD 0) (rest vs.length num ++ [num]).tail = p := e
    cases er : rest vs.length num with
    | nil =>
      rw [er] at e
      have e : num = p := e
      subst e
      have one : ∀ x, x < vs.length → x = num := fun x hx => Classical.byContradiction fun q => by
        have := rest_mem.mpr ⟨hx, q⟩
        rw [er] at this
        cases this
      exact ⟨hn, fun x hx => by rw [one x hx]; exact le_rfl' _, (fun z => nomatch z), fun _ _ x hx q => absurd (one x hx) q⟩
    | cons y l =>
      rw [er] at e
      have e : fold1 (pr r vs s) y (l ++ [num]) = p := e
      have e : (if lt (pr r vs s (fold1 (pr r vs s) y l)) (pr r vs s num) then num else fold1 (pr r vs s) y l) = p := by
        rw [← e]
        unfold fold1
        rw [List.foldl_append]
        rfl
      have M : ∀ x, x ∈ y :: l → x < vs.length ∧ x ≠ num := fun x hx => rest_mem.mp (by rw [er]; exact hx)
      obtain ⟨h1, h2, h3, h4⟩ := fold1_spec (pr r vs s) l y (P y (M y (List.mem_cons_self ..)).1) fun x hx => P x (M x (List.mem_cons_of_mem _ hx)).1
      generalize fold1 (pr r vs s) y l = q at e h1 h2 h3 h4
      have mq : q < vs.length ∧ q ≠ num := by
        rcases h1 with z | z
        · rw [z]; exact M y (List.mem_cons_self ..)
        · exact M q (List.mem_cons_of_mem _ z)
      have up : ∀ x, x < vs.length → x ≠ num → le (pr r vs s x) (pr r vs s q) := fun x hx nx => by
        have : x ∈ y :: l := by rw [← er]; exact rest_mem.mpr ⟨hx, nx⟩
        cases this with
        | head => exact h2
        | tail _ hx => exact h3 x hx
      by_cases c : lt (pr r vs s q) (pr r vs s num)
      · rw [if_pos c] at e
        subst e
        have all : ∀ x, x < vs.length → x ≠ num → lt (pr r vs s x) (pr r vs s num) := fun x hx nx => lt_of_le_lt (P x hx) (P q mq.1) (P num hn) (up x hx nx) c
        refine ⟨hn, fun x hx => ?_, (fun z => nomatch z), fun _ _ => all⟩
        by_cases nx : x = num
        · rw [nx]; exact le_rfl' _
        · exact lt_le (all x hx nx)
      · rw [if_neg c] at e
        subst e
        refine ⟨mq.1, fun x hx => ?_, (fun z => nomatch z), fun _ z => absurd z mq.2⟩
        by_cases nx : x = num
        · rw [nx]; exact not_lt.mp c
        · exact up x hx nx
def G (r : R) (vs : List Int) (ord : List Nat) : Nat → Sf
  | 0 => fun _ => 0
  | k + 1 => plus (G r vs ord k) [((pk r vs ord (G r vs ord k) : Nat) : Int)]
theorem bump {s : Sf} {p a : Nat} : plus s [((p : Nat) : Int)] a = if a = p then s a + 1 else s a := by
  by_cases e : a = p
  · rw [if_pos e, plus_in (by rw [e]; exact List.mem_singleton.mpr rfl)]
  · rw [if_neg e, plus_out fun z => e (by have := List.mem_singleton.mp z; omega)]
section
variable {r : R} {vs : List Int} (g : GR r) (hv : Vok vs) (ha : act vs ≠ []) {num : Nat} (hn : num < vs.length) (b : Bool)
include g hv ha hn
theorem pk_lot {s : Sf} {c : Int} (bn : Bn vs.length c s) (hc : c ≤ 200) : pk r vs (ordr vs.length num b) s ∈ lot r vs s := by
  obtain ⟨h1, h2, _, _⟩ := pk_spec g hv bn (by omega) hn b rfl
  generalize pk r vs (ordr vs.length num b) s = p at h1 h2
  obtain ⟨a, la⟩ := best_at g hv bn hc ha
  obtain ⟨aa, ea⟩ := lot_iff.mp la
  have av := act_vt aa
  have lp := bn.lo p
  have up := bn.hi p h1
  have l2 := h2 a av.1
  have ap : p ∈ act vs := act_of h1 (Classical.byContradiction fun z => by
    have z0 : vt vs p = 0 := by
      have := (hv.at p).1
      omega
    have x : (pr r vs s a).1 * (pr r vs s p).2 ≤ (pr r vs s p).1 * (pr r vs s a).2 := l2
    have y : (pr r vs s p).1 = 0 := K_zero z0 _
    rw [y, Int.zero_mul] at x
    have ga := kg g hv aa (m := s a + 1) (by have := bn.lo a; omega) (by have := bn.hi a av.1; omega)
    have gp := (Kp g hv (i := p) (m := s p + 1) (by omega) (by omega)).2
    have := Int.mul_pos ga.p1.1 gp
    have : 0 < (pr r vs s a).1 * (pr r vs s p).2 := this
    omega)
  refine lot_iff.mpr ⟨ap, can_eq (kg g hv ap (by omega) (by omega)) (best_gf g hv bn hc ha) (best_up g hv bn hc ha ap) ?_⟩
  rw [← ea]
  exact l2
theorem G_ok : ∀ k : Nat, k ≤ 200 → By r vs (G r vs (ordr vs.length num b) k) ∧ Bn vs.length (k : Int) (G r vs (ordr vs.length num b) k) ∧ su vs.length (G r vs (ordr vs.length num b) k) = (k : Int)
  | 0, _ => ⟨⟨fun _ _ _ => rfl, fun i _ j _ hp => absurd hp (Int.lt_irrefl 0)⟩, ⟨fun _ => Int.le_refl 0, fun _ _ => Int.le_refl 0⟩, su_zero _⟩
  | k + 1, hk => by
    obtain ⟨h1, h2, h3⟩ := G_ok k (by omega)
    have hp := pk_lot g hv ha hn b h2 (by omega)
    have pl := (act_vt (lot_iff.mp hp).1).1
    refine ⟨by_plus g hv h2 (by omega) ha h1 (L := [_]) fun a hm => ?_, ⟨fun a => ?_, fun a hl => ?_⟩, ?_⟩
    · have e : a = pk r vs (ordr vs.length num b) (G r vs (ordr vs.length num b) k) := by
        have := List.mem_singleton.mp hm
        omega
      rw [e]
      exact hp
    · have := (plus_ge (s := G r vs (ordr vs.length num b) k) [((pk r vs (ordr vs.length num b) (G r vs (ordr vs.length num b) k) : Nat) : Int)] a).1
      have := h2.lo a
      show 0 ≤ plus _ _ a
      omega
    · have := (plus_ge (s := G r vs (ordr vs.length num b) k) [((pk r vs (ordr vs.length num b) (G r vs (ordr vs.length num b) k) : Nat) : Int)] a).2
      have := h2.hi a hl
      show plus _ _ a ≤ ((k + 1 : Nat) : Int)
      omega
    · have := plus_sum (n := vs.length) (s := G r vs (ordr vs.length num b) k) (L := [((pk r vs (ordr vs.length num b) (G r vs (ordr vs.length num b) k) : Nat) : Int)]) (by simp) (fun x hx => by
        rw [List.mem_singleton.mp hx]
        omega)
      show su vs.length (plus _ _) = _
      rw [this, h3]
      rfl
theorem G_first : ∀ k : Nat, k ≤ 200 → ∀ j, j < vs.length → j ≠ num → 0 < G r vs (ordr vs.length num true) k j → lt (K r vs num (G r vs (ordr vs.length num true) k num + 1)) (K r vs j (G r vs (ordr vs.length num true) k j))
  | 0, _, j, _, _, hp => absurd hp (Int.lt_irrefl 0)
  | k + 1, hk, j, hj, nj, hp => by
    have ih := G_first k (by omega) j hj nj
    obtain ⟨h1, h2, h3⟩ := G_ok g hv ha hn true k (by omega)
    obtain ⟨q1, q2, q3, _⟩ := pk_spec g hv h2 (by omega) hn true rfl
    have e : G r vs (ordr vs.length num true) (k + 1) = plus (G r vs (ordr vs.length num true) k) [((pk r vs (ordr vs.length num true) (G r vs (ordr vs.length num true) k) : Nat) : Int)] := rfl
    rw [e] at hp ⊢
    generalize pk r vs (ordr vs.length num true) (G r vs (ordr vs.length num true) k) = p at *
    generalize G r vs (ordr vs.length num true) k = s at *
    have ln := h2.lo num
    have un := h2.hi num hn
    have lj := h2.lo j
    have uj := h2.hi j hj
    rw [bump] at hp
    rw [bump, bump]
    by_cases c : p = num
    · have nz : ¬ j = p := by omega
      rw [if_neg nz] at hp
      rw [if_pos c.symm, if_neg nz]
      exact lt_of_le_lt (Kp g hv (by omega) (by omega)).2 (Kp g hv (by omega) (by omega)).2 (Kp g hv (by omega) (by omega)).2 (Kl g hv (m := s num + 1) (n := s num + 1 + 1) (by omega) (by omega) (by omega)) (ih hp)
    · have nz : ¬ num = p := fun z => c z.symm
      rw [if_neg nz]
      by_cases d : j = p
      · rw [if_pos d, d]
        exact q3 rfl c
      · rw [if_neg d] at hp ⊢
        exact ih hp
theorem G_last : ∀ k : Nat, k ≤ 200 → 0 < G r vs (ordr vs.length num false) k num → ∀ j, j < vs.length → j ≠ num → lt (K r vs j (G r vs (ordr vs.length num false) k j + 1)) (K r vs num (G r vs (ordr vs.length num false) k num))
  | 0, _, hp, _, _, _ => absurd hp (Int.lt_irrefl 0)
  | k + 1, hk, hp, j, hj, nj => by
    have ih := fun hp => G_last k (by omega) hp j hj nj
    obtain ⟨h1, h2, h3⟩ := G_ok g hv ha hn false k (by omega)
    obtain ⟨q1, q2, _, q3⟩ := pk_spec g hv h2 (by omega) hn false rfl
    have e : G r vs (ordr vs.length num false) (k + 1) = plus (G r vs (ordr vs.length num false) k) [((pk r vs (ordr vs.length num false) (G r vs (ordr vs.length num false) k) : Nat) : Int)] := rfl
    rw [e] at hp ⊢
    generalize pk r vs (ordr vs.length num false) (G r vs (ordr vs.length num false) k) = p at *
    generalize G r vs (ordr vs.length num false) k = s at *
    have ln := h2.lo num
    have un := h2.hi num hn
    have lj := h2.lo j
    have uj := h2.hi j hj
    rw [bump] at hp
    rw [bump, bump]
    by_cases c : p = num
    · have nz : ¬ j = p := by omega
      rw [if_pos c.symm, if_neg nz]
      exact q3 rfl c j hj nj
    · have nz : ¬ num = p := fun z => c z.symm
      rw [if_neg nz] at hp
      rw [if_neg nz]
      by_cases d : j = p
      · rw [if_pos d]
        exact lt_of_le_lt (Kp g hv (by omega) (by omega)).2 (Kp g hv (by omega) (by omega)).2 (Kp g hv (by omega) (by omega)).2 (Kl g hv (m := s j + 1) (n := s j + 1 + 1) (by omega) (by omega) (by omega)) (ih hp)
      · rw [if_neg d]
        exact ih hp
end
end K40
namespace K40
open PySem PySem.Spec PyProof.Rows L2 Dl
/-! ## the most, the least seats -/
theorem cross {n : Nat} {d e : Sf} (t : su n d = su n e) {a : Nat} (ha : a < n) (h : d a < e a) : ∃ j, j < n ∧ j ≠ a ∧ e j < d j := by
  obtain ⟨j, hj, hl⟩ := su_some_neg (f := fun i => e i - d i) (n := n) ha (by show 0 < e a - d a; omega) (by rw [su_sub]; omega)
  have hl : e j - d j < 0 := hl
  exact ⟨j, hj, fun z => by subst z; omega, by omega⟩
structure Dd (r : R) (vs : List Int) (h : Int) (s : Sf) : Prop where
  by' : By r vs s
  bn : Bn vs.length h s
  sm : su vs.length s = h
theorem K_votes {r : R} {vs vs' : List Int} (g : GR r) {i : Nat} {m : Int} (m0 : 1 ≤ m) (m1 : m ≤ 300) (h : vt vs i ≤ vt vs' i) : le (K r vs i m) (K r vs' i m) := by
  have p := post_pos g m0 m1
  refine (low_le p.1 p.1).mpr ?_
  rw [Int.mul_right_comm, Int.mul_right_comm (vt vs' i)]
  exact Int.mul_le_mul_of_nonneg_right (Int.mul_le_mul_of_nonneg_right h (by omega)) (by omega)
section
variable {r : R} {vs vs' : List Int} {h : Int} (g : GR r) (hv : Vok vs) (hv' : Vok vs') (el : vs'.length = vs.length) (h1 : h ≤ 200) {num : Nat} (hn : num < vs.length)
  (up : vt vs num ≤ vt vs' num) (dn : ∀ j, j ≠ num → vt vs' j ≤ vt vs j) {d e : Sf}
include g hv hv' el h1 hn up dn
theorem first_up (hd : Dd r vs h d) (he : Dd r vs' h e) (fi : ∀ j, j < vs'.length → j ≠ num → 0 < e j → lt (K r vs' num (e num + 1)) (K r vs' j (e j))) : d num ≤ e num := by
  refine Classical.byContradiction fun z => ?_
  obtain ⟨j, hj, nj, lj⟩ := cross (n := vs.length) (d := e) (e := d) (by rw [hd.sm, ← el, he.sm]) hn (by omega)
  have dj := hd.bn.lo j
  have ej := he.bn.hi j (by omega)
  have en := he.bn.lo num
  have dn' := hd.bn.hi num hn
  have P := fun {i : Nat} {m : Int} (m0 : 1 ≤ m) (m1 : m ≤ 300) => (Kp g hv (i := i) m0 m1).2
  have P' := fun {i : Nat} {m : Int} (m0 : 1 ≤ m) (m1 : m ≤ 300) => (Kp g hv' (i := i) m0 m1).2
  have a1 := fi j (by omega) nj (by omega)
  have a2 : le (K r vs' j (e j)) (K r vs' j (d j + 1)) := Kl g hv' (by omega) (by omega) (by omega)
  have a3 : le (K r vs' j (d j + 1)) (K r vs j (d j + 1)) := K_votes g (by omega) (by omega) (dn j nj)
  have a4 : le (K r vs j (d j + 1)) (K r vs num (d num)) := hd.by'.all g hv hd.bn (by omega) hj hn (by omega)
  have a5 : le (K r vs num (d num)) (K r vs num (e num + 1)) := Kl g hv (by omega) (by omega) (by omega)
  have a6 : le (K r vs num (e num + 1)) (K r vs' num (e num + 1)) := K_votes g (by omega) (by omega) up
  have c1 := le_tr (P (by omega) (by omega)) (P (by omega) (by omega)) (P' (by omega) (by omega)) a5 a6
  have c2 := le_tr (P (by omega) (by omega)) (P (by omega) (by omega)) (P' (by omega) (by omega)) a4 c1
  have c3 := le_tr (P' (by omega) (by omega)) (P (by omega) (by omega)) (P' (by omega) (by omega)) a3 c2
  have c4 := le_tr (P' (by omega) (by omega)) (P' (by omega) (by omega)) (P' (by omega) (by omega)) a2 c3
  have c5 := lt_of_lt_le (P' (by omega) (by omega)) (P' (by omega) (by omega)) (P' (by omega) (by omega)) a1 c4
  exact Int.lt_irrefl _ c5
theorem last_up (he : Dd r vs h e) (hd : Dd r vs' h d) (la : 0 < e num → ∀ j, j < vs.length → j ≠ num → lt (K r vs j (e j + 1)) (K r vs num (e num))) : e num ≤ d num := by
  refine Classical.byContradiction fun z => ?_
  obtain ⟨j, hj, nj, lj⟩ := cross (n := vs.length) (d := d) (e := e) (by rw [he.sm, ← el, hd.sm]) hn (by omega)
  have dj := hd.bn.hi j (by omega)
  have ej := he.bn.lo j
  have en := he.bn.hi num hn
  have dn' := hd.bn.lo num
  have P := fun {i : Nat} {m : Int} (m0 : 1 ≤ m) (m1 : m ≤ 300) => (Kp g hv (i := i) m0 m1).2
  have P' := fun {i : Nat} {m : Int} (m0 : 1 ≤ m) (m1 : m ≤ 300) => (Kp g hv' (i := i) m0 m1).2
  have a1 := la (by omega) j hj nj
  have a2 : le (K r vs num (e num)) (K r vs num (d num + 1)) := Kl g hv (by omega) (by omega) (by omega)
  have a3 : le (K r vs num (d num + 1)) (K r vs' num (d num + 1)) := K_votes g (by omega) (by omega) up
  have a4 : le (K r vs' num (d num + 1)) (K r vs' j (d j)) := hd.by'.all g hv' hd.bn (by omega) (by omega) (by omega) (by omega)
  have a5 : le (K r vs' j (d j)) (K r vs' j (e j + 1)) := Kl g hv' (by omega) (by omega) (by omega)
  have a6 : le (K r vs' j (e j + 1)) (K r vs j (e j + 1)) := K_votes g (by omega) (by omega) (dn j nj)
  have c1 := le_tr (P' (by omega) (by omega)) (P' (by omega) (by omega)) (P (by omega) (by omega)) a5 a6
  have c2 := le_tr (P' (by omega) (by omega)) (P' (by omega) (by omega)) (P (by omega) (by omega)) a4 c1
  have c3 := le_tr (P (by omega) (by omega)) (P' (by omega) (by omega)) (P (by omega) (by omega)) a3 c2
  have c4 := le_tr (P (by omega) (by omega)) (P (by omega) (by omega)) (P (by omega) (by omega)) a2 c3
  have c5 := lt_of_lt_le (P (by omega) (by omega)) (P (by omega) (by omega)) (P (by omega) (by omega)) a1 c4
  exact Int.lt_irrefl _ c5
end
def Gs (r : R) (vs : List Int) (h : Int) (num : Nat) (b : Bool) : Sf := G r vs (ordr vs.length num b) h.toNat
section
variable {r : R} {vs : List Int} {h : Int} (g : GR r) (hv : Vok vs) (h0 : 0 ≤ h) (h1 : h ≤ 200) {num : Nat} (hn : num < vs.length)
theorem dls_dd (h0 : 0 ≤ h) {a : List Int} (m : a ∈ Dls r vs h) : Dd r vs h (gt a) := by
  obtain ⟨d, b⟩ := (Dls_mem h0).mp m
  exact ⟨b, deal_bn d, by rw [← d.len, ← sum_gt, d.sum]⟩
theorem Dd.list (h0 : 0 ≤ h) {s : Sf} (k : Dd r vs h s) : ∃ a, a ∈ Dls r vs h ∧ ∀ i, i < vs.length → gt a i = s i := by
  have e : ∀ i, i < vs.length → gt (dealOf vs.length s []) i = s i := fun i hi => by
    rw [dealOf_gt hi, plus_out (by simp)]
  refine ⟨dealOf vs.length s [], (Dls_mem h0).mpr ⟨deal_of k.bn.lo List.nodup_nil (fun x hx => by simp at hx) ?_, k.by'.congr e⟩, e⟩
  show su vs.length s + 0 = h
  rw [k.sm, Int.add_zero]
include g hv h0 h1 hn
theorem Gs_dd (hd : hasD vs h) (b : Bool) : Dd r vs h (Gs r vs h num b) := by
  rcases act_dec vs with z | ha
  · have e : h = 0 := hd.resolve_right fun q => q z
    subst e
    exact ⟨⟨fun _ _ _ => rfl, fun i _ j _ hp => absurd hp (Int.lt_irrefl 0)⟩, ⟨fun _ => Int.le_refl 0, fun _ _ => Int.le_refl 0⟩, su_zero _⟩
  · obtain ⟨q1, q2, q3⟩ := G_ok g hv ha hn b h.toNat (by omega)
    rw [show ((h.toNat : Nat) : Int) = h by omega] at q2 q3
    exact ⟨q1, q2, q3⟩
theorem Gs_first (hd : hasD vs h) : ∀ j, j < vs.length → j ≠ num → 0 < Gs r vs h num true j → lt (K r vs num (Gs r vs h num true num + 1)) (K r vs j (Gs r vs h num true j)) := by
  rcases act_dec vs with z | ha
  · have e : h = 0 := hd.resolve_right fun q => q z
    subst e
    exact fun j _ _ hp => absurd hp (Int.lt_irrefl 0)
  · exact G_first g hv ha hn h.toNat (by omega)
theorem Gs_last (hd : hasD vs h) : 0 < Gs r vs h num false num → ∀ j, j < vs.length → j ≠ num → lt (K r vs j (Gs r vs h num false j + 1)) (K r vs num (Gs r vs h num false num)) := by
  rcases act_dec vs with z | ha
  · have e : h = 0 := hd.resolve_right fun q => q z
    subst e
    exact fun hp => absurd hp (Int.lt_irrefl 0)
  · exact G_last g hv ha hn h.toNat (by omega)
theorem first_max (hd : hasD vs h) {d : Sf} (k : Dd r vs h d) : d num ≤ Gs r vs h num true num :=
  first_up g hv hv rfl h1 hn (Int.le_refl _) (fun _ _ => Int.le_refl _) k (Gs_dd g hv h0 h1 hn hd true) (Gs_first g hv h0 h1 hn hd)
theorem last_min (hd : hasD vs h) {d : Sf} (k : Dd r vs h d) : Gs r vs h num false num ≤ d num :=
  last_up g hv hv rfl h1 hn (Int.le_refl _) (fun _ _ => Int.le_refl _) (Gs_dd g hv h0 h1 hn hd false) k (Gs_last g hv h0 h1 hn hd)
theorem dls_ne : Dls r vs h ≠ [] ↔ hasD vs h := by
  constructor
  · intro ne
    obtain ⟨a, m⟩ := List.exists_mem_of_ne_nil _ ne
    have k := dls_dd h0 m
    rcases act_dec vs with z | ha
    · refine .inl ?_
      rw [← k.sm, ← su_zero vs.length]
      refine su_congr _ fun i hi => k.by'.z i hi fun p => ?_
      have := act_of hi p
      rw [z] at this
      cases this
    · exact .inr ha
  · intro hd
    obtain ⟨a, m, _⟩ := (Gs_dd g hv h0 h1 hn hd true).list h0
    exact List.ne_nil_of_mem m
end
/-- as it is asked -/
def holdb (r : R) (vs : List Int) (h : Int) (num : Nat) (some : Bool) (s : Int) (more : Bool) : Bool :=
  !(Dls r vs h).isEmpty && (if some = true then (Dls r vs h).any fun a => if more = true then decide (s ≤ gt a num) else decide (gt a num ≤ s) else (Dls r vs h).all fun a => if more = true then decide (s ≤ gt a num) else decide (gt a num ≤ s))
theorem holdb_iff {r : R} {vs : List Int} {h : Int} (g : GR r) (hv : Vok vs) (h0 : 0 ≤ h) (h1 : h ≤ 200) {num : Nat} (hn : num < vs.length) (w : Bool) (s : Int) (more : Bool) :
    holdb r vs h num w s more = true ↔ hasD vs h ∧ if more = true then s ≤ Gs r vs h num w num else Gs r vs h num (!w) num ≤ s := by
  unfold holdb
  have E : (!(Dls r vs h).isEmpty) = true ↔ hasD vs h := by
    rw [← dls_ne g hv h0 h1 hn]
    simp
  rw [Bool.and_eq_true, E]
  refine and_congr_right fun hd => ?_
  have F := Gs_dd g hv h0 h1 hn hd
  cases w with
  | true =>
    rw [if_pos rfl, List.any_eq_true]
    cases more with
    | true =>
      rw [if_pos rfl]
      constructor
      · rintro ⟨a, m, q⟩
        have q := of_decide_eq_true ((if_pos rfl).symm.trans q)
        have := first_max g hv h0 h1 hn hd (dls_dd h0 m)
        omega
      · intro q
        obtain ⟨a, m, e⟩ := (F true).list h0
        exact ⟨a, m, (if_pos rfl).trans (decide_eq_true (by rw [e num hn]; exact q))⟩
    | false =>
      rw [if_neg (by decide)]
      constructor
      · rintro ⟨a, m, q⟩
        have q := of_decide_eq_true ((if_neg (by decide)).symm.trans q)
        have := last_min g hv h0 h1 hn hd (dls_dd h0 m)
        show Gs r vs h num false num ≤ s
        omega
      · intro q
        obtain ⟨a, m, e⟩ := (F false).list h0
        exact ⟨a, m, (if_neg (by decide)).trans (decide_eq_true (by rw [e num hn]; exact q))⟩
  | false =>
    rw [if_neg (by decide), List.all_eq_true]
    cases more with
    | true =>
      rw [if_pos rfl]
      constructor
      · intro q
        obtain ⟨a, m, e⟩ := (F false).list h0
        have := of_decide_eq_true ((if_pos rfl).symm.trans (q a m))
        rw [e num hn] at this
        exact this
      · intro q a m
        have := last_min g hv h0 h1 hn hd (dls_dd h0 m)
        exact (if_pos rfl).trans (decide_eq_true (by omega))
    | false =>
      rw [if_neg (by decide)]
      constructor
      · intro q
        obtain ⟨a, m, e⟩ := (F true).list h0
        have := of_decide_eq_true ((if_neg (by decide)).symm.trans (q a m))
        rw [e num hn] at this
        exact this
      · intro q a m
        have := first_max g hv h0 h1 hn hd (dls_dd h0 m)
        have q : Gs r vs h num true num ≤ s := q
        exact (if_neg (by decide)).trans (decide_eq_true (by omega))
end K40
namespace K40
open PySem PySem.Spec PyProof.Rows L2 Dl
/-! ## the price of the others -/
def oth (vs : List Int) (num : Nat) : List Int := vs.take num ++ vs.drop (num + 1)
def sh (num i : Nat) : Nat := if i < num then i else i + 1
section
variable {vs : List Int} {num : Nat} (hn : num < vs.length)
include hn
theorem oth_len : (oth vs num).length + 1 = vs.length := by
  unfold oth
  rw [List.length_append, List.length_take, List.length_drop]
  omega
theorem sh_lt {i : Nat} (hi : i < (oth vs num).length) : sh num i < vs.length ∧ sh num i ≠ num := by
  have := oth_len hn
  unfold sh
  split <;> omega
theorem oth_vt {i : Nat} : vt (oth vs num) i = vt vs (sh num i) := by
  unfold vt oth sh
  rw [List.getD_eq_getElem?_getD, List.getD_eq_getElem?_getD]
  refine congrArg (fun x : Option Int => x.getD 0) ?_
  by_cases c : i < num
  · rw [if_pos c, List.getElem?_append_left (by rw [List.length_take]; omega), List.getElem?_take, if_pos c]
  · rw [if_neg c, List.getElem?_append_right (by rw [List.length_take]; omega), List.getElem?_drop, List.length_take]
    refine congrArg _ ?_
    omega
theorem oth_K (r : R) (i : Nat) (m : Int) : K r (oth vs num) i m = K r vs (sh num i) m := by
  show cost r _ m = cost r _ m
  rw [oth_vt hn]
omit hn in
theorem su_split (d : Nat → Int) : ∀ n, num ≤ n → su (n + 1) d = d num + su n fun i => d (sh num i)
  | 0, h => by
    have : num = 0 := by omega
    subst this
    rw [su_succ]
    show (0 : Int) + d 0 = d 0 + 0
    omega
  | n + 1, h => by
    by_cases c : num = n + 1
    · rw [su_succ, Int.add_comm, c]
      refine congrArg _ (su_congr _ fun i hi => ?_)
      unfold sh
      rw [if_pos hi]
    · rw [su_succ, su_split d n (by omega), su_succ _ (fun i => d (sh num i))]
      have : sh num n = n + 1 := by
        unfold sh
        rw [if_neg (by omega)]
      rw [this]
      omega
theorem oth_su (d : Nat → Int) : su vs.length d = d num + su (oth vs num).length fun i => d (sh num i) := by
  have := oth_len hn
  rw [← this]
  exact su_split d _ (by omega)
theorem oth_vok (hv : Vok vs) (ha : act (oth vs num) ≠ []) : Vok (oth vs num) := by
  have e := oth_len hn
  have l := hv.len
  refine ⟨⟨?_, by omega⟩, fun x hx => ?_⟩
  · obtain ⟨i, hi⟩ := List.exists_mem_of_ne_nil _ ha
    have := (act_vt hi).1
    omega
  · unfold oth at hx
    rcases List.mem_append.mp hx with q | q
    · exact hv.v x (List.mem_of_mem_take q)
    · exact hv.v x (List.mem_of_mem_drop q)
theorem oth_act (ha : act (oth vs num) ≠ []) : act vs ≠ [] := by
  obtain ⟨i, hi⟩ := List.exists_mem_of_ne_nil _ ha
  have a := act_vt hi
  rw [oth_vt hn] at a
  have := act_of (vs := vs) (sh_lt hn a.1).1 (by omega)
  exact List.ne_nil_of_mem this
theorem oth_none (hv : Vok vs) (ha : act (oth vs num) = []) {i : Nat} (hi : i < (oth vs num).length) : vt vs (sh num i) = 0 := by
  have := (hv.at (sh num i)).1
  refine Classical.byContradiction fun z => ?_
  have a := act_of (vs := oth vs num) hi (by rw [oth_vt hn]; omega)
  rw [ha] at a
  cases a
end
def at1 (r : R) (os : List Int) (m : Nat) : Nat := pk r os (ordr os.length 0 true) (G r os (ordr os.length 0 true) m)
/-- the price of the next seat, so many being told -/
def pO (r : R) (os : List Int) (m : Nat) : Int × Int := if act os = [] then (0, 1) else K r os (at1 r os m) (G r os (ordr os.length 0 true) m (at1 r os m) + 1)
section
variable {r : R} {os : List Int} (g : GR r) (hv : Vok os) (ha : act os ≠ []) {m : Nat} (hm : m + 1 ≤ 200)
include g hv ha hm
theorem pO_ok : ∃ e e' : Sf, Bn os.length ((m : Int) + 1) e ∧ Bn os.length (m : Int) e' ∧ su os.length e = (m : Int) + 1 ∧ su os.length e' = (m : Int) ∧ (∀ i, i < os.length → 0 < e i → le (pO r os m) (K r os i (e i))) ∧ (∀ i, i < os.length → le (K r os i (e' i + 1)) (pO r os m)) ∧ 0 < (pO r os m).1 ∧ 0 < (pO r os m).2 := by
  have hn : 0 < os.length := hv.len.1
  obtain ⟨h1, h2, h3⟩ := G_ok g hv ha hn true m (by omega)
  obtain ⟨k1, k2, k3⟩ := G_ok g hv ha hn true (m + 1) (by omega)
  have lp := pk_lot g hv ha hn true h2 (by omega)
  obtain ⟨q1, q2, _, _⟩ := pk_spec g hv h2 (by omega) hn true rfl
  have ep : pO r os m = K r os (at1 r os m) (G r os (ordr os.length 0 true) m (at1 r os m) + 1) := if_neg ha
  rw [ep]
  have e : G r os (ordr os.length 0 true) (m + 1) = plus (G r os (ordr os.length 0 true) m) [((at1 r os m : Nat) : Int)] := rfl
  have ap := (lot_iff.mp lp).1
  rw [e] at k1 k2 k3
  change at1 r os m < os.length at q1
  change at1 r os m ∈ act os at ap
  change ∀ x, x < os.length → le _ (K r os (at1 r os m) (G r os (ordr os.length 0 true) m (at1 r os m) + 1)) at q2
  generalize at1 r os m = p at *
  generalize G r os (ordr os.length 0 true) m = s at *
  have lp := h2.lo p
  have hp := h2.hi p q1
  have gp := kg g hv ap (m := s p + 1) (by omega) (by omega)
  refine ⟨plus s [(p : Int)], s, k2, h2, k3, h3, fun i hi pos => ?_, fun i hi => q2 i hi, gp.p1.1, gp.p2.1⟩
  rw [bump] at pos ⊢
  by_cases c : i = p
  · rw [if_pos c, c]
    exact le_rfl' _
  · rw [if_neg c] at pos
    rw [if_neg c]
    exact h1.all g hv h2 (by omega) q1 hi pos
end
theorem pO_pos {r : R} {os : List Int} (g : GR r) (hv : act os ≠ [] → Vok os) {m : Nat} (hm : m + 1 ≤ 200) : 0 ≤ (pO r os m).1 ∧ 0 < (pO r os m).2 ∧ ((pO r os m).1 = 0 ↔ act os = []) := by
  by_cases c : act os = []
  · have : pO r os m = (0, 1) := if_pos c
    rw [this]
    exact ⟨by decide, by decide, fun _ => c, fun _ => rfl⟩
  · obtain ⟨_, _, _, _, _, _, _, _, p1, p2⟩ := pO_ok g (hv c) c hm
    exact ⟨by omega, p2, fun z => by omega, fun z => absurd z c⟩
theorem su_lt {n : Nat} {f k : Nat → Int} (h : su n f < su n k) : ∃ i, i < n ∧ f i < k i := by
  refine Classical.byContradiction fun z => ?_
  have := su_le (f := k) (g := f) n fun i hi => Classical.byContradiction fun y => z ⟨i, hi, by omega⟩
  omega
section
variable {r : R} {vs : List Int} {h : Int} (g : GR r) (hv : Vok vs) (h0 : 0 ≤ h) (h1 : h ≤ 200) {num : Nat} (hn : num < vs.length) {s : Int} (s0 : 1 ≤ s) (s1 : s ≤ h)
include g hv h0 h1 hn s0 s1
theorem v_act (hp : 0 < vt vs num) : hasD vs h := .inr (List.ne_nil_of_mem (act_of hn hp))
theorem some_iff : (hasD vs h ∧ s ≤ Gs r vs h num true num) ↔ 1 ≤ vt vs num ∧ le (pO r (oth vs num) (h - s).toNat) (K r vs num s) := by
  have hm : (h - s).toNat + 1 ≤ 200 := by omega
  have hm' : (((h - s).toNat : Nat) : Int) = h - s := by omega
  have po := pO_pos (os := oth vs num) g (oth_vok hn hv) hm
  have P := fun {i : Nat} {m : Int} (m0 : 1 ≤ m) (m1 : m ≤ 300) => (Kp g hv (i := i) m0 m1).2
  constructor
  · rintro ⟨hd, q⟩
    have D := Gs_dd g hv h0 h1 hn hd true
    have v0 : 0 < vt vs num := Classical.byContradiction fun z => by
      have := D.by'.z num hn z
      omega
    refine ⟨by omega, ?_⟩
    generalize Gs r vs h num true = d at *
    have dh := D.bn.hi num hn
    by_cases c : act (oth vs num) = []
    · have : pO r (oth vs num) (h - s).toNat = (0, 1) := if_pos c
      rw [this]
      show 0 * _ ≤ (K r vs num s).1 * 1
      have := (Kp g hv (i := num) s0 (show s ≤ 300 by omega)).1
      omega
    · obtain ⟨e, e', be, be', se, se', E1, E2, _, _⟩ := pO_ok g (oth_vok hn hv c) c hm
      have sp := oth_su hn d
      rw [D.sm] at sp
      obtain ⟨i, hi, li⟩ := su_lt (n := (oth vs num).length) (f := fun i => d (sh num i)) (k := e) (by omega)
      have li : d (sh num i) < e i := li
      have shi := sh_lt hn hi
      have ei := be.hi i hi
      have di := D.bn.lo (sh num i)
      have a1 := E1 i hi (by omega)
      have a2 : le (K r (oth vs num) i (e i)) (K r (oth vs num) i (d (sh num i) + 1)) := Kl g (oth_vok hn hv c) (by omega) (by omega) (by omega)
      rw [oth_K hn] at a1 a2
      rw [oth_K hn] at a2
      have a3 : le (K r vs (sh num i) (d (sh num i) + 1)) (K r vs num (d num)) := D.by'.all g hv D.bn (by omega) shi.1 hn (by omega)
      have a4 : le (K r vs num (d num)) (K r vs num s) := Kl g hv (by omega) (by omega) (by omega)
      have c1 := le_tr (P (by omega) (by omega)) (P (by omega) (by omega)) (P (by omega) (by omega)) a3 a4
      have c2 := le_tr (P (by omega) (by omega)) (P (by omega) (by omega)) (P (by omega) (by omega)) a2 c1
      exact le_tr po.2.1 (P (by omega) (by omega)) (P (by omega) (by omega)) a1 c2
  · rintro ⟨v0, lp⟩
    have hd : hasD vs h := .inr (List.ne_nil_of_mem (act_of hn (by omega)))
    refine ⟨hd, Classical.byContradiction fun z => ?_⟩
    have D := Gs_dd g hv h0 h1 hn hd true
    have fi := Gs_first g hv h0 h1 hn hd
    generalize Gs r vs h num true = d at *
    have sp := oth_su hn d
    rw [D.sm] at sp
    have dn := D.bn.lo num
    by_cases c : act (oth vs num) = []
    · have : su (oth vs num).length (fun i => d (sh num i)) = 0 := by
        rw [← su_zero (oth vs num).length]
        refine su_congr _ fun i hi => D.by'.z _ (sh_lt hn hi).1 ?_
        rw [oth_none hn hv c hi]
        omega
      omega
    · obtain ⟨e, e', be, be', se, se', E1, E2, _, _⟩ := pO_ok g (oth_vok hn hv c) c hm
      obtain ⟨i, hi, li⟩ := su_lt (n := (oth vs num).length) (f := e') (k := fun i => d (sh num i)) (by omega)
      have li : e' i < d (sh num i) := li
      have shi := sh_lt hn hi
      have ei := be'.lo i
      have di := D.bn.hi (sh num i) shi.1
      have a1 := fi (sh num i) shi.1 shi.2 (by omega)
      have a2 : le (K r (oth vs num) i (d (sh num i))) (K r (oth vs num) i (e' i + 1)) := Kl g (oth_vok hn hv c) (by omega) (by omega) (by omega)
      have a3 := E2 i hi
      rw [oth_K hn] at a2 a3
      rw [oth_K hn] at a2
      have a4 : le (K r vs num s) (K r vs num (d num + 1)) := Kl g hv (by omega) (by omega) (by omega)
      have c1 := le_tr po.2.1 (P (by omega) (by omega)) (P (by omega) (by omega)) lp a4
      have c2 := le_tr (P (by omega) (by omega)) po.2.1 (P (by omega) (by omega)) a3 c1
      have c3 := le_tr (P (by omega) (by omega)) (P (by omega) (by omega)) (P (by omega) (by omega)) a2 c2
      exact Int.lt_irrefl _ (lt_of_lt_le (P (by omega) (by omega)) (P (by omega) (by omega)) (P (by omega) (by omega)) a1 c3)
theorem each_iff : (hasD vs h ∧ s ≤ Gs r vs h num false num) ↔ lt (pO r (oth vs num) (h - s).toNat) (K r vs num s) := by
  have hm : (h - s).toNat + 1 ≤ 200 := by omega
  have hm' : (((h - s).toNat : Nat) : Int) = h - s := by omega
  have po := pO_pos (os := oth vs num) g (oth_vok hn hv) hm
  have P := fun {i : Nat} {m : Int} (m0 : 1 ≤ m) (m1 : m ≤ 300) => (Kp g hv (i := i) m0 m1).2
  constructor
  · rintro ⟨hd, q⟩
    have D := Gs_dd g hv h0 h1 hn hd false
    have la := Gs_last g hv h0 h1 hn hd
    have v0 : 0 < vt vs num := Classical.byContradiction fun z => by
      have := D.by'.z num hn z
      omega
    generalize Gs r vs h num false = d at *
    have dh := D.bn.hi num hn
    by_cases c : act (oth vs num) = []
    · have : pO r (oth vs num) (h - s).toNat = (0, 1) := if_pos c
      rw [this]
      show 0 * _ < (K r vs num s).1 * 1
      have := K_pos g hv v0 s0 (show s ≤ 300 by omega)
      omega
    · obtain ⟨e, e', be, be', se, se', E1, E2, _, _⟩ := pO_ok g (oth_vok hn hv c) c hm
      have sp := oth_su hn d
      rw [D.sm] at sp
      obtain ⟨i, hi, li⟩ := su_lt (n := (oth vs num).length) (f := fun i => d (sh num i)) (k := e) (by omega)
      have li : d (sh num i) < e i := li
      have shi := sh_lt hn hi
      have ei := be.hi i hi
      have di := D.bn.lo (sh num i)
      have a1 := E1 i hi (by omega)
      have a2 : le (K r (oth vs num) i (e i)) (K r (oth vs num) i (d (sh num i) + 1)) := Kl g (oth_vok hn hv c) (by omega) (by omega) (by omega)
      rw [oth_K hn] at a1 a2
      rw [oth_K hn] at a2
      have a3 := la (by omega) (sh num i) shi.1 shi.2
      have a4 : le (K r vs num (d num)) (K r vs num s) := Kl g hv (by omega) (by omega) (by omega)
      have c1 := lt_of_lt_le (P (by omega) (by omega)) (P (by omega) (by omega)) (P (by omega) (by omega)) a3 a4
      have c2 := lt_of_le_lt (P (by omega) (by omega)) (P (by omega) (by omega)) (P (by omega) (by omega)) a2 c1
      exact lt_of_le_lt po.2.1 (P (by omega) (by omega)) (P (by omega) (by omega)) a1 c2
  · intro lp
    have v0 : 0 < vt vs num := Classical.byContradiction fun z => by
      have vn := (hv.at num).1
      have e : (K r vs num s).1 = 0 := K_zero (by omega) s
      have lp : (pO r (oth vs num) (h - s).toNat).1 * (K r vs num s).2 < (K r vs num s).1 * (pO r (oth vs num) (h - s).toNat).2 := lp
      rw [e, Int.zero_mul] at lp
      have := Int.mul_nonneg po.1 (Int.le_of_lt (P (i := num) s0 (show s ≤ 300 by omega)))
      omega
    have hd : hasD vs h := .inr (List.ne_nil_of_mem (act_of hn (by omega)))
    refine ⟨hd, Classical.byContradiction fun z => ?_⟩
    have D := Gs_dd g hv h0 h1 hn hd false
    generalize Gs r vs h num false = d at *
    have sp := oth_su hn d
    rw [D.sm] at sp
    have dn := D.bn.lo num
    by_cases c : act (oth vs num) = []
    · have : su (oth vs num).length (fun i => d (sh num i)) = 0 := by
        rw [← su_zero (oth vs num).length]
        refine su_congr _ fun i hi => D.by'.z _ (sh_lt hn hi).1 ?_
        rw [oth_none hn hv c hi]
        omega
      omega
    · obtain ⟨e, e', be, be', se, se', E1, E2, _, _⟩ := pO_ok g (oth_vok hn hv c) c hm
      obtain ⟨i, hi, li⟩ := su_lt (n := (oth vs num).length) (f := e') (k := fun i => d (sh num i)) (by omega)
      have li : e' i < d (sh num i) := li
      have shi := sh_lt hn hi
      have ei := be'.lo i
      have di := D.bn.hi (sh num i) shi.1
      have a1 : le (K r vs num (d num + 1)) (K r vs (sh num i) (d (sh num i))) := D.by'.all g hv D.bn (by omega) hn shi.1 (by omega)
      have a2 : le (K r (oth vs num) i (d (sh num i))) (K r (oth vs num) i (e' i + 1)) := Kl g (oth_vok hn hv c) (by omega) (by omega) (by omega)
      have a3 := E2 i hi
      rw [oth_K hn] at a2 a3
      rw [oth_K hn] at a2
      have a4 : le (K r vs num s) (K r vs num (d num + 1)) := Kl g hv (by omega) (by omega) (by omega)
      have c1 := lt_of_lt_le po.2.1 (P (by omega) (by omega)) (P (by omega) (by omega)) lp a4
      have c2 := lt_of_le_lt (P (by omega) (by omega)) po.2.1 (P (by omega) (by omega)) a3 c1
      have c3 := lt_of_le_lt (P (by omega) (by omega)) (P (by omega) (by omega)) (P (by omega) (by omega)) a2 c2
      exact Int.lt_irrefl _ (lt_of_lt_le (P (by omega) (by omega)) (P (by omega) (by omega)) (P (by omega) (by omega)) c3 a1)
end
end K40
namespace K40
open PySem PySem.Spec PyProof.Rows L2 Dl
/-! ## fewest votes -/
def wv (vs : List Int) (num : Nat) (x : Int) : List Int := vs.take num ++ [x] ++ vs.drop (num + 1)
section
variable {vs : List Int} {num : Nat} (hn : num < vs.length) (x : Int)
include hn
theorem wv_len : (wv vs num x).length = vs.length := by
  unfold wv
  rw [List.length_append, List.length_append, List.length_take, List.length_drop]
  show min num vs.length + 1 + _ = _
  omega
theorem wv_get (i : Nat) : (wv vs num x)[i]? = if i = num then some x else vs[i]? := by
  unfold wv
  have lt : (vs.take num).length = num := by rw [List.length_take]; omega
  rcases Nat.lt_trichotomy i num with c | c | c
  · rw [if_neg (by omega), List.append_assoc, List.getElem?_append_left (by omega), List.getElem?_take, if_pos c]
  · subst c
    rw [if_pos rfl, List.append_assoc, List.getElem?_append_right (by omega), lt, Nat.sub_self]
    rfl
  · rw [if_neg (by omega), List.getElem?_append_right (by rw [List.length_append, lt]; show num + 1 ≤ i; omega), List.length_append, lt, List.getElem?_drop]
    refine congrArg _ ?_
    show num + 1 + (i - (num + 1)) = i
    omega
theorem wv_same : vt (wv vs num x) num = x := by
  unfold vt
  rw [List.getD_eq_getElem?_getD, wv_get hn, if_pos rfl]
  rfl
theorem wv_ne {i : Nat} (ne : i ≠ num) : vt (wv vs num x) i = vt vs i := by
  unfold vt
  rw [List.getD_eq_getElem?_getD, wv_get hn, if_neg ne, ← List.getD_eq_getElem?_getD]
theorem wv_oth : oth (wv vs num x) num = oth vs num := by
  have lt : (vs.take num).length = num := by rw [List.length_take]; omega
  unfold oth wv
  rw [List.append_assoc, List.take_append_of_le_length (by omega), List.take_take, Nat.min_self, ← List.append_assoc, List.drop_append, List.length_append, lt]
  have e1 : (List.take num vs ++ [x]).drop (num + 1) = [] := List.drop_eq_nil_of_le (by rw [List.length_append, lt]; exact Nat.le_refl _)
  rw [e1]
  show _ = _
  rw [List.nil_append]
  have : num + 1 - (num + [x].length) = 0 := by show num + 1 - (num + 1) = 0; omega
  rw [this]
  rfl
theorem wv_vok (hv : Vok vs) (x0 : 0 ≤ x) (x1 : x ≤ 10 ^ 9) : Vok (wv vs num x) := by
  refine ⟨by rw [wv_len hn]; exact hv.len, fun y hy => ?_⟩
  obtain ⟨i, hi⟩ := List.mem_iff_getElem?.mp hy
  rw [wv_get hn] at hi
  by_cases c : i = num
  · rw [if_pos c] at hi
    cases hi
    exact ⟨x0, x1⟩
  · rw [if_neg c] at hi
    exact hv.v y (List.mem_of_getElem? hi)
end
theorem le_low {p : Int × Int} {t b : Int} (hp : 0 < p.2) (hb : 0 < b) : le p (low t b) ↔ p.1 * b ≤ t * p.2 := by
  have e := low_eqv (t := t) hb
  have s := (low_sz (t := t) hb).1
  exact ⟨fun z => le_tr (p := p) (q := low t b) (r := (t, b)) hp s hb z e.1, fun z => le_tr (p := p) (q := (t, b)) (r := low t b) hp hb s z e.2⟩
theorem lt_low {p : Int × Int} {t b : Int} (hp : 0 < p.2) (hb : 0 < b) : lt p (low t b) ↔ p.1 * b < t * p.2 := by
  have e := low_eqv (t := t) hb
  have s := (low_sz (t := t) hb).1
  exact ⟨fun z => lt_of_lt_le (p := p) (q := low t b) (r := (t, b)) hp s hb z e.1, fun z => lt_of_lt_le (p := p) (q := (t, b)) (r := low t b) hp hb s z e.2⟩
def topV (r : R) (p : Int × Int) (s : Int) : Int := p.1 * (post r s).1
def botV (r : R) (p : Int × Int) (s : Int) : Int := p.2 * (post r s).2
theorem ceil_le {t b v : Int} (hb : 0 < b) : 0 - (0 - t) / b ≤ v ↔ t ≤ v * b := by
  have a : -v ≤ (0 - t) / b ↔ -v * b ≤ 0 - t := Int.le_ediv_iff_mul_le hb
  rw [Int.neg_mul] at a
  omega
theorem floor_lt {t b v : Int} (hb : 0 < b) : t / b + 1 ≤ v ↔ t < v * b := by
  have a : t / b < v ↔ t < v * b := Int.ediv_lt_iff_lt_mul hb
  omega
def leastV (r : R) (os : List Int) (h : Int) (w : Bool) (s : Int) : Int :=
  if s = 0 then (if h = 0 ∨ act os ≠ [] then 0 else 1) else
  if w = true then max 1 (0 - (0 - topV r (pO r os (h - s).toNat) s) / botV r (pO r os (h - s).toNat) s) else topV r (pO r os (h - s).toNat) s / botV r (pO r os (h - s).toNat) s + 1
def mostV (r : R) (os : List Int) (h : Int) (w : Bool) (s : Int) : Int :=
  if (pO r os (h - (s + 1)).toNat).1 = 0 then -1 else
  if w = true then topV r (pO r os (h - (s + 1)).toNat) (s + 1) / botV r (pO r os (h - (s + 1)).toNat) (s + 1) else 0 - (0 - topV r (pO r os (h - (s + 1)).toNat) (s + 1)) / botV r (pO r os (h - (s + 1)).toNat) (s + 1) - 1
section
variable {r : R} {vs : List Int} {h : Int} (g : GR r) (hv : Vok vs) (h0 : 0 ≤ h) (h1 : h ≤ 200) {num : Nat} (hn : num < vs.length) {s : Int}
include g hv h0 h1 hn
theorem bot_pos (s0 : 1 ≤ s) (s1 : s ≤ h) : 0 < botV r (pO r (oth vs num) (h - s).toNat) s ∧ 0 ≤ topV r (pO r (oth vs num) (h - s).toNat) s ∧ (0 < (pO r (oth vs num) (h - s).toNat).1 → 0 < topV r (pO r (oth vs num) (h - s).toNat) s) := by
  have po := pO_pos (os := oth vs num) (m := (h - s).toNat) g (oth_vok hn hv) (by omega)
  have pp := post_pos g s0 (show s ≤ 300 by omega)
  exact ⟨Int.mul_pos po.2.1 pp.2.2.1, Int.mul_nonneg po.1 (Int.le_of_lt pp.1), fun z => Int.mul_pos z pp.1⟩
theorem le_top (s0 : 1 ≤ s) (s1 : s ≤ h) : le (pO r (oth vs num) (h - s).toNat) (K r vs num s) ↔ topV r (pO r (oth vs num) (h - s).toNat) s ≤ vt vs num * botV r (pO r (oth vs num) (h - s).toNat) s := by
  have po := pO_pos (os := oth vs num) (m := (h - s).toNat) g (oth_vok hn hv) (by omega)
  have pp := post_pos g s0 (show s ≤ 300 by omega)
  refine (le_low po.2.1 pp.1).trans ?_
  unfold topV botV
  rw [Int.mul_comm (pO r (oth vs num) (h - s).toNat).2, Int.mul_assoc]
theorem lt_top (s0 : 1 ≤ s) (s1 : s ≤ h) : lt (pO r (oth vs num) (h - s).toNat) (K r vs num s) ↔ topV r (pO r (oth vs num) (h - s).toNat) s < vt vs num * botV r (pO r (oth vs num) (h - s).toNat) s := by
  have po := pO_pos (os := oth vs num) (m := (h - s).toNat) g (oth_vok hn hv) (by omega)
  have pp := post_pos g s0 (show s ≤ 300 by omega)
  refine (lt_low po.2.1 pp.1).trans ?_
  unfold topV botV
  rw [Int.mul_comm (pO r (oth vs num) (h - s).toNat).2, Int.mul_assoc]
theorem hasD_iff : hasD vs h ↔ (h = 0 ∨ act (oth vs num) ≠ []) ∨ 1 ≤ vt vs num := by
  unfold hasD
  constructor
  · rintro (z | z)
    · exact .inl (.inl z)
    · by_cases c : act (oth vs num) = []
      · refine .inr ?_
        obtain ⟨i, hi⟩ := List.exists_mem_of_ne_nil _ z
        have a := act_vt hi
        by_cases e : i = num
        · rw [← e]
          exact a.2
        · have oz := oth_none hn hv c (i := if i < num then i else i - 1) (by
            have := oth_len hn
            split <;> omega)
          have e2 : sh num (if i < num then i else i - 1) = i := by
            unfold sh
            by_cases q : i < num
            · rw [if_pos q, if_pos q]
            · rw [if_neg q, if_neg (by omega)]
              omega
          rw [e2] at oz
          omega
      · exact .inl (.inr c)
  · rintro ((z | z) | z)
    · exact .inl z
    · exact .inr (oth_act hn z)
    · exact .inr (List.ne_nil_of_mem (act_of hn (by omega)))
theorem least_iff (w : Bool) (s0 : 0 ≤ s) (s1 : s ≤ h) : holdb r vs h num w s true = true ↔ leastV r (oth vs num) h w s ≤ vt vs num := by
  rw [holdb_iff g hv h0 h1 hn, if_pos rfl]
  unfold leastV
  have v0 := (hv.at num).1
  by_cases z : s = 0
  · rw [if_pos z, hasD_iff g hv h0 h1 hn]
    subst z
    have nn : hasD vs h → 0 ≤ Gs r vs h num w num := fun hd => (Gs_dd g hv h0 h1 hn hd w).bn.lo num
    by_cases c : h = 0 ∨ act (oth vs num) ≠ []
    · rw [if_pos c]
      exact ⟨fun _ => v0, fun _ => ⟨.inl c, nn ((hasD_iff g hv h0 h1 hn).mpr (.inl c))⟩⟩
    · rw [if_neg c]
      exact ⟨fun q => q.1.resolve_left c, fun q => ⟨.inr q, nn ((hasD_iff g hv h0 h1 hn).mpr (.inr q))⟩⟩
  · rw [if_neg z]
    have bp := (bot_pos g hv h0 h1 hn (s := s) (by omega) s1).1
    cases w with
    | true =>
      rw [if_pos rfl, some_iff g hv h0 h1 hn (by omega) s1, le_top g hv h0 h1 hn (by omega) s1, ← ceil_le bp]
      omega
    | false =>
      rw [if_neg (by decide), each_iff g hv h0 h1 hn (by omega) s1, lt_top g hv h0 h1 hn (by omega) s1, ← floor_lt bp]
theorem most_iff (w : Bool) (s0 : 0 ≤ s) (s1 : s < h) : holdb r vs h num w s false = true ↔ vt vs num ≤ mostV r (oth vs num) h w s := by
  rw [holdb_iff g hv h0 h1 hn, if_neg (by decide)]
  unfold mostV
  have v0 := (hv.at num).1
  have po := pO_pos (os := oth vs num) (m := (h - (s + 1)).toNat) g (oth_vok hn hv) (by omega)
  have bp := (bot_pos g hv h0 h1 hn (s := s + 1) (by omega) (by omega)).1
  have tp := (bot_pos g hv h0 h1 hn (s := s + 1) (by omega) (by omega)).2.2
  have I1 := some_iff g hv h0 h1 hn (s := s + 1) (by omega) (by omega)
  have I2 := each_iff g hv h0 h1 hn (s := s + 1) (by omega) (by omega)
  have L1 := (le_top g hv h0 h1 hn (s := s + 1) (by omega) (by omega)).trans (ceil_le bp).symm
  have L2 := (lt_top g hv h0 h1 hn (s := s + 1) (by omega) (by omega)).trans (floor_lt bp).symm
  rw [L1] at I1
  rw [L2] at I2
  by_cases z : (pO r (oth vs num) (h - (s + 1)).toNat).1 = 0
  · rw [if_pos z]
    have c := po.2.2.mp z
    constructor
    · rintro ⟨hd, q⟩
      have v1 : 1 ≤ vt vs num := ((hasD_iff g hv h0 h1 hn).mp hd).resolve_left (by
        rintro (y | y)
        · omega
        · exact y c)
      have t0 : topV r (pO r (oth vs num) (h - (s + 1)).toNat) (s + 1) = 0 := by
        unfold topV
        rw [z, Int.zero_mul]
      rw [t0] at I1 I2
      rw [Int.sub_zero, Int.zero_ediv] at I1
      rw [Int.zero_ediv] at I2
      have a1 := I1.mpr ⟨v1, by omega⟩
      have a2 := I2.mpr (by omega)
      cases w with
      | true =>
        have q : Gs r vs h num false num ≤ s := q
        omega
      | false =>
        have q : Gs r vs h num true num ≤ s := q
        omega
    · intro q
      omega
  · rw [if_neg z]
    have c : act (oth vs num) ≠ [] := fun y => z (po.2.2.mpr y)
    have hd := (hasD_iff g hv h0 h1 hn).mpr (.inl (.inr c))
    cases w with
    | true =>
      rw [if_pos rfl]
      show hasD vs h ∧ Gs r vs h num false num ≤ s ↔ _
      constructor
      · rintro ⟨_, q⟩
        refine Classical.byContradiction fun y => ?_
        have := (I2.mpr (by omega)).2
        omega
      · intro q
        refine ⟨hd, Classical.byContradiction fun y => ?_⟩
        have := I2.mp ⟨hd, by omega⟩
        omega
    | false =>
      rw [if_neg (by decide)]
      show hasD vs h ∧ Gs r vs h num true num ≤ s ↔ _
      have t0 := tp (by omega)
      have c1 : ¬ (0 - (0 - topV r (pO r (oth vs num) (h - (s + 1)).toNat) (s + 1)) / botV r (pO r (oth vs num) (h - (s + 1)).toNat) (s + 1) ≤ 0) := fun y => by
        have := (ceil_le bp).mp y
        rw [Int.zero_mul] at this
        omega
      constructor
      · rintro ⟨_, q⟩
        refine Classical.byContradiction fun y => ?_
        have := (I1.mpr ⟨by omega, by omega⟩).2
        omega
      · intro q
        refine ⟨hd, Classical.byContradiction fun y => ?_⟩
        have := I1.mp ⟨hd, by omega⟩
        omega
theorem most_nn (w : Bool) (s0 : 0 ≤ s) (s1 : s < h) : -1 ≤ mostV r (oth vs num) h w s := by
  unfold mostV
  have po := pO_pos (os := oth vs num) (m := (h - (s + 1)).toNat) g (oth_vok hn hv) (by omega)
  have bp := bot_pos g hv h0 h1 hn (s := s + 1) (by omega) (by omega)
  by_cases z : (pO r (oth vs num) (h - (s + 1)).toNat).1 = 0
  · rw [if_pos z]
    exact Int.le_refl _
  · rw [if_neg z]
    cases w with
    | true =>
      rw [if_pos rfl]
      have := Int.ediv_nonneg bp.2.1 (Int.le_of_lt bp.1)
      omega
    | false =>
      rw [if_neg (by decide)]
      have c1 : ¬ (0 - (0 - topV r (pO r (oth vs num) (h - (s + 1)).toNat) (s + 1)) / botV r (pO r (oth vs num) (h - (s + 1)).toNat) (s + 1) ≤ 0) := fun y => by
        have := (ceil_le bp.1).mp y
        rw [Int.zero_mul] at this
        have := bp.2.2 (by omega)
        omega
      omega
/-- the bound that the law looks to -/
theorem least_small (hr : r ∈ menu) (h5 : h ≤ 5) (v12 : ∀ x ∈ vs, x ≤ 12) (w : Bool) (s0 : 0 ≤ s) (s1 : s ≤ h) : leastV r (oth vs num) h w s ≤ 200 := by
  unfold leastV
  by_cases z : s = 0
  · rw [if_pos z]
    split <;> omega
  · rw [if_neg z]
    have bp := bot_pos g hv h0 h1 hn (s := s) (by omega) s1
    have key : topV r (pO r (oth vs num) (h - s).toNat) s ≤ 156 * botV r (pO r (oth vs num) (h - s).toNat) s := by
      by_cases c : act (oth vs num) = []
      · have e : pO r (oth vs num) (h - s).toNat = (0, 1) := if_pos c
        rw [e] at bp ⊢
        have : topV r (0, 1) s = 0 := Int.zero_mul _
        omega
      · obtain ⟨e, e', be, be', se, se', E1, E2, p1, p2⟩ := pO_ok (m := (h - s).toNat) g (oth_vok hn hv c) c (by omega)
        obtain ⟨i, hi, li⟩ := su_lt (n := (oth vs num).length) (f := fun _ => 0) (k := e) (by rw [su_zero]; omega)
        have li : 0 < e i := li
        have ei := be.hi i hi
        have pq := post_pos g (m := 1) (by omega) (by omega)
        have ps := post_pos g (m := s) (by omega) (by omega)
        have ov := oth_vok hn hv c
        have a1 := E1 i hi li
        have a2 : le (K r (oth vs num) i (e i)) (K r (oth vs num) i 1) := Kl g ov (by omega) (by omega) (by omega)
        have a3 := (le_low p2 pq.1).mp (le_tr p2 (Kp g ov (by omega) (by omega)).2 (Kp g ov (by omega) (by omega)).2 a1 a2)
        have vi : vt (oth vs num) i ≤ 12 := by
          rw [oth_vt hn]
          have q := (sh_lt hn hi).1
          exact v12 _ (List.mem_of_getElem? (gt_get (l := vs) q))
        have wide := menu_wide r hr s.toNat (List.mem_range.mpr (by omega))
        rw [show ((s.toNat : Nat) : Int) = s by omega] at wide
        unfold topV botV
        generalize (pO r (oth vs num) (h - s).toNat) = p at *
        generalize (post r 1).1 = a at *
        generalize (post r 1).2 = b at *
        generalize (post r s).1 = c' at *
        generalize (post r s).2 = d at *
        have b1 : vt (oth vs num) i * b * p.2 ≤ 12 * b * p.2 := Int.mul_le_mul_of_nonneg_right (Int.mul_le_mul_of_nonneg_right vi (by omega)) (by omega)
        have b2 : p.1 * a * (c' * b) ≤ (12 * b * p.2) * (13 * (a * d)) := mul_le_of (Int.mul_nonneg (by omega) (by omega)) (Int.mul_nonneg (by omega) (by omega)) (Int.le_trans a3 b1) wide
        refine Int.le_of_mul_le_mul_right (a := a * b) ?_ (Int.mul_pos pq.1 pq.2.2.1)
        have e1 : p.1 * a * (c' * b) = p.1 * c' * (a * b) := by ac_rfl
        have e2 : (12 * b * p.2) * (13 * (a * d)) = (12 * 13) * (p.2 * d) * (a * b) := by ac_rfl
        rw [e1, e2] at b2
        exact b2
    cases w with
    | true =>
      rw [if_pos rfl]
      have := (ceil_le (v := 156) bp.1).mpr key
      omega
    | false =>
      rw [if_neg (by decide)]
      have := (floor_lt (t := topV r (pO r (oth vs num) (h - s).toNat) s) (v := 157) bp.1).mpr (by omega)
      omega
end
/-- votes moved: once it holds, it holds with one more -/
theorem hold_up {r : R} {vs vs' : List Int} {h : Int} (g : GR r) (hv : Vok vs) (hv' : Vok vs') (el : vs'.length = vs.length) (h0 : 0 ≤ h) (h1 : h ≤ 200) {num : Nat} (hn : num < vs.length) (up : vt vs num ≤ vt vs' num) (dn : ∀ j, j ≠ num → vt vs' j ≤ vt vs j)
    (ac : act vs ≠ [] → act vs' ≠ []) (w : Bool) (s : Int) (k : holdb r vs h num w s true = true) : holdb r vs' h num w s true = true := by
  rw [holdb_iff g hv h0 h1 hn, if_pos rfl] at k
  rw [holdb_iff g hv' h0 h1 (by omega), if_pos rfl]
  obtain ⟨hd, q⟩ := k
  have hd' : hasD vs' h := hd.imp_right ac
  refine ⟨hd', Int.le_trans q ?_⟩
  cases w with
  | true => exact first_up g hv hv' el h1 hn up dn (Gs_dd g hv h0 h1 hn hd true) (Gs_dd g hv' h0 h1 (by omega) hd' true) (Gs_first g hv' h0 h1 (by omega) hd')
  | false => exact last_up g hv hv' el h1 hn up dn (Gs_dd g hv h0 h1 hn hd false) (Gs_dd g hv' h0 h1 (by omega) hd' false) (Gs_last g hv h0 h1 hn hd)
end K40
namespace K40
open PySem PySem.Spec PyProof.Rows L2 Dl
local macro_rules | `(tactic| walk_at "ev") => `(tactic| try simp -dsimp only [↓dSeq_at, cInt2, oIs2, oNot2, encV, sp_is_within, sp_is_tuple, sp_is_integer, encR, dPar3, dRet, dRetN, dNext, dIfS, dAsg, dDrop, dPar, dNever, dVar, dC, dOp, dUn, dTest, dChain, dAnd, dOr, dNot, dIf, dtAnd, dtOr, dtNot, dTup, daNil, daCons, dCall, dFn, dFnK, dNew, dLst, dOf,
  gdName, gdTup, gdCons, gdNil, gdSub, rdI, rdI0, oPlus, oSub, oTimes, oDiv, oMod, oPow, oLt, oLe, oGt, oGe, oIx, oEq, oNe, uNeg, oIsN, oNotN, D.isNon, cAbs, cMax, cMin, cInt, cDivmod, cLen, cIsi, tyD, items, litems, retD, sTup, mApp, dYes,
  atI_0, atI_1, atI_2, atI_3, atI_4, ixN_20, ixN_21, kit_ii, kit_ib, kit_is, kit_it, kit_il, kit_bi, kit_bb, kit_bs, kit_bt, kit_bl, kit_si, kit_sb, kit_ss, kit_st, kit_sl, kit_ti, kit_tb, kit_ts, kit_tt, kit_tl, kit_li, kit_lb, kit_ls, kit_lt, kit_ll,
  List.getElem?_cons_zero, List.getElem?_cons_succ, List.set_cons_zero, List.set_cons_succ, List.length_cons, List.length_nil, Mu.upd_same, Mu.upd_upd, Nat.zero_add, Nat.reduceAdd, Nat.reduceLeDiff, natlit, Int.reduceEq, Int.reduceLT, Int.reduceLE, Int.reduceAdd, Int.reduceSub, Int.reduceMul, Int.reducePow, Int.reduceNeg, permG2_10, permG3_210, zl_0, zl_1, zl_2, zl_3, zl_4, zl_5, zl_6, zl_7, zl_8, zl_9, zl_10, zl_11, zl_12, zl_13, zl_14, zl_15, zl_16, zl_17, zl_18, zl_19, zl_20, true_and, and_true, eq_self, not_true_eq_false, not_false_eq_true, decide_true, decide_false, if_true, Bool.false_eq_true, if_false, Bool.not_true, Bool.not_false, decide_eq_true_eq, Bool.not_eq_true', decide_eq_false_iff_not, Option.isSome, Option.map])
theorem range_nat (n : Nat) : rangeD 0 (n : Int) = (List.range n).map fun (a : Nat) => D.int (a : Int) := by
  unfold rangeD
  rw [Int.sub_zero, Int.toNat_natCast]
  refine List.map_congr_left fun a _ => ?_
  show D.int (0 + (a : Int)) = D.int a
  rw [Int.zero_add]
/-! ## the deal that comes seat by seat, walked -/
def prD (r : R) (vs : List Int) (s : Sf) : List D := (List.range vs.length).map fun a => fr (pr r vs s a)
def ordD (l : List Nat) : List D := l.map fun (a : Nat) => .int (a : Int)
def dwD (r : R) (vs : List Int) (h : Int) (num : Nat) (b : Bool) : D := if 0 < h ∧ act vs = [] then .non else .tup (seatD vs.length (Gs r vs h num b))
theorem prD_len (r : R) (vs : List Int) (s : Sf) : (prD r vs s).length = vs.length := by
  unfold prD
  rw [List.length_map, List.length_range]
theorem prD_at {r : R} {vs : List Int} {s : Sf} {a : Nat} (h : a < vs.length) : atI (prD r vs s) (a : Int) = some (fr (pr r vs s a)) := by
  refine atI_nat ?_
  unfold prD
  rw [List.getElem?_map, List.getElem?_range h]
  rfl
theorem seat_set {n : Nat} {s : Sf} {p : Nat} (h : p < n) : (seatD n s).set p (.int (s p + 1)) = seatD n (plus s [(p : Int)]) := by
  refine List.ext_getElem? fun j => ?_
  rw [List.getElem?_set]
  by_cases hj : j < n
  · rw [seat_get hj, seat_get hj, bump]
    by_cases e : p = j
    · subst e
      rw [if_pos rfl, if_pos (by rw [seat_len]; exact h), if_pos rfl]
    · have e2 : ¬ j = p := fun z => e z.symm
      rw [if_neg e, if_neg e2]
  · rw [List.getElem?_eq_none (l := seatD n (plus s [(p : Int)])) (by rw [seat_len]; omega), if_neg (show ¬ p = j by omega), List.getElem?_eq_none (by rw [seat_len]; omega)]
theorem prD_set {r : R} {vs : List Int} {s : Sf} {p : Nat} (h : p < vs.length) : (prD r vs s).set p (fr (cost r (vt vs p) (s p + 1 + 1))) = prD r vs (plus s [(p : Int)]) := by
  refine List.ext_getElem? fun j => ?_
  rw [List.getElem?_set]
  by_cases hj : j < vs.length
  · have e2 : ∀ t : Sf, (prD r vs t)[j]? = some (fr (pr r vs t j)) := fun t => by
      unfold prD
      rw [List.getElem?_map, List.getElem?_range hj]
      rfl
    rw [e2, e2]
    have e3 : pr r vs (plus s [(p : Int)]) j = cost r (vt vs j) (plus s [(p : Int)] j + 1) := rfl
    rw [e3, bump]
    by_cases e : p = j
    · subst e
      rw [if_pos rfl, if_pos (by rw [prD_len]; exact h), if_pos rfl]
    · rw [if_neg e, if_neg (fun z => e z.symm)]
      rfl
  · rw [List.getElem?_eq_none (l := prD r vs (plus s [(p : Int)])) (by rw [prD_len]; omega), if_neg (show ¬ p = j by omega), List.getElem?_eq_none (by rw [prD_len]; omega)]
theorem pr_sz {r : R} {vs : List Int} (g : GR r) (hv : Vok vs) {s : Sf} {c : Int} (bn : Bn vs.length c s) (hc : c ≤ 250) {a : Nat} (ha : a < vs.length) : Sz (pr r vs s a).1 ∧ Sz (pr r vs s a).2 := by
  have lo := bn.lo a
  have hi := bn.hi a ha
  have b := post_bd g (k := s a + 1) (by omega) (by omega)
  have v := hv.at a
  have z := low_sz (t := vt vs a * (post r (s a + 1)).2) b.1
  have d : vt vs a * (post r (s a + 1)).2 ≤ 10 ^ 9 * 999 := mul_le_of (by omega) (by omega) v.2 b.2.2.2
  have n : 0 ≤ vt vs a * (post r (s a + 1)).2 := Int.mul_nonneg v.1 (by omega)
  have e : pr r vs s a = low (vt vs a * (post r (s a + 1)).2) (post r (s a + 1)).1 := rfl
  rw [e]
  exact ⟨sz_of (by omega) (by omega), sz_of (by omega) (by omega)⟩
def sp_deal_with : DSp := fun ds μ Q => ∃ (r : R) (vs : List Int) (h : Int) (num : Nat) (b : Bool), ds = [enc r, encV vs, .int h, .int (num : Int), .bl b] ∧ (GR r ∧ Vok vs ∧ (0 ≤ h ∧ h ≤ 200) ∧ num < vs.length) ∧ Q (dwD r vs h num b) μ
theorem len_deal_with : ∀ ds μ Q, sp_deal_with ds μ Q → ds.length = (["rule", "votes", "house", "number", "is_first"] : List Str).length := by
  rintro ds μ Q ⟨r, vs, h, num, b, rfl, _⟩
  rfl
theorem v_at {vs : List Int} {i : Nat} (hi : i < vs.length) : atI (vs.map D.int) (i : Int) = some (.int (vt vs i)) := a_at hi
def db_deal_with : DTS := (dSeq (dIfS (dtAnd (dTest (dOp oGt (dVar 2) (dC (.int 0)))) (dTest (dOp oEq (dCall (dSeq1 true sMax) (daCons (dVar 1) daNil)) (dC (.int 0))))) (dRet (dC .non)) dNext) (dSeq (dAsg (dNew (dLc (diR1 (daCons (dCall cLen (daCons (dVar 1) daNil)) daNil)) (gdName 6) (dTest (dOp oNe (dVar 6) (dVar 3))) (dVar 6) [6])) (gdName 5)) (dSeq (dAsg (dIf (dTest (dVar 4)) (dOp oPlus (dNew (dLst (daCons (dVar 3) daNil))) (dVar 5)) (dOp oPlus (dVar 5) (dNew (dLst (daCons (dVar 3) daNil))))) (gdName 5)) (dSeq (dPar 7 8 (daCons (dOp oTimes (dNew (dLst (daCons (dC (.int 0)) daNil))) (dCall cLen (daCons (dVar 1) daNil))) (daCons (dNew (dLc (diSeq (dVar 1)) (gdName 9) dYes (dFn sp_price_at (daCons (dVar 0) (daCons (dVar 9) (daCons (dC (.int 1)) daNil)))) [9])) daNil))) (dSeq (dFor (diR1 (daCons (dVar 2) daNil)) (gdName 10) (dSeq (dAsg (dOp oIx (dVar 5) (dC (.int 0))) (gdName 11)) (dSeq (dFor (diSeq (dSl (dVar 5) (doSome (dC (.int 1))) doNone)) (gdName 9) (dIfS (dTest (dFn sp_is_less (daCons (dOp oIx (dVar 8) (dVar 11)) (daCons (dOp oIx (dVar 8) (dVar 9)) daNil)))) (dAsg (dVar 9) (gdName 11)) dNext)) (dSeq (dAsg (dOp oPlus (dOp oIx (dVar 7) (dVar 11)) (dC (.int 1))) (gdSub (dVar 7) (dVar 11))) (dAsg (dFn sp_price_at (daCons (dVar 0) (daCons (dOp oIx (dVar 1) (dVar 11)) (daCons (dOp oPlus (dOp oIx (dVar 7) (dVar 11)) (dC (.int 1))) daNil)))) (gdSub (dVar 8) (dVar 11))))))) (dRet (dCall (dSeq1 true sTup) (daCons (dVar 7) daNil))))))))
theorem pf_deal_with : ∀ ds μ Q, sp_deal_with ds μ Q → db_deal_with (retD Q) (startD ["rule", "votes", "house", "number", "is_first", "order", "at", "found", "prices", "one", "turn", "best"] ds) μ := by
  rintro ds μ Q ⟨r, vs, h, num, b, rfl, ⟨g, hv, ⟨h0, h1⟩, hn⟩, q⟩
  show db_deal_with (retD Q) [some (enc r), some (.tup (vs.map D.int)), some (.int h), some (.int (num : Int)), some (.bl b), none, none, none, none, none, none, none] μ
  have hl := hv.len
  unfold db_deal_with
  refine sq fun U hU => ?_
  walk_at "ev"
  have rest : hasD vs h → U [some (enc r), some (.tup (vs.map D.int)), some (.int h), some (.int (num : Int)), some (.bl b), none, none, none, none, none, none, none] μ := by
    intro hd
    have q : Q (.tup (seatD vs.length (Gs r vs h num b))) μ := by
      have : dwD r vs h num b = .tup (seatD vs.length (Gs r vs h num b)) := if_neg fun z => by
        rcases hd with y | y
        · omega
        · exact y z.2
      rw [← this]
      exact q
    refine hU.go ?_
    clear hU
    refine sq fun U hU => ?_
    walk_at "ev"
    simp -dsimp only [dLc, diR1]
    walk_at "ev"
    refine ⟨⟨by omega, by rw [List.length_map]; omega⟩, ?_⟩
    rw [List.length_map, range_nat]
    refine lc_ty (fun (a : Nat) => decide (a ≠ num)) (fun (a : Nat) => .int (a : Int)) held_nil (by rw [List.length_range]; omega) (fun a ha μ' Qy Qn sb q2 => ?_) ?_
    · simp -dsimp only [wipeD]
      walk_at "ev"
      by_cases e : a = num
      · subst e
        rw [if_neg (by simp)] at q2
        rw [if_neg fun z => z rfl]
        exact q2
      · rw [if_pos (by simpa using e)] at q2
        rw [if_pos (by omega)]
        exact q2
    · intro k0 hk0
      show U _ (μ.upd k0 (ordD (rest vs.length num)))
      refine hU.go ?_
      clear hU
      refine sq fun U hU => ?_
      walk_at "ev"
      have fin : ∀ (k : Nat) (ν : Mu), Mu.Sub μ ν → ν k = some (ordD (ordr vs.length num b)) → U [some (enc r), some (.tup (vs.map D.int)), some (.int h), some (.int (num : Int)), some (.bl b), some (.cell k), none, none, none, none, none, none] ν := by
        intro k ν sb hk
        refine hU.go ?_
        clear hU
        refine sq fun U hU => ?_
        walk_at "ev"
        intro z1 hz1
        have sz : (1 : Nat) * (((vs.map D.int).length : Nat) : Int).toNat ≤ sizeLine := by
          rw [List.length_map]
          exact sz1000 (by omega)
        have ln : (((vs.map D.int).length : Nat) : Int) < 9223372036854775808 := by
          rw [List.length_map]
          omega
        refine ⟨⟨by omega, ln, sz⟩, ?_⟩
        intro f hf
        simp -dsimp only [dLc, diSeq]
        walk_at "ev"
        refine lc_tm (l := vs) (e := D.int) (fun v => fr (cost r v 1)) held_nil (by omega) (fun v hv' μ' Qy sb' q2 => ?_) ?_
        · simp -dsimp only [wipeD]
          walk_at "ev"
          exact ⟨r, v, 1, rfl, ⟨g, hv.v v hv', by omega, by omega⟩, q2⟩
        intro p hp
        rw [show (List.replicate (((vs.map D.int).length : Nat) : Int).toNat [D.int 0]).flatten = seatD vs.length (fun _ => 0) by rw [List.length_map, Int.toNat_natCast]; exact zeros _] at hp ⊢
        rw [show vs.map (fun v => fr (cost r v 1)) = prD r vs (fun _ => 0) by
          refine (congrArg (List.map fun v => fr (cost r v 1)) (list_gt vs)).trans ?_
          rw [List.map_map]
          rfl]
        obtain ⟨ν1, en⟩ : ∃ ν1, ν1 = (((ν.upd z1 [.int 0]).upd f (seatD vs.length (fun _ => 0))).upd p (prD r vs (fun _ => 0))) := ⟨_, rfl⟩
        rw [← en]
        have sb1 : Mu.Sub μ ν1 := by
          rw [en]
          exact sb.trans ((Mu.sub_upd hz1).trans ((Mu.sub_upd hf).trans (Mu.sub_upd hp)))
        have nk : ν1 k = some (ordD (ordr vs.length num b)) := by
          rw [en]
          exact Mu.keep (Mu.keep (Mu.keep hk hz1) hf) hp
        have nf : ν1 f = some (seatD vs.length (fun _ => 0)) := by
          rw [en]
          exact Mu.keep Mu.upd_same hp
        have np : ν1 p = some (prD r vs (fun _ => 0)) := by
          rw [en]
          exact Mu.upd_same
        have fk : k ≠ f := Mu.ne_of (Mu.keep hk hz1) hf
        have pk' : k ≠ p := Mu.ne_of (Mu.keep (Mu.keep hk hz1) hf) hp
        have fp : f ≠ p := Mu.ne_of (Mu.upd_same (μ := ν.upd z1 [.int 0]) (k := f)) hp
        have mf : μ f = none := none_of (sb.trans (Mu.sub_upd hz1)) hf
        have mp : μ p = none := none_of (sb.trans ((Mu.sub_upd hz1).trans (Mu.sub_upd hf))) hp
        clear hz1 hf hp en
        refine hU.go ?_
        clear hU
        refine sq fun U hU => ?_
        simp -dsimp only [dFor, diR1]
        walk_at "ev"
        refine ⟨⟨by omega, by omega⟩, ?_⟩
        refine ⟨fun i ρ3 μ3 => ∃ w9 w10 w11, ρ3 = [some (enc r), some (.tup (vs.map D.int)), some (.int h), some (.int (num : Int)), some (.bl b), some (.cell k), none, some (.cell f), some (.cell p), w9, w10, w11] ∧ Mu.Sub μ μ3 ∧ μ3 k = some (ordD (ordr vs.length num b)) ∧ μ3 f = some (seatD vs.length (G r vs (ordr vs.length num b) i)) ∧ μ3 p = some (prD r vs (G r vs (ordr vs.length num b) i)),
          ⟨_, _, _, rfl, sb1, nk, nf, np⟩, fun i x ρ3 μ3 hi w => ⟨held_nil, ?_⟩, fun ρ3 μ3 w => ⟨held_nil, ?_⟩⟩
        · obtain ⟨w9, w10, w11, rfl, s3, k3, f3, p3⟩ := w
          obtain ⟨rfl, il⟩ := range0_at hi
          have ha : act vs ≠ [] := hd.resolve_left (by omega)
          obtain ⟨g1, g2, g3⟩ := G_ok g hv ha hn b i (by omega)
          have ps := pk_spec g hv g2 (by omega) hn b rfl
          have eG : G r vs (ordr vs.length num b) (i + 1) = plus (G r vs (ordr vs.length num b) i) [((pk r vs (ordr vs.length num b) (G r vs (ordr vs.length num b) i) : Nat) : Int)] := rfl
          have pl := ps.1
          have om : ∀ a ∈ ordr vs.length num b, a < vs.length := fun a ha => (ordr_mem hn).mp ha
          have ol : (ordr vs.length num b).length ≤ 1000 := by
            unfold ordr rest
            have := List.length_filter_le (fun a => decide (a ≠ num)) (List.range vs.length)
            rw [List.length_range] at this
            split
            · rw [List.length_cons]
              omega
            · rw [List.length_append]
              show _ + 1 ≤ _
              omega
          have epk : pk r vs (ordr vs.length num b) (G r vs (ordr vs.length num b) i) = fold1 (pr r vs (G r vs (ordr vs.length num b) i)) ((ordr vs.length num b).headD 0) (ordr vs.length num b).tail := rfl
          have one : ∃ o l, ordr vs.length num b = o :: l := by
            cases e : ordr vs.length num b with
            | nil =>
              have := (ordr_mem (b := b) hn).mpr hn
              rw [e] at this
              cases this
            | cons o l => exact ⟨o, l, rfl⟩
          obtain ⟨s, es⟩ : ∃ s, s = G r vs (ordr vs.length num b) i := ⟨_, rfl⟩
          rw [← es] at f3 p3 g1 g2 g3 pl epk eG
          obtain ⟨c, ec⟩ : ∃ c, c = pk r vs (ordr vs.length num b) s := ⟨_, rfl⟩
          rw [← ec] at pl epk eG
          clear ps es ec
          obtain ⟨o, l, eo⟩ := one
          have k4 := k3
          rw [eo] at k4 om ol epk
          have epk : c = fold1 (pr r vs s) o l := epk
          walk_at "ev"
          refine sq fun V hV => ?_
          walk_at "ev"
          rw [k4]
          walk_at "ev"
          have a0 : atI (ordD (o :: l)) 0 = some (D.int (o : Int)) := atI_nat (j := 0) rfl
          rw [a0]
          walk_at "ev"
          refine hV.go ?_
          clear hV
          refine sq fun V hV => ?_
          simp -dsimp only [dFor, diSeq, dSl, doSome, doNone]
          walk_at "ev"
          rw [k4]
          intro m hm
          simp -dsimp only [lsrc]
          rw [Mu.upd_same, cut_1]
          walk_at "ev"
          have P : ∀ a, a < vs.length → 0 < (pr r vs s a).2 := fun a hl => (Kp g hv (by have := g2.lo a; omega) (by have := g2.hi a hl; omega)).2
          refine ⟨fun j ρ4 μ4 => ∃ w9, ρ4 = [some (enc r), some (.tup (vs.map D.int)), some (.int h), some (.int (num : Int)), some (.bl b), some (.cell k), none, some (.cell f), some (.cell p), w9, some (.int (i : Int)), some (.int (fold1 (pr r vs s) o (l.take j) : Nat))] ∧ Mu.Sub (μ3.upd m (ordD l)) μ4, ⟨_, rfl, Mu.Sub.refl _⟩, fun j x ρ4 μ4 hj w => ?_, fun ρ4 μ4 w => ?_⟩
          · obtain ⟨w9, rfl, s4⟩ := w
            refine ⟨held_one (s4 _ _ Mu.upd_same), ?_⟩
            have hj : l[j]?.map (fun (a : Nat) => D.int (a : Int)) = some x := by
              rw [← List.getElem?_map]
              exact hj
            obtain ⟨a, hja, rfl⟩ := Option.map_eq_some_iff.mp hj
            have la := om a (List.mem_cons_of_mem _ (List.mem_of_getElem? hja))
            have et : fold1 (pr r vs s) o (l.take (j + 1)) = if lt (pr r vs s (fold1 (pr r vs s) o (l.take j))) (pr r vs s a) then a else fold1 (pr r vs s) o (l.take j) := by
              rw [List.take_add_one, hja]
              unfold fold1
              rw [List.foldl_append]
              rfl
            have lq : fold1 (pr r vs s) o (l.take j) < vs.length := by
              rcases (fold1_spec (pr r vs s) (l.take j) o (P o (om o (List.mem_cons_self ..))) fun x hx => P x (om x (List.mem_cons_of_mem _ (List.mem_of_mem_take hx)))).1 with e | e
              · rw [e]
                exact om o (List.mem_cons_self ..)
              · exact om _ (List.mem_cons_of_mem _ (List.mem_of_mem_take e))
            generalize fold1 (pr r vs s) o (l.take j) = c1 at et lq ⊢
            have p4 := s4 _ _ (Mu.keep (xs := ordD l) p3 hm)
            have z1 := pr_sz g hv g2 (by omega) lq
            have z2 := pr_sz g hv g2 (by omega) la
            walk_at "ev"
            rw [p4]
            walk_at "ev"
            rw [prD_at lq]
            walk_at "ev"
            rw [prD_at la]
            simp -dsimp only [fr]
            walk_at "ev"
            refine ⟨⟨z1.1, z1.2, z2.1, z2.2⟩, ?_⟩
            walk_at "ev"
            by_cases e : lt (pr r vs s c1) (pr r vs s a)
            · rw [if_pos e] at et
              rw [if_pos (by simp only [lt] at e; exact e)]
              exact ⟨_, by rw [et], s4⟩
            · rw [if_neg e] at et
              rw [if_neg (by simp only [lt] at e; exact e)]
              exact ⟨_, by rw [et], s4⟩
          · obtain ⟨w9, rfl, s4⟩ := w
            refine ⟨held_one (s4 _ _ Mu.upd_same), ?_⟩
            have el : fold1 (pr r vs s) o (l.take ((List.drop 1 (ordD (o :: l))).length)) = c := by
              have : (List.drop 1 (ordD (o :: l))).length = l.length := by
                show (ordD l).length = _
                unfold ordD
                rw [List.length_map]
              rw [this, List.take_length]
              exact epk.symm
            show V [some (enc r), some (.tup (vs.map D.int)), some (.int h), some (.int (num : Int)), some (.bl b), some (.cell k), none, some (.cell f), some (.cell p), w9, some (.int (i : Int)), some (.int (fold1 (pr r vs s) o (l.take ((List.drop 1 (ordD (o :: l))).length)) : Nat))] μ4
            rw [el]
            have f4 := s4 _ _ (Mu.keep (xs := ordD l) f3 hm)
            have p4 := s4 _ _ (Mu.keep (xs := ordD l) p3 hm)
            have k5 := s4 _ _ (Mu.keep (xs := ordD l) k3 hm)
            have s5 := (s3.trans (Mu.sub_upd hm)).trans s4
            have gc := g2.lo c
            have gh := g2.hi c pl
            refine hV.go ?_
            clear hV
            refine sq fun V hV => ?_
            walk_at "ev"
            rw [f4]
            walk_at "ev"
            rw [seat_at pl]
            walk_at "ev"
            rw [seat_len, ixN_nat pl]
            walk_at "ev"
            rw [seat_set pl]
            refine hV.go ?_
            clear hV
            walk_at "ev"
            rw [v_at pl]
            walk_at "ev"
            rw [seat_at pl]
            walk_at "ev"
            have bc : plus s [(c : Int)] c = s c + 1 := by rw [bump, if_pos rfl]
            rw [bc]
            refine ⟨r, vt vs c, s c + 1 + 1, rfl, ⟨g, hv.at c, by omega, by omega⟩, ?_⟩
            walk_at "ev"
            rw [Mu.upd_ne fp.symm, p4]
            walk_at "ev"
            rw [prD_len, ixN_nat pl]
            walk_at "ev"
            rw [prD_set pl, eG]
            exact ⟨_, _, _, rfl, (s5.put mf).put mp, (Mu.upd_ne pk').trans ((Mu.upd_ne fk).trans k5), (Mu.upd_ne fp).trans Mu.upd_same, rfl⟩
        · obtain ⟨w9, w10, w11, rfl, s3, k3, f3, p3⟩ := w
          have f3 : μ3 f = some (seatD vs.length (G r vs (ordr vs.length num b) (rangeD 0 h).length)) := f3
          rw [rangeD_len, Int.sub_zero] at f3
          refine hU.go ?_
          clear hU
          walk_at "ev"
          simp -dsimp only [dSeq1, sitems]
          walk_at "ev"
          rw [f3]
          exact ⟨_, s3, q⟩
      cases b with
      | true =>
        walk_at "ev"
        intro k1 hk1
        rw [Mu.keep Mu.upd_same hk1]
        refine ⟨sz1000 (by unfold ordD rest; rw [List.length_map]; have := List.length_filter_le (fun a => decide (a ≠ num)) (List.range vs.length); rw [List.length_range] at this; show 1 + _ ≤ _; omega), fun k2 hk2 => ?_⟩
        exact fin k2 _ ((Mu.sub_upd hk0).trans ((Mu.sub_upd hk1).trans (Mu.sub_upd hk2))) Mu.upd_same
      | false =>
        walk_at "ev"
        intro k1 hk1
        rw [Mu.keep Mu.upd_same hk1]
        refine ⟨sz1000 (by unfold ordD rest; rw [List.length_map]; have := List.length_filter_le (fun a => decide (a ≠ num)) (List.range vs.length); rw [List.length_range] at this; show _ + 1 ≤ _; omega), fun k2 hk2 => ?_⟩
        refine fin k2 _ ((Mu.sub_upd hk0).trans ((Mu.sub_upd hk1).trans (Mu.sub_upd hk2))) (Mu.upd_same.trans ?_)
        unfold ordr ordD
        rw [if_neg (by decide), List.map_append]
        rfl
  by_cases hp : 0 < h
  · rw [if_pos hp]
    simp -dsimp only [dSeq1, sitems]
    walk_at "ev"
    refine ⟨vs, rfl, by omega, fun m hm hle => ?_⟩
    walk_at "ev"
    by_cases z : m = 0
    · rw [if_pos z]
      have ea : act vs = [] := Classical.byContradiction fun y => by
        have := (act_max hm hle).mpr y
        omega
      have : dwD r vs h num b = .non := if_pos ⟨hp, ea⟩
      rw [this] at q
      exact ⟨_, Mu.Sub.refl _, q⟩
    · rw [if_neg z]
      refine rest (.inr fun y => ?_)
      have m0 := (hv.v m hm).1
      have := (act_max hm hle).mp (by omega)
      exact this y
  · rw [if_neg hp]
    exact rest (.inl (by omega))
end K40
namespace K40
open PySem PySem.Spec PyProof.Rows L2 Dl
local macro_rules | `(tactic| walk_at "ev") => `(tactic| try simp -dsimp only [↓dSeq_at, cInt2, oIs2, oNot2, encV, sp_is_within, sp_is_tuple, sp_is_integer, encR, dPar3, dRet, dRetN, dNext, dIfS, dAsg, dDrop, dPar, dNever, dVar, dC, dOp, dUn, dTest, dChain, dAnd, dOr, dNot, dIf, dtAnd, dtOr, dtNot, dTup, daNil, daCons, dCall, dFn, dFnK, dNew, dLst, dOf,
  gdName, gdTup, gdCons, gdNil, gdSub, rdI, rdI0, oPlus, oSub, oTimes, oDiv, oMod, oPow, oLt, oLe, oGt, oGe, oIx, oEq, oNe, uNeg, oIsN, oNotN, D.isNon, cAbs, cMax, cMin, cInt, cDivmod, cLen, cIsi, tyD, items, litems, retD, sTup, mApp, dYes,
  atI_0, atI_1, atI_2, atI_3, atI_4, ixN_20, ixN_21, kit_ii, kit_ib, kit_is, kit_it, kit_il, kit_bi, kit_bb, kit_bs, kit_bt, kit_bl, kit_si, kit_sb, kit_ss, kit_st, kit_sl, kit_ti, kit_tb, kit_ts, kit_tt, kit_tl, kit_li, kit_lb, kit_ls, kit_lt, kit_ll,
  List.getElem?_cons_zero, List.getElem?_cons_succ, List.set_cons_zero, List.set_cons_succ, List.length_cons, List.length_nil, Mu.upd_same, Mu.upd_upd, Nat.zero_add, Nat.reduceAdd, Nat.reduceLeDiff, natlit, Int.reduceEq, Int.reduceLT, Int.reduceLE, Int.reduceAdd, Int.reduceSub, Int.reduceMul, Int.reducePow, Int.reduceNeg, permG2_10, permG3_210, zl_0, zl_1, zl_2, zl_3, zl_4, zl_5, zl_6, zl_7, zl_8, zl_9, zl_10, zl_11, zl_12, zl_13, zl_14, zl_15, zl_16, zl_17, zl_18, zl_19, zl_20, true_and, and_true, eq_self, not_true_eq_false, not_false_eq_true, decide_true, decide_false, if_true, Bool.false_eq_true, if_false, Bool.not_true, Bool.not_false, decide_eq_true_eq, Bool.not_eq_true', decide_eq_false_iff_not, Option.isSome, Option.map])
theorem cut_lo {xs : List D} {t : Nat} (h : t ≤ xs.length) : Dl.cutD xs none (some (t : Int)) = xs.take t := by
  unfold Dl.cutD
  rw [HT.sIx_nat, HT.sIx_none, List.drop_zero, Nat.sub_zero, Nat.min_eq_left h]
theorem cut_hi {xs : List D} {t : Nat} (h : t ≤ xs.length) : Dl.cutD xs (some (t : Int)) none = xs.drop t := by
  unfold Dl.cutD
  rw [HT.sIx_nat, HT.sIx_none, Nat.min_eq_left h]
  exact List.take_of_length_le (by rw [List.length_drop]; exact Nat.le_refl _)
theorem cut_v {vs : List Int} {t : Nat} (h : t ≤ vs.length) : Dl.cutD (vs.map D.int) none (some (t : Int)) = (vs.take t).map D.int := by
  rw [cut_lo (by rw [List.length_map]; exact h), List.map_take]
theorem cut_w {vs : List Int} {t : Nat} (h : t < vs.length) : Dl.cutD (vs.map D.int) (some ((t : Int) + 1)) none = (vs.drop (t + 1)).map D.int := by
  rw [show (t : Int) + 1 = ((t + 1 : Nat) : Int) by omega, cut_hi (by rw [List.length_map]; exact h), List.map_drop]
theorem oth_sz {vs : List Int} {num : Nat} (hv : Vok vs) (hn : num < vs.length) : ((vs.take num).map D.int).length + ((vs.drop (num + 1)).map D.int).length ≤ sizeLine := by
  have := hv.len
  rw [List.length_map, List.length_map, List.length_take, List.length_drop]
  exact sz1000 (by omega)
theorem eqv_ints : ∀ a b : List Int, PyData.eqvAll (a.map PyData.int) (b.map PyData.int) = decide (a = b)
  | [], [] => by simp [PyData.eqvAll]
  | [], _ :: _ => by simp [PyData.eqvAll]
  | _ :: _, [] => by simp [PyData.eqvAll]
  | x :: a, y :: b => by
    have ih := eqv_ints a b
    simp only [List.map_cons, PyData.eqvAll, ih]
    rw [Bool.eq_iff_iff]
    simp [PyData.eqv]
theorem eqv_v (a b : List Int) : PyData.eqv (pyV a) (pyV b) = decide (a = b) := by
  unfold pyV
  simp only [PyData.eqv]
  exact eqv_ints a b
theorem eq_v {μ : Mu} (a : List Int) : EqOk μ (encV a) (pyV a) 1 := .tup (.map fun x _ => .int x)
theorem range_one {p : Nat} : ∀ n, p < n → (List.range n).filter (fun a => decide (a = p)) = [p]
  | 0, h => absurd h (Nat.not_lt_zero p)
  | n + 1, h => by
    rw [List.range_succ, List.filter_append]
    by_cases e : n = p
    · subst e
      have z : (List.range n).filter (fun a => decide (a = n)) = [] := List.filter_eq_nil_iff.mpr fun a ha => by
        have := List.mem_range.mp ha
        simp
        omega
      rw [z]
      simp
    · rw [range_one n (by omega)]
      simp [e]
def wd (w : Bool) : D := if w = true then .str "some" else .str "each"
def sp_want_list : DSp := fun ds μ Q => ∃ (r : R) (vs : List Int) (h : Int) (num : Nat), ds = [encR r vs h, .int (num : Int)] ∧ (Rok r vs h ∧ num < vs.length) ∧ Q .non μ
theorem len_want_list : ∀ ds μ Q, sp_want_list ds μ Q → ds.length = (["race", "number"] : List Str).length := by
  rintro ds μ Q ⟨r, vs, h, num, rfl, _⟩
  rfl
def db_want_list : DTS := (dSeq (dDrop (dFn sp_want_race (daCons (dVar 0) daNil))) (dIfS (dtNot (dTest (dFn sp_is_within (daCons (dVar 1) (daCons (dC (.int 0)) (daCons (dOp oSub (dCall cLen (daCons (dOp oIx (dVar 0) (dC (.int 2))) daNil)) (dC (.int 1))) daNil)))))) dNever dNext))
theorem pf_want_list : ∀ ds μ Q, sp_want_list ds μ Q → db_want_list (retD Q) (startD ["race", "number"] ds) μ := by
  rintro ds μ Q ⟨r, vs, h, num, rfl, ⟨ok, hn⟩, q⟩
  show db_want_list (retD Q) [some (encR r vs h), some (.int (num : Int))] μ
  unfold db_want_list
  refine sq fun U hU => ?_
  walk_at "ev"
  refine ⟨r, vs, h, rfl, ok, ?_⟩
  refine hU.go ?_
  walk_at "ev"
  rw [List.length_map, if_neg (fun z => z (by omega))]
  exact ⟨_, Mu.Sub.refl _, q⟩
def sp_want_goal : DSp := fun ds μ Q => ∃ (r : R) (vs : List Int) (h s : Int) (w : Bool), ds = [encR r vs h, .int s, wd w] ∧ (0 ≤ s ∧ s ≤ h) ∧ Q .non μ
theorem len_want_goal : ∀ ds μ Q, sp_want_goal ds μ Q → ds.length = (["race", "seats", "word"] : List Str).length := by
  rintro ds μ Q ⟨r, vs, h, s, w, rfl, _⟩
  rfl
def db_want_goal : DTS := (dSeq (dIfS (dtNot (dTest (dFn sp_is_within (daCons (dVar 1) (daCons (dC (.int 0)) (daCons (dOp oIx (dVar 0) (dC (.int 3))) daNil)))))) dNever dNext) (dIfS (dtOr (dtNot (dTest (dCall cIsi (daCons (dVar 2) (daCons (dC (.ty "str")) daNil))))) (dTest (dOp (oIn3 true) (dVar 2) (dTup (daCons (dC (.str "some")) (daCons (dC (.str "each")) daNil)))))) dNever dNext))
theorem pf_want_goal : ∀ ds μ Q, sp_want_goal ds μ Q → db_want_goal (retD Q) (startD ["race", "seats", "word"] ds) μ := by
  rintro ds μ Q ⟨r, vs, h, s, w, rfl, ⟨s0, s1⟩, q⟩
  show db_want_goal (retD Q) [some (encR r vs h), some (.int s), some (wd w)] μ
  have key : ∀ (z : Str) (Q2 : DK), z ∈ (["some", "each"] : List Str) → Q2 (.bl false) μ → oIn3 true (.str z) (.tup [.str "some", .str "each"]) μ Q2 := by
    intro z Q2 hz q2
    refine .inr ⟨z, ["some", "each"], rfl, rfl, ?_⟩
    rw [if_pos rfl, decide_eq_true hz]
    exact q2
  unfold db_want_goal
  refine sq fun U hU => ?_
  walk_at "ev"
  rw [if_neg (fun z => z ⟨s0, s1⟩)]
  refine hU.go ?_
  cases w with
  | true =>
    rw [show wd true = .str "some" from rfl]
    walk_at "ev"
    refine key _ _ (by decide) ?_
    walk_at "ev"
    exact ⟨_, Mu.Sub.refl _, q⟩
  | false =>
    rw [show wd false = .str "each" from rfl]
    walk_at "ev"
    refine key _ _ (by decide) ?_
    walk_at "ev"
    exact ⟨_, Mu.Sub.refl _, q⟩
def sp_other_price : DSp := fun ds μ Q => ∃ (r : R) (vs : List Int) (h : Int) (num : Nat) (m : Int), ds = [encR r vs h, .int (num : Int), .int m] ∧ (Rok r vs h ∧ num < vs.length ∧ 1 ≤ m ∧ m ≤ 200) ∧ Q (fr (pO r (oth vs num) (m - 1).toNat)) μ
theorem len_other_price : ∀ ds μ Q, sp_other_price ds μ Q → ds.length = (["race", "number", "many"] : List Str).length := by
  rintro ds μ Q ⟨r, vs, h, num, m, rfl, _⟩
  rfl
def db_other_price : DTS := (dSeq (dAsg (dVar 0) (gdTup 4 (gdCons (gdName 3) (gdCons (gdName 4) (gdCons (gdName 5) (gdCons (gdName 6) gdNil)))))) (dSeq (dAsg (dOp oPlus (dSl (dVar 5) doNone (doSome (dVar 1))) (dSl (dVar 5) (doSome (dOp oPlus (dVar 1) (dC (.int 1)))) doNone)) (gdName 7)) (dSeq (dIfS (dtOr (dTest (dOp oEq (dVar 7) (dTup daNil))) (dTest (dOp oEq (dCall (dSeq1 true sMax) (daCons (dVar 7) daNil)) (dC (.int 0))))) (dRet (dTup (daCons (dC (.int 0)) (daCons (dC (.int 1)) daNil)))) dNext) (dSeq (dAsg (dFn sp_deal_with (daCons (dVar 4) (daCons (dVar 7) (daCons (dVar 2) (daCons (dC (.int 0)) (daCons (dC (.bl true)) daNil)))))) (gdName 8)) (dSeq (dAsg (dFn sp_deal_with (daCons (dVar 4) (daCons (dVar 7) (daCons (dOp oSub (dVar 2) (dC (.int 1))) (daCons (dC (.int 0)) (daCons (dC (.bl true)) daNil)))))) (gdName 9)) (dSeq (dAsg (dOp oIx (dNew (dLc (diR1 (daCons (dCall cLen (daCons (dVar 7) daNil)) daNil)) (gdName 11) (dTest (dOp oGt (dOp oIx (dVar 8) (dVar 11)) (dOp oIx (dVar 9) (dVar 11)))) (dVar 11) [11])) (dC (.int 0))) (gdName 10)) (dRet (dFn sp_price_at (daCons (dVar 4) (daCons (dOp oIx (dVar 7) (dVar 10)) (daCons (dOp oIx (dVar 8) (dVar 10)) daNil)))))))))))
theorem pf_other_price : ∀ ds μ Q, sp_other_price ds μ Q → db_other_price (retD Q) (startD ["race", "number", "many", "word", "rule", "votes", "house", "others", "deal", "late", "at", "one"] ds) μ := by
  rintro ds μ Q ⟨r, vs, h, num, m, rfl, ⟨ok, hn, m0, m1⟩, q⟩
  show db_other_price (retD Q) [some (encR r vs h), some (.int (num : Int)), some (.int m), none, none, none, none, none, none, none, none, none] μ
  have hl := ok.v.len
  unfold db_other_price
  refine sq fun U hU => ?_
  walk_at "ev"
  refine hU.go ?_
  clear hU
  refine sq fun U hU => ?_
  walk_at "ev"
  simp -dsimp only [dSl, doNone, doSome]
  walk_at "ev"
  rw [cut_v (Nat.le_of_lt hn), cut_w hn]
  refine ⟨oth_sz ok.v hn, ?_⟩
  rw [← List.map_append, show vs.take num ++ vs.drop (num + 1) = oth vs num from rfl]
  refine hU.go ?_
  clear hU
  refine sq fun U hU => ?_
  walk_at "ev"
  refine ask_deep (eq_v (oth vs num)) (eq_v []) (by decide) (by decide) ?_
  rw [if_neg (by decide), eqv_v]
  walk_at "ev"
  by_cases e0 : oth vs num = []
  · rw [if_pos e0]
    have : pO r (oth vs num) (m - 1).toNat = (0, 1) := if_pos (by rw [e0]; rfl)
    rw [this] at q
    exact ⟨_, Mu.Sub.refl _, q⟩
  · rw [if_neg e0]
    simp -dsimp only [dSeq1, sitems]
    walk_at "ev"
    refine ⟨oth vs num, rfl, List.length_pos_iff.mpr e0, fun x hx hle => ?_⟩
    walk_at "ev"
    by_cases z : x = 0
    · rw [if_pos z]
      have ea : act (oth vs num) = [] := Classical.byContradiction fun y => by
        have := (act_max hx hle).mpr y
        omega
      have : pO r (oth vs num) (m - 1).toNat = (0, 1) := if_pos ea
      rw [this] at q
      exact ⟨_, Mu.Sub.refl _, q⟩
    · rw [if_neg z]
      have ea : act (oth vs num) ≠ [] := (act_max hx hle).mp (by
        have : 0 ≤ x := by
          unfold oth at hx
          rcases List.mem_append.mp hx with y | y
          · exact (ok.v.v x (List.mem_of_mem_take y)).1
          · exact (ok.v.v x (List.mem_of_mem_drop y)).1
        omega)
      have ov := oth_vok hn ok.v ea
      have ol := ov.len
      clear z hle hx
      obtain ⟨h1, h2, h3⟩ := G_ok ok.g ov ea (num := 0) ov.len.1 true (m - 1).toNat (by omega)
      have lp := pk_lot ok.g ov ea (num := 0) ov.len.1 true h2 (by omega)
      have ap := (act_vt (lot_iff.mp lp).1)
      have eg : Gs r (oth vs num) m 0 true = plus (G r (oth vs num) (ordr (oth vs num).length 0 true) (m - 1).toNat) [((at1 r (oth vs num) (m - 1).toNat : Nat) : Int)] := by
        unfold Gs
        rw [show m.toNat = (m - 1).toNat + 1 by omega]
        rfl
      have eg2 : Gs r (oth vs num) (m - 1) 0 true = G r (oth vs num) (ordr (oth vs num).length 0 true) (m - 1).toNat := rfl
      have ep : pO r (oth vs num) (m - 1).toNat = K r (oth vs num) (at1 r (oth vs num) (m - 1).toNat) (G r (oth vs num) (ordr (oth vs num).length 0 true) (m - 1).toNat (at1 r (oth vs num) (m - 1).toNat) + 1) := if_neg ea
      have w1 : dwD r (oth vs num) m 0 true = .tup (seatD (oth vs num).length (Gs r (oth vs num) m 0 true)) := if_neg fun z => ea z.2
      have w2 : dwD r (oth vs num) (m - 1) 0 true = .tup (seatD (oth vs num).length (Gs r (oth vs num) (m - 1) 0 true)) := if_neg fun z => ea z.2
      rw [eg] at w1
      rw [eg2] at w2
      rw [ep] at q
      change at1 r (oth vs num) (m - 1).toNat < (oth vs num).length ∧ _ at ap
      clear eg eg2 ep lp h1 h3
      generalize at1 r (oth vs num) (m - 1).toNat = p at *
      generalize G r (oth vs num) (ordr (oth vs num).length 0 true) (m - 1).toNat = s at *
      have gp := h2.lo p
      have gh := h2.hi p ap.1
      refine hU.go ?_
      clear hU
      refine sq fun U hU => ?_
      walk_at "ev"
      refine ⟨r, oth vs num, m, 0, true, rfl, ⟨ok.g, ov, ⟨by omega, by omega⟩, ov.len.1⟩, ?_⟩
      rw [w1]
      refine hU.go ?_
      clear hU
      refine sq fun U hU => ?_
      walk_at "ev"
      refine ⟨r, oth vs num, m - 1, 0, true, rfl, ⟨ok.g, ov, ⟨by omega, by omega⟩, ov.len.1⟩, ?_⟩
      rw [w2]
      refine hU.go ?_
      clear hU
      refine sq fun U hU => ?_
      walk_at "ev"
      simp -dsimp only [dLc, diR1]
      walk_at "ev"
      refine ⟨⟨by omega, by rw [List.length_map]; omega⟩, ?_⟩
      rw [List.length_map, range_nat]
      refine lc_ty (fun (a : Nat) => decide (a = p)) (fun (a : Nat) => .int (a : Int)) held_nil (by rw [List.length_range]; omega) (fun a ha μ' Qy Qn sb q2 => ?_) ?_
      · have al := List.mem_range.mp ha
        simp -dsimp only [wipeD]
        walk_at "ev"
        rw [seat_at al]
        walk_at "ev"
        rw [seat_at al]
        walk_at "ev"
        rw [bump]
        by_cases e : a = p
        · rw [if_pos (decide_eq_true e)] at q2
          rw [if_pos e, if_pos (by omega)]
          exact q2
        · rw [if_neg (by simpa using e)] at q2
          rw [if_neg e, if_neg (by omega)]
          exact q2
      · rw [range_one _ ap.1]
        intro k hk
        walk_at "ev"
        have a0 : atI ([p].map fun (a : Nat) => D.int (a : Int)) 0 = some (D.int (p : Int)) := atI_nat (j := 0) rfl
        rw [a0]
        walk_at "ev"
        refine hU.fgt (Mu.sub_upd hk) ?_
        walk_at "ev"
        rw [v_at ap.1]
        walk_at "ev"
        rw [seat_at ap.1]
        walk_at "ev"
        rw [bump, if_pos rfl]
        exact ⟨r, vt (oth vs num) p, s p + 1, rfl, ⟨ok.g, ov.at p, by omega, by omega⟩, _, Mu.Sub.refl _, q⟩
/-! ## other votes of one list -/
def sp_with_votes : DSp := fun ds μ Q => ∃ (r : R) (vs : List Int) (h : Int) (num : Nat) (x : Int), ds = [encR r vs h, .int (num : Int), .int x] ∧ (Vok vs ∧ num < vs.length) ∧ Q (encR r (wv vs num x) h) μ
theorem len_with_votes : ∀ ds μ Q, sp_with_votes ds μ Q → ds.length = (["race", "number", "votes"] : List Str).length := by
  rintro ds μ Q ⟨r, vs, h, num, x, rfl, _⟩
  rfl
def db_with_votes : DTS := (dRet (dOp oPlus (dSl (dVar 0) doNone (doSome (dC (.int 2)))) (dTup (daCons (dOp oPlus (dOp oPlus (dSl (dOp oIx (dVar 0) (dC (.int 2))) doNone (doSome (dVar 1))) (dTup (daCons (dVar 2) daNil))) (dSl (dOp oIx (dVar 0) (dC (.int 2))) (doSome (dOp oPlus (dVar 1) (dC (.int 1)))) doNone)) (daCons (dOp oIx (dVar 0) (dC (.int 3))) daNil)))))
theorem pf_with_votes : ∀ ds μ Q, sp_with_votes ds μ Q → db_with_votes (retD Q) (startD ["race", "number", "votes"] ds) μ := by
  rintro ds μ Q ⟨r, vs, h, num, x, rfl, ⟨hv, hn⟩, q⟩
  show db_with_votes (retD Q) [some (encR r vs h), some (.int (num : Int)), some (.int x)] μ
  have hl := hv.len
  unfold db_with_votes
  walk_at "ev"
  simp -dsimp only [dSl, doNone, doSome]
  walk_at "ev"
  rw [cut_v (Nat.le_of_lt hn), cut_w hn]
  rw [show Dl.cutD [D.str (Str.ofString "race"), enc r, .tup (vs.map D.int), .int h] none (some 2) = [D.str (Str.ofString "race"), enc r] from cut_lo (t := 2) (show 2 ≤ 4 by decide)]
  have e : (vs.take num).map D.int ++ [D.int x] ++ (vs.drop (num + 1)).map D.int = (wv vs num x).map D.int := by
    unfold wv
    rw [List.map_append, List.map_append]
    rfl
  refine ⟨?_, ?_, ?_, ?_⟩
  · rw [List.length_map, List.length_take]
    exact sz1000 (by omega)
  · rw [List.length_append, List.length_map, List.length_map, List.length_take, List.length_drop]
    exact sz1000 (by show min num vs.length + 1 + _ ≤ _; omega)
  · exact sz1000 (show 4 ≤ 100000 by decide)
  · rw [e]
    exact ⟨_, Mu.Sub.refl _, q⟩
theorem ask_with {r : R} {vs : List Int} {h x : Int} {num : Nat} {μ : Mu} {Q : DK} (hv : Vok vs) (hn : num < vs.length) (q : Q (encR r (wv vs num x) h) μ) : sp_with_votes [encR r vs h, .int (num : Int), .int x] μ Q := ⟨r, vs, h, num, x, rfl, ⟨hv, hn⟩, q⟩
/-- votes moved -/
def mv (vs : List Int) (num fur : Nat) (k : Int) : List Int := wv (wv vs num (vt vs num + k)) fur (vt vs fur - k)
def sp_with_moved : DSp := fun ds μ Q => ∃ (r : R) (vs : List Int) (h : Int) (num fur : Nat) (k : Int), ds = [encR r vs h, .int (num : Int), .int (fur : Int), .int k] ∧ (Vok vs ∧ num < vs.length ∧ fur < vs.length ∧ 0 ≤ k ∧ vt vs num + k ≤ 10 ^ 9) ∧ Q (encR r (mv vs num fur k) h) μ
theorem len_with_moved : ∀ ds μ Q, sp_with_moved ds μ Q → ds.length = (["race", "number", "further", "many"] : List Str).length := by
  rintro ds μ Q ⟨r, vs, h, num, fur, k, rfl, _⟩
  rfl
def db_with_moved : DTS := (dSeq (dAsg (dFn sp_with_votes (daCons (dVar 0) (daCons (dVar 1) (daCons (dOp oPlus (dOp oIx (dOp oIx (dVar 0) (dC (.int 2))) (dVar 1)) (dVar 3)) daNil)))) (gdName 4)) (dRet (dFn sp_with_votes (daCons (dVar 4) (daCons (dVar 2) (daCons (dOp oSub (dOp oIx (dOp oIx (dVar 0) (dC (.int 2))) (dVar 2)) (dVar 3)) daNil))))))
theorem pf_with_moved : ∀ ds μ Q, sp_with_moved ds μ Q → db_with_moved (retD Q) (startD ["race", "number", "further", "many", "late"] ds) μ := by
  rintro ds μ Q ⟨r, vs, h, num, fur, k, rfl, ⟨hv, hn, hf, k0, k1⟩, q⟩
  show db_with_moved (retD Q) [some (encR r vs h), some (.int (num : Int)), some (.int (fur : Int)), some (.int k), none] μ
  have v0 := (hv.at num).1
  unfold db_with_moved
  refine sq fun U hU => ?_
  walk_at "ev"
  rw [v_at hn]
  walk_at "ev"
  refine ask_with hv hn ?_
  refine hU.go ?_
  clear hU
  walk_at "ev"
  rw [v_at hf]
  walk_at "ev"
  refine ask_with (wv_vok hn _ hv (by omega) k1) (by rw [wv_len hn]; exact hf) ?_
  exact ⟨_, Mu.Sub.refl _, q⟩
/-! ## ends -/
def endsD (r : R) (vs : List Int) (h : Int) (num : Nat) : D := if 0 < h ∧ act vs = [] then .non else .tup [.int (Gs r vs h num false num), .int (Gs r vs h num true num)]
def sp_ends_of : DSp := fun ds μ Q => ∃ (r : R) (vs : List Int) (h : Int) (num : Nat), ds = [encR r vs h, .int (num : Int)] ∧ (Rok r vs h ∧ num < vs.length) ∧ Q (endsD r vs h num) μ
theorem len_ends_of : ∀ ds μ Q, sp_ends_of ds μ Q → ds.length = (["race", "number"] : List Str).length := by
  rintro ds μ Q ⟨r, vs, h, num, rfl, _⟩
  rfl
def db_ends_of : DTS := (dSeq (dAsg (dVar 0) (gdTup 4 (gdCons (gdName 2) (gdCons (gdName 3) (gdCons (gdName 4) (gdCons (gdName 5) gdNil)))))) (dSeq (dIfS (dtAnd (dTest (dOp oGt (dVar 5) (dC (.int 0)))) (dTest (dOp oEq (dCall (dSeq1 true sMax) (daCons (dVar 4) daNil)) (dC (.int 0))))) (dRet (dC .non)) dNext) (dRet (dOf sTup (dLc (diSeq (dTup (daCons (dC (.bl false)) (daCons (dC (.bl true)) daNil)))) (gdName 6) dYes (dOp oIx (dFn sp_deal_with (daCons (dVar 3) (daCons (dVar 4) (daCons (dVar 5) (daCons (dVar 1) (daCons (dVar 6) daNil)))))) (dVar 1)) [6])))))
theorem pf_ends_of : ∀ ds μ Q, sp_ends_of ds μ Q → db_ends_of (retD Q) (startD ["race", "number", "word", "rule", "votes", "house", "is_first"] ds) μ := by
  rintro ds μ Q ⟨r, vs, h, num, rfl, ⟨ok, hn⟩, q⟩
  show db_ends_of (retD Q) [some (encR r vs h), some (.int (num : Int)), none, none, none, none, none] μ
  have hl := ok.v.len
  unfold db_ends_of
  refine sq fun U hU => ?_
  walk_at "ev"
  refine hU.go ?_
  clear hU
  refine sq fun U hU => ?_
  walk_at "ev"
  have rest : hasD vs h → U [some (encR r vs h), some (.int (num : Int)), some (.str "race"), some (enc r), some (.tup (vs.map D.int)), some (.int h), none] μ := by
    intro hd
    have hd' : ¬ (0 < h ∧ act vs = []) := fun z => by
      rcases hd with y | y
      · omega
      · exact y z.2
    have e : endsD r vs h num = .tup [.int (Gs r vs h num false num), .int (Gs r vs h num true num)] := if_neg hd'
    rw [e] at q
    refine hU.go ?_
    clear hU
    walk_at "ev"
    simp -dsimp only [dLc, diSeq]
    walk_at "ev"
    refine lc_tm (l := [false, true]) (e := D.bl) (fun b => .int (Gs r vs h num b num)) held_nil (by decide) (fun b hb μ' Qy sb q2 => ?_) ?_
    · simp -dsimp only [wipeD]
      walk_at "ev"
      refine ⟨r, vs, h, num, b, rfl, ⟨ok.g, ok.v, ⟨ok.h0, ok.h1⟩, hn⟩, ?_⟩
      have w1 : dwD r vs h num b = .tup (seatD vs.length (Gs r vs h num b)) := if_neg hd'
      rw [w1]
      walk_at "ev"
      rw [seat_at hn]
      exact q2
    · walk_at "ev"
      exact ⟨_, Mu.Sub.refl _, q⟩
  by_cases hp : 0 < h
  · rw [if_pos hp]
    simp -dsimp only [dSeq1, sitems]
    walk_at "ev"
    refine ⟨vs, rfl, by omega, fun m hm hle => ?_⟩
    walk_at "ev"
    by_cases z : m = 0
    · rw [if_pos z]
      have ea : act vs = [] := Classical.byContradiction fun y => by
        have := (act_max hm hle).mpr y
        omega
      have : endsD r vs h num = .non := if_pos ⟨hp, ea⟩
      rw [this] at q
      exact ⟨_, Mu.Sub.refl _, q⟩
    · rw [if_neg z]
      have m0 := (ok.v.v m hm).1
      exact rest (.inr ((act_max hm hle).mp (by omega)))
  · rw [if_neg hp]
    have := ok.h0
    exact rest (.inl (by omega))
def sp_does_hold : DSp := fun ds μ Q => ∃ (r : R) (vs : List Int) (h : Int) (num : Nat) (s : Int) (w : Bool), ds = [encR r vs h, .int (num : Int), .int s, wd w] ∧ (Rok r vs h ∧ num < vs.length) ∧ Q (.bl (holdb r vs h num w s true)) μ
theorem len_does_hold : ∀ ds μ Q, sp_does_hold ds μ Q → ds.length = (["race", "number", "seats", "word"] : List Str).length := by
  rintro ds μ Q ⟨r, vs, h, num, s, w, rfl, _⟩
  rfl
def db_does_hold : DTS := (dSeq (dAsg (dFn sp_ends_of (daCons (dVar 0) (daCons (dVar 1) daNil))) (gdName 4)) (dRet (dAnd (dOp oNot2 (dVar 4) (dC .non)) (dOp oGe (dOp oIx (dVar 4) (dIf (dTest (dOp oEq (dVar 3) (dC (.str "some")))) (dC (.int 1)) (dC (.int 0)))) (dVar 2)))))
theorem pf_does_hold : ∀ ds μ Q, sp_does_hold ds μ Q → db_does_hold (retD Q) (startD ["race", "number", "seats", "word", "ends"] ds) μ := by
  rintro ds μ Q ⟨r, vs, h, num, s, w, rfl, ⟨ok, hn⟩, q⟩
  show db_does_hold (retD Q) [some (encR r vs h), some (.int (num : Int)), some (.int s), some (wd w), none] μ
  have H := holdb_iff ok.g ok.v ok.h0 ok.h1 hn w s true
  rw [if_pos rfl] at H
  have h0 := ok.h0
  unfold db_does_hold
  refine sq fun U hU => ?_
  walk_at "ev"
  refine ⟨r, vs, h, num, rfl, ⟨ok, hn⟩, ?_⟩
  refine hU.go ?_
  clear hU
  walk_at "ev"
  by_cases c : 0 < h ∧ act vs = []
  · have e : endsD r vs h num = .non := if_pos c
    have nd : ¬ hasD vs h := fun z => by
      rcases z with y | y
      · omega
      · exact y c.2
    have eb : holdb r vs h num w s true = false := Bool.eq_false_iff.mpr fun z => nd (H.mp z).1
    rw [eb] at q
    rw [e]
    walk_at "ev"
    exact ⟨_, Mu.Sub.refl _, q⟩
  · have e : endsD r vs h num = .tup [.int (Gs r vs h num false num), .int (Gs r vs h num true num)] := if_neg c
    have hd : hasD vs h := by
      by_cases z : h = 0
      · exact .inl z
      · exact .inr fun y => c ⟨by omega, y⟩
    have eb : holdb r vs h num w s true = decide (s ≤ Gs r vs h num w num) := by
      rw [Bool.eq_iff_iff, decide_eq_true_eq, H]
      exact ⟨fun z => z.2, fun z => ⟨hd, z⟩⟩
    rw [eb] at q
    rw [e]
    cases w with
    | true =>
      rw [show wd true = .str "some" from rfl]
      walk_at "ev"
      exact ⟨_, Mu.Sub.refl _, q⟩
    | false =>
      rw [show wd false = .str "each" from rfl]
      walk_at "ev"
      rw [if_neg (by decide)]
      exact ⟨_, Mu.Sub.refl _, q⟩
/-! ## least votes, most votes -/
theorem pO_sz {r : R} {os : List Int} (g : GR r) (hv : act os ≠ [] → Vok os) {m : Nat} (hm : m + 1 ≤ 200) : (0 ≤ (pO r os m).1 ∧ (pO r os m).1 ≤ 10 ^ 13) ∧ 0 < (pO r os m).2 ∧ (pO r os m).2 ≤ 10 ^ 6 := by
  by_cases c : act os = []
  · have : pO r os m = (0, 1) := if_pos c
    rw [this]
    exact ⟨⟨by decide, by decide⟩, by decide, by decide⟩
  · have ov := hv c
    obtain ⟨h1, h2, h3⟩ := G_ok g ov c (num := 0) ov.len.1 true m (by omega)
    have lp := pk_lot g ov c (num := 0) ov.len.1 true h2 (by omega)
    have ap := (act_vt (lot_iff.mp lp).1)
    have ep : pO r os m = K r os (at1 r os m) (G r os (ordr os.length 0 true) m (at1 r os m) + 1) := if_neg c
    rw [ep]
    change at1 r os m < os.length ∧ _ at ap
    have lo := h2.lo (at1 r os m)
    have hi := h2.hi (at1 r os m) ap.1
    generalize G r os (ordr os.length 0 true) m (at1 r os m) = k' at *
    obtain ⟨k, ek⟩ : ∃ k, k = k' + 1 := ⟨_, rfl⟩
    rw [← ek]
    generalize at1 r os m = a at *
    have b := post_bd g (k := k) (by omega) (by omega)
    have v := ov.at a
    have z := low_sz (t := vt os a * (post r k).2) b.1
    have d : vt os a * (post r k).2 ≤ 10 ^ 9 * 999 := mul_le_of (by omega) (by omega) v.2 b.2.2.2
    have n : 0 ≤ vt os a * (post r k).2 := Int.mul_nonneg v.1 (by omega)
    have e : K r os a k = low (vt os a * (post r k).2) (post r k).1 := rfl
    rw [e]
    have := z.2.2.2 n
    exact ⟨⟨by omega, by omega⟩, z.1, by omega⟩
theorem ask_other {r : R} {vs : List Int} {h m : Int} {num : Nat} {μ : Mu} {Q : DK} (ok : Rok r vs h) (hn : num < vs.length) (m0 : 1 ≤ m) (m1 : m ≤ 200) (q : Q (fr (pO r (oth vs num) (m - 1).toNat)) μ) : sp_other_price [encR r vs h, .int (num : Int), .int m] μ Q := ⟨r, vs, h, num, m, rfl, ⟨ok, hn, m0, m1⟩, q⟩
theorem ask_signpost {r : R} {k : Int} {μ : Mu} {Q : DK} (g : GR r) (h0 : 0 ≤ k) (h1 : k ≤ 10 ^ 20) (q : Q (fr (post r k)) μ) : sp_signpost [enc r, .int k] μ Q := ⟨r, k, rfl, ⟨g.toGr0, h0, h1⟩, q⟩
def sp_least_votes_for : DSp := fun ds μ Q => ∃ (r : R) (vs : List Int) (h : Int) (num : Nat) (s : Int) (w : Bool), ds = [encR r vs h, .int (num : Int), .int s, wd w] ∧ (Rok r vs h ∧ num < vs.length ∧ 0 ≤ s ∧ s ≤ h) ∧ Q (.int (leastV r (oth vs num) h w s)) μ
theorem len_least_votes_for : ∀ ds μ Q, sp_least_votes_for ds μ Q → ds.length = (["race", "number", "seats", "word"] : List Str).length := by
  rintro ds μ Q ⟨r, vs, h, num, s, w, rfl, _⟩
  rfl
def db_least_votes_for : DTS := (dSeq (dAsg (dOp oPlus (dSl (dOp oIx (dVar 0) (dC (.int 2))) doNone (doSome (dVar 1))) (dSl (dOp oIx (dVar 0) (dC (.int 2))) (doSome (dOp oPlus (dVar 1) (dC (.int 1)))) doNone)) (gdName 4)) (dSeq (dIfS (dTest (dOp oEq (dVar 2) (dC (.int 0)))) (dRet (dIf (dtOr (dTest (dOp oEq (dOp oIx (dVar 0) (dC (.int 3))) (dC (.int 0)))) (dTest (dOp oGt (dCall (dSeq1 true sMax) (daCons (dOp oPlus (dTup (daCons (dC (.int 0)) daNil)) (dVar 4)) daNil)) (dC (.int 0))))) (dC (.int 0)) (dC (.int 1)))) dNext) (dSeq (dPar 5 6 (daCons (dFn sp_other_price (daCons (dVar 0) (daCons (dVar 1) (daCons (dOp oPlus (dOp oSub (dOp oIx (dVar 0) (dC (.int 3))) (dVar 2)) (dC (.int 1))) daNil)))) (daCons (dFn sp_signpost (daCons (dOp oIx (dVar 0) (dC (.int 1))) (daCons (dVar 2) daNil))) daNil))) (dSeq (dPar 7 8 (daCons (dOp oTimes (dOp oIx (dVar 5) (dC (.int 0))) (dOp oIx (dVar 6) (dC (.int 0)))) (daCons (dOp oTimes (dOp oIx (dVar 5) (dC (.int 1))) (dOp oIx (dVar 6) (dC (.int 1)))) daNil))) (dRet (dIf (dTest (dOp oEq (dVar 3) (dC (.str "some")))) (dCall cMax (daCons (dC (.int 1)) (daCons (dOp oSub (dC (.int 0)) (dOp oDiv (dOp oSub (dC (.int 0)) (dVar 7)) (dVar 8))) daNil))) (dOp oPlus (dOp oDiv (dVar 7) (dVar 8)) (dC (.int 1)))))))))
theorem pf_least_votes_for : ∀ ds μ Q, sp_least_votes_for ds μ Q → db_least_votes_for (retD Q) (startD ["race", "number", "seats", "word", "others", "price", "post", "top", "bottom"] ds) μ := by
  rintro ds μ Q ⟨r, vs, h, num, s, w, rfl, ⟨ok, hn, s0, s1⟩, q⟩
  show db_least_votes_for (retD Q) [some (encR r vs h), some (.int (num : Int)), some (.int s), some (wd w), none, none, none, none, none] μ
  have hl := ok.v.len
  have h1 := ok.h1
  unfold leastV at q
  unfold db_least_votes_for
  refine sq fun U hU => ?_
  walk_at "ev"
  simp -dsimp only [dSl, doNone, doSome]
  walk_at "ev"
  rw [cut_v (Nat.le_of_lt hn), cut_w hn]
  refine ⟨oth_sz ok.v hn, ?_⟩
  rw [← List.map_append, show vs.take num ++ vs.drop (num + 1) = oth vs num from rfl]
  refine hU.go ?_
  clear hU
  refine sq fun U hU => ?_
  walk_at "ev"
  by_cases z : s = 0
  · rw [if_pos z] at q
    rw [if_pos z]
    by_cases z2 : h = 0
    · rw [if_pos (.inl z2)] at q
      rw [if_pos z2]
      exact ⟨_, Mu.Sub.refl _, q⟩
    · rw [if_neg z2]
      have ol := oth_len hn
      refine ⟨sz1000 (by rw [List.length_map]; show 1 + _ ≤ _; omega), ?_⟩
      simp -dsimp only [dSeq1, sitems]
      walk_at "ev"
      refine ⟨0 :: oth vs num, rfl, Nat.succ_pos _, fun m hm hle => ?_⟩
      walk_at "ev"
      have key : 0 < m ↔ act (oth vs num) ≠ [] := by
        constructor
        · intro p y
          cases hm with
          | head => exact Int.lt_irrefl _ p
          | tail _ hm =>
            have := (act_max hm fun x hx => hle x (List.mem_cons_of_mem _ hx)).mp p
            exact this y
        · intro ne
          obtain ⟨i, hi⟩ := List.exists_mem_of_ne_nil _ ne
          have a := act_vt hi
          have := hle _ (List.mem_cons_of_mem _ (List.mem_of_getElem? (gt_get (l := oth vs num) a.1)))
          have e : gt (oth vs num) i = vt (oth vs num) i := rfl
          omega
      by_cases c : 0 < m
      · rw [if_pos (.inr (key.mp c))] at q
        rw [if_pos c]
        exact ⟨_, Mu.Sub.refl _, q⟩
      · rw [if_neg (fun y => y.elim z2 fun y => c (key.mpr y))] at q
        rw [if_neg c]
        exact ⟨_, Mu.Sub.refl _, q⟩
  · rw [if_neg z] at q
    rw [if_neg z]
    refine hU.go ?_
    clear hU
    refine sq fun U hU => ?_
    walk_at "ev"
    refine ask_other ok hn (by omega) (by omega) ?_
    rw [show h - s + 1 - 1 = h - s by omega]
    walk_at "ev"
    refine ask_signpost ok.g s0 (by omega) ?_
    have pb := post_bd ok.g (k := s) (by omega) (by omega)
    have ps := pO_sz (os := oth vs num) (m := (h - s).toNat) ok.g (oth_vok hn ok.v) (by omega)
    have bp := (bot_pos ok.g ok.v ok.h0 ok.h1 hn (s := s) (by omega) s1).1
    have bm : botV r (pO r (oth vs num) (h - s).toNat) s ≤ 10 ^ 6 * 999 := mul_le_of (by omega) (by omega) ps.2.2 pb.2.2.2
    refine hU.go ?_
    clear hU
    refine sq fun U hU => ?_
    simp -dsimp only [fr]
    walk_at "ev"
    refine ⟨mulR (by omega) (by omega), ?_⟩
    refine ⟨mulR (by omega) (by omega), ?_⟩
    refine hU.go ?_
    clear hU
    cases w with
    | true =>
      rw [if_pos rfl] at q
      rw [show wd true = .str "some" from rfl]
      walk_at "ev"
      exact ⟨div_ok bp (Int.lt_of_le_of_lt bm (by decide)), _, Mu.Sub.refl _, q⟩
    | false =>
      rw [if_neg (by decide)] at q
      rw [show wd false = .str "each" from rfl]
      walk_at "ev"
      rw [if_neg (by decide)]
      exact ⟨div_ok bp (Int.lt_of_le_of_lt bm (by decide)), _, Mu.Sub.refl _, q⟩
end K40
namespace K40
open PySem PySem.Spec PyProof.Rows L2 Dl
local macro_rules | `(tactic| walk_at "ev") => `(tactic| try simp -dsimp only [↓dSeq_at, cInt2, oIs2, oNot2, encV, sp_is_within, sp_is_tuple, sp_is_integer, encR, dPar3, dRet, dRetN, dNext, dIfS, dAsg, dDrop, dPar, dNever, dVar, dC, dOp, dUn, dTest, dChain, dAnd, dOr, dNot, dIf, dtAnd, dtOr, dtNot, dTup, daNil, daCons, dCall, dFn, dFnK, dNew, dLst, dOf,
  gdName, gdTup, gdCons, gdNil, gdSub, rdI, rdI0, oPlus, oSub, oTimes, oDiv, oMod, oPow, oLt, oLe, oGt, oGe, oIx, oEq, oNe, uNeg, oIsN, oNotN, D.isNon, cAbs, cMax, cMin, cInt, cDivmod, cLen, cIsi, tyD, items, litems, retD, sTup, mApp, dYes,
  atI_0, atI_1, atI_2, atI_3, atI_4, ixN_20, ixN_21, kit_ii, kit_ib, kit_is, kit_it, kit_il, kit_bi, kit_bb, kit_bs, kit_bt, kit_bl, kit_si, kit_sb, kit_ss, kit_st, kit_sl, kit_ti, kit_tb, kit_ts, kit_tt, kit_tl, kit_li, kit_lb, kit_ls, kit_lt, kit_ll,
  List.getElem?_cons_zero, List.getElem?_cons_succ, List.set_cons_zero, List.set_cons_succ, List.length_cons, List.length_nil, Mu.upd_same, Mu.upd_upd, Nat.zero_add, Nat.reduceAdd, Nat.reduceLeDiff, natlit, Int.reduceEq, Int.reduceLT, Int.reduceLE, Int.reduceAdd, Int.reduceSub, Int.reduceMul, Int.reducePow, Int.reduceNeg, permG2_10, permG3_210, zl_0, zl_1, zl_2, zl_3, zl_4, zl_5, zl_6, zl_7, zl_8, zl_9, zl_10, zl_11, zl_12, zl_13, zl_14, zl_15, zl_16, zl_17, zl_18, zl_19, zl_20, true_and, and_true, eq_self, not_true_eq_false, not_false_eq_true, decide_true, decide_false, if_true, Bool.false_eq_true, if_false, Bool.not_true, Bool.not_false, decide_eq_true_eq, Bool.not_eq_true', decide_eq_false_iff_not, Option.isSome, Option.map])
def sp_most_votes_for : DSp := fun ds μ Q => ∃ (r : R) (vs : List Int) (h : Int) (num : Nat) (s : Int) (w : Bool), ds = [encR r vs h, .int (num : Int), .int s, wd w] ∧ (Rok r vs h ∧ num < vs.length ∧ 0 ≤ s ∧ s < h) ∧ Q (.int (mostV r (oth vs num) h w s)) μ
theorem len_most_votes_for : ∀ ds μ Q, sp_most_votes_for ds μ Q → ds.length = (["race", "number", "seats", "word"] : List Str).length := by
  rintro ds μ Q ⟨r, vs, h, num, s, w, rfl, _⟩
  rfl
def db_most_votes_for : DTS := (dSeq (dPar 4 5 (daCons (dFn sp_other_price (daCons (dVar 0) (daCons (dVar 1) (daCons (dOp oSub (dOp oIx (dVar 0) (dC (.int 3))) (dVar 2)) daNil)))) (daCons (dFn sp_signpost (daCons (dOp oIx (dVar 0) (dC (.int 1))) (daCons (dOp oPlus (dVar 2) (dC (.int 1))) daNil))) daNil))) (dSeq (dIfS (dTest (dOp oEq (dOp oIx (dVar 4) (dC (.int 0))) (dC (.int 0)))) (dRet (dOp oSub (dC (.int 0)) (dC (.int 1)))) dNext) (dSeq (dPar 6 7 (daCons (dOp oTimes (dOp oIx (dVar 4) (dC (.int 0))) (dOp oIx (dVar 5) (dC (.int 0)))) (daCons (dOp oTimes (dOp oIx (dVar 4) (dC (.int 1))) (dOp oIx (dVar 5) (dC (.int 1)))) daNil))) (dRet (dIf (dTest (dOp oEq (dVar 3) (dC (.str "some")))) (dOp oDiv (dVar 6) (dVar 7)) (dOp oSub (dOp oSub (dC (.int 0)) (dOp oDiv (dOp oSub (dC (.int 0)) (dVar 6)) (dVar 7))) (dC (.int 1))))))))
theorem pf_most_votes_for : ∀ ds μ Q, sp_most_votes_for ds μ Q → db_most_votes_for (retD Q) (startD ["race", "number", "seats", "word", "price", "post", "top", "bottom"] ds) μ := by
  rintro ds μ Q ⟨r, vs, h, num, s, w, rfl, ⟨ok, hn, s0, s1⟩, q⟩
  show db_most_votes_for (retD Q) [some (encR r vs h), some (.int (num : Int)), some (.int s), some (wd w), none, none, none, none] μ
  have hl := ok.v.len
  have h1 := ok.h1
  unfold mostV at q
  unfold db_most_votes_for
  refine sq fun U hU => ?_
  walk_at "ev"
  refine ask_other ok hn (by omega) (by omega) ?_
  rw [show h - s - 1 = h - (s + 1) by omega]
  walk_at "ev"
  refine ask_signpost ok.g (by omega) (by omega) ?_
  have pb := post_bd ok.g (k := s + 1) (by omega) (by omega)
  have ps := pO_sz (os := oth vs num) (m := (h - (s + 1)).toNat) ok.g (oth_vok hn ok.v) (by omega)
  have bp := (bot_pos ok.g ok.v ok.h0 ok.h1 hn (s := s + 1) (by omega) (by omega)).1
  have bm : botV r (pO r (oth vs num) (h - (s + 1)).toNat) (s + 1) ≤ 10 ^ 6 * 999 := mul_le_of (by omega) (by omega) ps.2.2 pb.2.2.2
  refine hU.go ?_
  clear hU
  refine sq fun U hU => ?_
  simp -dsimp only [fr]
  walk_at "ev"
  by_cases z : (pO r (oth vs num) (h - (s + 1)).toNat).1 = 0
  · rw [if_pos z] at q
    rw [if_pos z]
    exact ⟨_, Mu.Sub.refl _, q⟩
  · rw [if_neg z] at q
    rw [if_neg z]
    refine hU.go ?_
    clear hU
    refine sq fun U hU => ?_
    walk_at "ev"
    refine ⟨mulR (by omega) (by omega), ?_⟩
    refine ⟨mulR (by omega) (by omega), ?_⟩
    refine hU.go ?_
    clear hU
    cases w with
    | true =>
      rw [if_pos rfl] at q
      rw [show wd true = .str "some" from rfl]
      walk_at "ev"
      exact ⟨div_ok bp (Int.lt_of_le_of_lt bm (by decide)), _, Mu.Sub.refl _, q⟩
    | false =>
      rw [if_neg (by decide)] at q
      rw [show wd false = .str "each" from rfl]
      walk_at "ev"
      rw [if_neg (by decide)]
      exact ⟨div_ok bp (Int.lt_of_le_of_lt bm (by decide)), _, Mu.Sub.refl _, q⟩
def moreD (r : R) (vs : List Int) (h : Int) (num : Nat) (w : Bool) (s : Int) : D := if leastV r (oth vs num) h w s ≤ 1000000000 then .int (max 0 (leastV r (oth vs num) h w s - vt vs num)) else .non
def lessD (r : R) (vs : List Int) (h : Int) (num : Nat) (w : Bool) (s : Int) : D := if s = h then (if h = 0 ∨ act vs ≠ [] then .int 0 else .non) else if 0 ≤ mostV r (oth vs num) h w s then .int (max 0 (vt vs num - mostV r (oth vs num) h w s)) else .non
def optD (o : Option Nat) : D := match o with | some k => .int (k : Int) | none => .non
def movD (r : R) (vs : List Int) (h : Int) (num fur : Nat) (w : Bool) (s : Int) : D := optD ((List.range ((vt vs fur).toNat + 1)).find? fun k => holdb r (mv vs num fur (k : Int)) h num w s true)
def sp_more_votes : DSp := fun ds μ Q => ∃ (r : R) (vs : List Int) (h : Int) (num : Nat) (s : Int) (w : Bool), ds = [encR r vs h, .int (num : Int), .int s, wd w] ∧ (Rok r vs h ∧ num < vs.length ∧ 0 ≤ s ∧ s ≤ h) ∧ Q (moreD r vs h num w s) μ
theorem len_more_votes : ∀ ds μ Q, sp_more_votes ds μ Q → ds.length = (["race", "number", "seats", "word"] : List Str).length := by
  rintro ds μ Q ⟨r, vs, h, num, s, w, rfl, _⟩
  rfl
def db_more_votes : DTS := (dSeq (dAsg (dFn sp_least_votes_for (daCons (dVar 0) (daCons (dVar 1) (daCons (dVar 2) (daCons (dVar 3) daNil))))) (gdName 4)) (dRet (dIf (dTest (dOp oLe (dVar 4) (dC (.int 1000000000)))) (dCall cMax (daCons (dC (.int 0)) (daCons (dOp oSub (dVar 4) (dOp oIx (dOp oIx (dVar 0) (dC (.int 2))) (dVar 1))) daNil))) (dC .non))))
theorem pf_more_votes : ∀ ds μ Q, sp_more_votes ds μ Q → db_more_votes (retD Q) (startD ["race", "number", "seats", "word", "late"] ds) μ := by
  rintro ds μ Q ⟨r, vs, h, num, s, w, rfl, ⟨ok, hn, s0, s1⟩, q⟩
  show db_more_votes (retD Q) [some (encR r vs h), some (.int (num : Int)), some (.int s), some (wd w), none] μ
  unfold db_more_votes
  refine sq fun U hU => ?_
  walk_at "ev"
  refine ⟨r, vs, h, num, s, w, rfl, ⟨ok, hn, s0, s1⟩, ?_⟩
  unfold moreD at q
  refine hU.go ?_
  clear hU
  walk_at "ev"
  by_cases c : leastV r (oth vs num) h w s ≤ 1000000000
  · rw [if_pos c] at q
    rw [if_pos c, v_at hn]
    exact ⟨_, Mu.Sub.refl _, q⟩
  · rw [if_neg c] at q
    rw [if_neg c]
    exact ⟨_, Mu.Sub.refl _, q⟩
def sp_less_votes : DSp := fun ds μ Q => ∃ (r : R) (vs : List Int) (h : Int) (num : Nat) (s : Int) (w : Bool), ds = [encR r vs h, .int (num : Int), .int s, wd w] ∧ (Rok r vs h ∧ num < vs.length ∧ 0 ≤ s ∧ s ≤ h) ∧ Q (lessD r vs h num w s) μ
theorem len_less_votes : ∀ ds μ Q, sp_less_votes ds μ Q → ds.length = (["race", "number", "seats", "word"] : List Str).length := by
  rintro ds μ Q ⟨r, vs, h, num, s, w, rfl, _⟩
  rfl
def db_less_votes : DTS := (dSeq (dIfS (dTest (dOp oEq (dVar 2) (dOp oIx (dVar 0) (dC (.int 3))))) (dRet (dIf (dtOr (dTest (dOp oEq (dOp oIx (dVar 0) (dC (.int 3))) (dC (.int 0)))) (dTest (dOp oGt (dCall (dSeq1 true sMax) (daCons (dOp oIx (dVar 0) (dC (.int 2))) daNil)) (dC (.int 0))))) (dC (.int 0)) (dC .non))) dNext) (dSeq (dAsg (dFn sp_most_votes_for (daCons (dVar 0) (daCons (dVar 1) (daCons (dVar 2) (daCons (dVar 3) daNil))))) (gdName 4)) (dRet (dIf (dTest (dOp oGe (dVar 4) (dC (.int 0)))) (dCall cMax (daCons (dC (.int 0)) (daCons (dOp oSub (dOp oIx (dOp oIx (dVar 0) (dC (.int 2))) (dVar 1)) (dVar 4)) daNil))) (dC .non)))))
theorem pf_less_votes : ∀ ds μ Q, sp_less_votes ds μ Q → db_less_votes (retD Q) (startD ["race", "number", "seats", "word", "late"] ds) μ := by
  rintro ds μ Q ⟨r, vs, h, num, s, w, rfl, ⟨ok, hn, s0, s1⟩, q⟩
  show db_less_votes (retD Q) [some (encR r vs h), some (.int (num : Int)), some (.int s), some (wd w), none] μ
  have hl := ok.v.len
  unfold lessD at q
  unfold db_less_votes
  refine sq fun U hU => ?_
  walk_at "ev"
  by_cases c : s = h
  · rw [if_pos c] at q
    rw [if_pos c]
    by_cases z : h = 0
    · rw [if_pos (.inl z)] at q
      rw [if_pos z]
      exact ⟨_, Mu.Sub.refl _, q⟩
    · rw [if_neg z]
      simp -dsimp only [dSeq1, sitems]
      walk_at "ev"
      refine ⟨vs, rfl, by omega, fun m hm hle => ?_⟩
      walk_at "ev"
      have key := act_max hm hle
      by_cases p : 0 < m
      · rw [if_pos (.inr (key.mp p))] at q
        rw [if_pos p]
        exact ⟨_, Mu.Sub.refl _, q⟩
      · rw [if_neg (fun y => y.elim z fun y => p (key.mpr y))] at q
        rw [if_neg p]
        exact ⟨_, Mu.Sub.refl _, q⟩
  · rw [if_neg c] at q
    rw [if_neg c]
    refine hU.go ?_
    clear hU
    refine sq fun U hU => ?_
    walk_at "ev"
    refine ⟨r, vs, h, num, s, w, rfl, ⟨ok, hn, s0, by omega⟩, ?_⟩
    refine hU.go ?_
    clear hU
    walk_at "ev"
    by_cases c : 0 ≤ mostV r (oth vs num) h w s
    · rw [if_pos c] at q
      rw [if_pos c, v_at hn]
      exact ⟨_, Mu.Sub.refl _, q⟩
    · rw [if_neg c] at q
      rw [if_neg c]
      exact ⟨_, Mu.Sub.refl _, q⟩
/-! ## votes moved -/
section
variable {vs : List Int} {num fur : Nat} (hn : num < vs.length) (hf : fur < vs.length) (ne : num ≠ fur) (k : Int)
include hn hf ne
theorem mv_len : (mv vs num fur k).length = vs.length := by
  unfold mv
  rw [wv_len (by rw [wv_len hn]; exact hf), wv_len hn]
theorem mv_num : vt (mv vs num fur k) num = vt vs num + k := by
  unfold mv
  rw [wv_ne (by rw [wv_len hn]; exact hf) _ ne, wv_same hn]
theorem mv_fur : vt (mv vs num fur k) fur = vt vs fur - k := by
  unfold mv
  rw [wv_same (by rw [wv_len hn]; exact hf)]
theorem mv_out {j : Nat} (a : j ≠ num) (b : j ≠ fur) : vt (mv vs num fur k) j = vt vs j := by
  unfold mv
  rw [wv_ne (by rw [wv_len hn]; exact hf) _ b, wv_ne hn _ a]
theorem mv_vok (hv : Vok vs) (k0 : 0 ≤ k) (k1 : vt vs num + k ≤ 10 ^ 9) (k2 : k ≤ vt vs fur) : Vok (mv vs num fur k) := by
  have v := (hv.at num).1
  have u := (hv.at fur).2
  exact wv_vok (by rw [wv_len hn]; exact hf) _ (wv_vok hn _ hv (by omega) k1) (by omega) (by omega)
end
theorem mv_up {r : R} {vs : List Int} {h : Int} {num fur : Nat} (ok : Rok r vs h) (hn : num < vs.length) (hf : fur < vs.length) (ne : num ≠ fur) (sm : vt vs num + vt vs fur ≤ 10 ^ 9) (w : Bool) (s : Int) {j k : Int} (j0 : 0 ≤ j) (jk : j ≤ k) (kf : k ≤ vt vs fur)
    (e : holdb r (mv vs num fur j) h num w s true = true) : holdb r (mv vs num fur k) h num w s true = true := by
  by_cases z : j = k
  · rw [← z]
    exact e
  · have v1 := mv_vok hn hf ne j ok.v j0 (by omega) (by omega)
    have v2 := mv_vok hn hf ne k ok.v (by omega) (by omega) kf
    have l1 := mv_len hn hf ne j
    have l2 := mv_len hn hf ne k
    have vn := (ok.v.at num).1
    refine hold_up ok.g v1 v2 (by rw [l1, l2]) ok.h0 ok.h1 (by omega) ?_ (fun i hi => ?_) (fun _ => ?_) w s e
    · rw [mv_num hn hf ne, mv_num hn hf ne]
      omega
    · by_cases c : i = fur
      · rw [c, mv_fur hn hf ne, mv_fur hn hf ne]
        omega
      · rw [mv_out hn hf ne _ hi c, mv_out hn hf ne _ hi c]
        exact Int.le_refl _
    · exact List.ne_nil_of_mem (act_of (vs := mv vs num fur k) (i := num) (by omega) (by rw [mv_num hn hf ne]; omega))
theorem find_first {p : Nat → Bool} {n k : Nat} (hk : k < n) (hp : p k = true) (no : ∀ j, j < k → p j = false) : (List.range n).find? p = some k := by
  rw [List.find?_range_eq_some]
  exact ⟨hp, List.mem_range.mpr hk, fun j hj => by rw [no j hj]; rfl⟩
theorem find_none {p : Nat → Bool} {n : Nat} (no : ∀ j, j < n → p j = false) : (List.range n).find? p = none := by
  rw [List.find?_eq_none]
  intro j hj
  rw [no j (List.mem_range.mp hj)]
  decide
def sp_moved_votes : DSp := fun ds μ Q => ∃ (r : R) (vs : List Int) (h : Int) (num fur : Nat) (s : Int) (w : Bool), ds = [encR r vs h, .tup [.int (num : Int), .int (fur : Int)], .int s, wd w] ∧ (Rok r vs h ∧ num < vs.length ∧ fur < vs.length ∧ num ≠ fur ∧ vt vs num + vt vs fur ≤ 10 ^ 9) ∧ Q (movD r vs h num fur w s) μ
theorem len_moved_votes : ∀ ds μ Q, sp_moved_votes ds μ Q → ds.length = (["race", "ends", "seats", "word"] : List Str).length := by
  rintro ds μ Q ⟨r, vs, h, num, fur, s, w, rfl, _⟩
  rfl
theorem ask_moved {r : R} {vs : List Int} {h k : Int} {num fur : Nat} {μ : Mu} {Q : DK} (hv : Vok vs) (hn : num < vs.length) (hf : fur < vs.length) (k0 : 0 ≤ k) (k1 : vt vs num + k ≤ 10 ^ 9) (q : Q (encR r (mv vs num fur k) h) μ) : sp_with_moved [encR r vs h, .int (num : Int), .int (fur : Int), .int k] μ Q := ⟨r, vs, h, num, fur, k, rfl, ⟨hv, hn, hf, k0, k1⟩, q⟩
theorem ask_hold {r : R} {vs : List Int} {h s : Int} {num : Nat} {w : Bool} {μ : Mu} {Q : DK} (ok : Rok r vs h) (hn : num < vs.length) (q : Q (.bl (holdb r vs h num w s true)) μ) : sp_does_hold [encR r vs h, .int (num : Int), .int s, wd w] μ Q := ⟨r, vs, h, num, s, w, rfl, ⟨ok, hn⟩, q⟩
def gapR : Rho → Nat := fun ρ => match ρ with | [_, _, _, _, _, _, some (.int lo), some (.int hi), _] => (hi - lo).toNat | _ => 0
def db_moved_votes : DTS := (dSeq (dAsg (dVar 1) (gdTup 2 (gdCons (gdName 4) (gdCons (gdName 5) gdNil)))) (dSeq (dPar 6 7 (daCons (dOp oSub (dC (.int 0)) (dC (.int 1))) (daCons (dCall cMin (daCons (dOp oIx (dOp oIx (dVar 0) (dC (.int 2))) (dVar 5)) (daCons (dOp oSub (dC (.int 1000000000)) (dOp oIx (dOp oIx (dVar 0) (dC (.int 2))) (dVar 4))) daNil))) daNil))) (dSeq (dIfS (dtNot (dTest (dFn sp_does_hold (daCons (dFn sp_with_moved (daCons (dVar 0) (daCons (dVar 4) (daCons (dVar 5) (daCons (dVar 7) daNil))))) (daCons (dVar 4) (daCons (dVar 2) (daCons (dVar 3) daNil))))))) (dRet (dC .non)) dNext) (dSeq (dWhile (dTest (dOp oGt (dOp oSub (dVar 7) (dVar 6)) (dC (.int 1)))) (dSeq (dAsg (dOp oDiv (dOp oPlus (dVar 6) (dVar 7)) (dC (.int 2))) (gdName 8)) (dIfS (dTest (dFn sp_does_hold (daCons (dFn sp_with_moved (daCons (dVar 0) (daCons (dVar 4) (daCons (dVar 5) (daCons (dVar 8) daNil))))) (daCons (dVar 4) (daCons (dVar 2) (daCons (dVar 3) daNil)))))) (dAsg (dVar 8) (gdName 7)) (dAsg (dVar 8) (gdName 6))))) (dRet (dVar 7))))))
theorem pf_moved_votes : ∀ ds μ Q, sp_moved_votes ds μ Q → db_moved_votes (retD Q) (startD ["race", "ends", "seats", "word", "number", "further", "low", "high", "middle"] ds) μ := by
  rintro ds μ Q ⟨r, vs, h, num, fur, s, w, rfl, ⟨ok, hn, hf, ne, sm⟩, q⟩
  show db_moved_votes (retD Q) [some (encR r vs h), some (.tup [.int (num : Int), .int (fur : Int)]), some (.int s), some (wd w), none, none, none, none, none] μ
  have hl := ok.v.len
  have v0 := (ok.v.at fur).1
  have n0 := (ok.v.at num).1
  have up := fun {j k : Int} => mv_up (j := j) (k := k) ok hn hf ne sm w s
  have rok : ∀ k : Int, 0 ≤ k → k ≤ vt vs fur → Rok r (mv vs num fur k) h := fun k a b => ⟨ok.g, mv_vok hn hf ne k ok.v a (by omega) b, ok.h0, ok.h1⟩
  have ln : ∀ k : Int, num < (mv vs num fur k).length := fun k => by rw [mv_len hn hf ne]; exact hn
  unfold movD at q
  unfold db_moved_votes
  refine sq fun U hU => ?_
  walk_at "ev"
  refine hU.go ?_
  clear hU
  refine sq fun U hU => ?_
  walk_at "ev"
  rw [v_at hf]
  walk_at "ev"
  rw [v_at hn]
  walk_at "ev"
  rw [show min (vt vs fur) (1000000000 - vt vs num) = vt vs fur by omega]
  refine hU.go ?_
  clear hU
  refine sq fun U hU => ?_
  walk_at "ev"
  refine ask_moved ok.v hn hf v0 sm ?_
  walk_at "ev"
  refine ask_hold (rok _ v0 (Int.le_refl _)) (ln _) ?_
  walk_at "ev"
  by_cases top : holdb r (mv vs num fur (vt vs fur)) h num w s true = true
  · rw [if_neg (by rw [top]; decide)]
    refine hU.go ?_
    clear hU
    refine sq fun U hU => ?_
    refine ⟨fun ρ' μ' => ∃ lo hi w8, ρ' = [some (encR r vs h), some (.tup [.int (num : Int), .int (fur : Int)]), some (.int s), some (wd w), some (.int (num : Int)), some (.int (fur : Int)), some (.int lo), some (.int hi), w8] ∧ μ' = μ ∧ -1 ≤ lo ∧ lo < hi ∧ hi ≤ vt vs fur ∧ holdb r (mv vs num fur hi) h num w s true = true ∧ (0 ≤ lo → holdb r (mv vs num fur lo) h num w s true = false), fun ρ _ => gapR ρ, ⟨-1, _, _, rfl, rfl, Int.le_refl _, by omega, Int.le_refl _, top, fun z => by omega⟩, fun ρ' μ' w' => ?_⟩
    obtain ⟨lo, hi, w8, rfl, rfl, b0, b1, b2, bh, bl⟩ := w'
    walk_at "ev"
    by_cases c : 1 < hi - lo
    · rw [if_pos c]
      refine sq fun V hV => ?_
      walk_at "ev"
      refine ⟨div_ok (by decide) (by decide), ?_⟩
      obtain ⟨mi, em⟩ : ∃ mi, mi = (lo + hi) / 2 := ⟨_, rfl⟩
      rw [← em]
      have m1 : lo < mi := by omega
      have m2 : mi < hi := by omega
      have m0 : 0 ≤ mi := by omega
      clear em
      refine hV.go ?_
      clear hV
      walk_at "ev"
      refine ask_moved ok.v hn hf m0 (by omega) ?_
      walk_at "ev"
      refine ask_hold (rok _ m0 (by omega)) (ln _) ?_
      walk_at "ev"
      by_cases z : holdb r (mv vs num fur mi) h num w s true = true
      · rw [if_pos z]
        refine ⟨⟨lo, mi, _, rfl, b0, m1, by omega, z, bl⟩, ?_⟩
        show (mi - lo).toNat < (hi - lo).toNat
        omega
      · rw [if_neg z]
        refine ⟨⟨mi, hi, _, rfl, by omega, m2, b2, bh, fun _ => Bool.eq_false_iff.mpr z⟩, ?_⟩
        show (hi - mi).toNat < (hi - lo).toNat
        omega
    · rw [if_neg c]
      refine hU.go ?_
      clear hU
      walk_at "ev"
      have e : (hi.toNat : Int) = hi := by omega
      rw [find_first (k := hi.toNat) (by omega) (by rw [e]; exact bh) fun j hj => ?_] at q
      · rw [show optD (some hi.toNat) = .int hi from congrArg D.int e] at q
        exact ⟨_, Mu.Sub.refl _, q⟩
      · refine Bool.eq_false_iff.mpr fun z => ?_
        have := up (j := (j : Int)) (k := lo) (by omega) (by omega) (by omega) z
        rw [bl (by omega)] at this
        cases this
  · rw [if_pos (Bool.eq_false_iff.mpr top)]
    rw [find_none fun j hj => ?_] at q
    · exact ⟨_, Mu.Sub.refl _, q⟩
    · refine Bool.eq_false_iff.mpr fun z => ?_
      exact top (up (j := (j : Int)) (k := vt vs fur) (by omega) (by omega) (Int.le_refl _) z)
/-! ## from outside -/
theorem ask_list {r : R} {vs : List Int} {h : Int} {num : Nat} {μ : Mu} {Q : DK} (ok : Rok r vs h) (hn : num < vs.length) (q : Q .non μ) : sp_want_list [encR r vs h, .int (num : Int)] μ Q := ⟨r, vs, h, num, rfl, ⟨ok, hn⟩, q⟩
theorem ask_goal {r : R} {vs : List Int} {h s : Int} {w : Bool} {μ : Mu} {Q : DK} (s0 : 0 ≤ s) (s1 : s ≤ h) (q : Q .non μ) : sp_want_goal [encR r vs h, .int s, wd w] μ Q := ⟨r, vs, h, s, w, rfl, ⟨s0, s1⟩, q⟩
def sp_fewest_more : DSp := sp_more_votes
theorem len_fewest_more : ∀ ds μ Q, sp_fewest_more ds μ Q → ds.length = (["race", "number", "seats", "word"] : List Str).length := len_more_votes
def db_fewest_more : DTS := (dSeq (dDrop (dFn sp_want_list (daCons (dVar 0) (daCons (dVar 1) daNil)))) (dSeq (dDrop (dFn sp_want_goal (daCons (dVar 0) (daCons (dVar 2) (daCons (dVar 3) daNil))))) (dRet (dFn sp_more_votes (daCons (dVar 0) (daCons (dVar 1) (daCons (dVar 2) (daCons (dVar 3) daNil))))))))
theorem pf_fewest_more : ∀ ds μ Q, sp_fewest_more ds μ Q → db_fewest_more (retD Q) (startD ["race", "number", "seats", "word"] ds) μ := by
  rintro ds μ Q ⟨r, vs, h, num, s, w, rfl, ⟨ok, hn, s0, s1⟩, q⟩
  show db_fewest_more (retD Q) [some (encR r vs h), some (.int (num : Int)), some (.int s), some (wd w)] μ
  unfold db_fewest_more
  refine sq fun U hU => ?_
  walk_at "ev"
  refine ask_list ok hn ?_
  refine hU.go ?_
  clear hU
  refine sq fun U hU => ?_
  walk_at "ev"
  refine ask_goal s0 s1 ?_
  refine hU.go ?_
  walk_at "ev"
  exact ⟨r, vs, h, num, s, w, rfl, ⟨ok, hn, s0, s1⟩, _, Mu.Sub.refl _, q⟩
def sp_fewest_less : DSp := sp_less_votes
theorem len_fewest_less : ∀ ds μ Q, sp_fewest_less ds μ Q → ds.length = (["race", "number", "seats", "word"] : List Str).length := len_less_votes
def db_fewest_less : DTS := (dSeq (dDrop (dFn sp_want_list (daCons (dVar 0) (daCons (dVar 1) daNil)))) (dSeq (dDrop (dFn sp_want_goal (daCons (dVar 0) (daCons (dVar 2) (daCons (dVar 3) daNil))))) (dRet (dFn sp_less_votes (daCons (dVar 0) (daCons (dVar 1) (daCons (dVar 2) (daCons (dVar 3) daNil))))))))
theorem pf_fewest_less : ∀ ds μ Q, sp_fewest_less ds μ Q → db_fewest_less (retD Q) (startD ["race", "number", "seats", "word"] ds) μ := by
  rintro ds μ Q ⟨r, vs, h, num, s, w, rfl, ⟨ok, hn, s0, s1⟩, q⟩
  show db_fewest_less (retD Q) [some (encR r vs h), some (.int (num : Int)), some (.int s), some (wd w)] μ
  unfold db_fewest_less
  refine sq fun U hU => ?_
  walk_at "ev"
  refine ask_list ok hn ?_
  refine hU.go ?_
  clear hU
  refine sq fun U hU => ?_
  walk_at "ev"
  refine ask_goal s0 s1 ?_
  refine hU.go ?_
  walk_at "ev"
  exact ⟨r, vs, h, num, s, w, rfl, ⟨ok, hn, s0, s1⟩, _, Mu.Sub.refl _, q⟩
def sp_fewest_moved : DSp := fun ds μ Q => ∃ (r : R) (vs : List Int) (h : Int) (num fur : Nat) (s : Int) (w : Bool), ds = [encR r vs h, .int (num : Int), .int (fur : Int), .int s, wd w] ∧ (Rok r vs h ∧ num < vs.length ∧ fur < vs.length ∧ num ≠ fur ∧ vt vs num + vt vs fur ≤ 10 ^ 9 ∧ 0 ≤ s ∧ s ≤ h) ∧ Q (movD r vs h num fur w s) μ
theorem len_fewest_moved : ∀ ds μ Q, sp_fewest_moved ds μ Q → ds.length = (["race", "number", "further", "seats", "word"] : List Str).length := by
  rintro ds μ Q ⟨r, vs, h, num, fur, s, w, rfl, _⟩
  rfl
def db_fewest_moved : DTS := (dSeq (dDrop (dFn sp_want_list (daCons (dVar 0) (daCons (dVar 1) daNil)))) (dSeq (dIfS (dtOr (dtNot (dTest (dFn sp_is_within (daCons (dVar 2) (daCons (dC (.int 0)) (daCons (dOp oSub (dCall cLen (daCons (dOp oIx (dVar 0) (dC (.int 2))) daNil)) (dC (.int 1))) daNil)))))) (dTest (dOp oEq (dVar 2) (dVar 1)))) dNever dNext) (dSeq (dDrop (dFn sp_want_goal (daCons (dVar 0) (daCons (dVar 3) (daCons (dVar 4) daNil))))) (dRet (dFn sp_moved_votes (daCons (dVar 0) (daCons (dTup (daCons (dVar 1) (daCons (dVar 2) daNil))) (daCons (dVar 3) (daCons (dVar 4) daNil)))))))))
theorem pf_fewest_moved : ∀ ds μ Q, sp_fewest_moved ds μ Q → db_fewest_moved (retD Q) (startD ["race", "number", "further", "seats", "word"] ds) μ := by
  rintro ds μ Q ⟨r, vs, h, num, fur, s, w, rfl, ⟨ok, hn, hf, ne, sm, s0, s1⟩, q⟩
  show db_fewest_moved (retD Q) [some (encR r vs h), some (.int (num : Int)), some (.int (fur : Int)), some (.int s), some (wd w)] μ
  unfold db_fewest_moved
  refine sq fun U hU => ?_
  walk_at "ev"
  refine ask_list ok hn ?_
  refine hU.go ?_
  clear hU
  refine sq fun U hU => ?_
  walk_at "ev"
  rw [List.length_map, if_neg (fun z => z (by omega)), if_neg (by omega)]
  refine hU.go ?_
  clear hU
  refine sq fun U hU => ?_
  walk_at "ev"
  refine ask_goal s0 s1 ?_
  refine hU.go ?_
  walk_at "ev"
  exact ⟨r, vs, h, num, fur, s, w, rfl, ⟨ok, hn, hf, ne, sm⟩, _, Mu.Sub.refl _, q⟩
end K40
namespace K40
open PySem PySem.Spec PyProof.Rows L2 Dl
local macro_rules | `(tactic| walk_at "ev") => `(tactic| try simp -dsimp only [↓dSeq_at, cInt2, oIs2, oNot2, encV, sp_is_within, sp_is_tuple, sp_is_integer, encR, dPar3, dlRange1, dRet, dRetN, dNext, dIfS, dAsg, dDrop, dPar, dNever, dVar, dC, dOp, dUn, dTest, dChain, dAnd, dOr, dNot, dIf, dtAnd, dtOr, dtNot, dTup, daNil, daCons, dCall, dFn, dFnK, dNew, dLst, dOf,
  gdName, gdTup, gdCons, gdNil, gdSub, rdI, rdI0, oPlus, oSub, oTimes, oDiv, oMod, oPow, oLt, oLe, oGt, oGe, oIx, oEq, oNe, uNeg, oIsN, oNotN, D.isNon, cAbs, cMax, cMin, cInt, cDivmod, cLen, cIsi, tyD, items, litems, retD, sTup, mApp, dYes,
  atI_0, atI_1, atI_2, atI_3, atI_4, ixN_20, ixN_21, kit_ii, kit_ib, kit_is, kit_it, kit_il, kit_bi, kit_bb, kit_bs, kit_bt, kit_bl, kit_si, kit_sb, kit_ss, kit_st, kit_sl, kit_ti, kit_tb, kit_ts, kit_tt, kit_tl, kit_li, kit_lb, kit_ls, kit_lt, kit_ll,
  List.getElem?_cons_zero, List.getElem?_cons_succ, List.set_cons_zero, List.set_cons_succ, List.length_cons, List.length_nil, Mu.upd_same, Mu.upd_upd, Nat.zero_add, Nat.reduceAdd, Nat.reduceLeDiff, natlit, Int.reduceEq, Int.reduceLT, Int.reduceLE, Int.reduceAdd, Int.reduceSub, Int.reduceMul, Int.reducePow, Int.reduceNeg, permG2_10, permG3_210, zl_0, zl_1, zl_2, zl_3, zl_4, zl_5, zl_6, zl_7, zl_8, zl_9, zl_10, zl_11, zl_12, zl_13, zl_14, zl_15, zl_16, zl_17, zl_18, zl_19, zl_20, true_and, and_true, eq_self, not_true_eq_false, not_false_eq_true, decide_true, decide_false, if_true, Bool.false_eq_true, if_false, Bool.not_true, Bool.not_false, decide_eq_true_eq, Bool.not_eq_true', decide_eq_false_iff_not, Option.isSome, Option.map])
/-! ## all tuples that add up -/
def New (xs : List D) (μ : Mu) (Q : DK) : Prop := ∀ k, μ k = none → Q (.cell k) (μ.upd k xs)
theorem sub_cell {μ ν : Mu} {f : Nat} {xs : List D} (h : Mu.Sub μ ν) (e : ν f = some xs) : Mu.Sub (μ.upd f xs) ν := fun j ys q => by
  by_cases z : j = f
  · subst z
    rw [Mu.upd_same] at q
    rw [e]
    exact q
  · rw [Mu.upd_ne z] at q
    exact h j ys q
def stp' (n : Nat) (h : Int) (t : Nat) (one : List Int) : List (List Int) := if t + 1 < n then (List.range (h - one.sum + 1).toNat).map (fun (k : Nat) => one ++ [(k : Int)]) else [one ++ [h - one.sum]]
def Tt (n : Nat) (h : Int) : Nat → List (List Int)
  | 0 => [[]]
  | t + 1 => (Tt n h t).flatMap (stp' n h t)
theorem Tt_mem {n : Nat} {h : Int} (h0 : 0 ≤ h) : ∀ t, t < n → ∀ l, l ∈ Tt n h t ↔ l.length = t ∧ (∀ x ∈ l, 0 ≤ x) ∧ l.sum ≤ h
  | 0, _, l => by
    show l ∈ [[]] ↔ _
    rw [List.mem_singleton]
    constructor
    · rintro rfl
      exact ⟨rfl, (fun x hx => nomatch hx), h0⟩
    · rintro ⟨e, _, _⟩
      exact List.length_eq_zero_iff.mp e
  | t + 1, ht, l => by
    show l ∈ (Tt n h t).flatMap (stp' n h t) ↔ _
    rw [List.mem_flatMap]
    have ih := Tt_mem (n := n) h0 t (by omega)
    have es : ∀ one, stp' n h t one = (List.range (h - one.sum + 1).toNat).map (fun (k : Nat) => one ++ [(k : Int)]) := fun one => if_pos ht
    constructor
    · rintro ⟨one, ho, hx⟩
      obtain ⟨q1, q2, q3⟩ := (ih one).mp ho
      rw [es] at hx
      obtain ⟨k, hk, rfl⟩ := List.mem_map.mp hx
      have hk := List.mem_range.mp hk
      refine ⟨by rw [List.length_append, q1]; rfl, fun x hx => ?_, by rw [sum_snoc]; omega⟩
      rcases List.mem_append.mp hx with z | z
      · exact q2 x z
      · rw [List.mem_singleton.mp z]
        omega
    · rintro ⟨e1, e2, e3⟩
      rcases List.eq_nil_or_concat l with rfl | ⟨L, b, rfl⟩
      · cases e1
      · rw [List.concat_eq_append] at e1 e2 e3 ⊢
        rw [List.length_append] at e1
        rw [sum_snoc] at e3
        have b0 := e2 b (by simp)
        refine ⟨L, (ih L).mpr ⟨by have : [b].length = 1 := rfl; omega, fun x hx => e2 x (List.mem_append_left _ hx), by omega⟩, ?_⟩
        rw [es]
        exact List.mem_map.mpr ⟨b.toNat, List.mem_range.mpr (by omega), by rw [show ((b.toNat : Nat) : Int) = b by omega]⟩
theorem Tt_deal {vs : List Int} {h : Int} (h0 : 0 ≤ h) (hl : 1 ≤ vs.length) (l : List Int) : l ∈ Tt vs.length h vs.length ↔ Deal vs h l := by
  obtain ⟨t, e⟩ : ∃ t, vs.length = t + 1 := ⟨vs.length - 1, by omega⟩
  have T : ∀ l, l ∈ Tt (t + 1) h (t + 1) ↔ l.length = t + 1 ∧ (∀ x ∈ l, 0 ≤ x) ∧ l.sum = h := by
    intro l
    show l ∈ (Tt (t + 1) h t).flatMap (stp' (t + 1) h t) ↔ _
    rw [List.mem_flatMap]
    have ih := Tt_mem (n := t + 1) h0 t (by omega)
    have es : ∀ one, stp' (t + 1) h t one = [one ++ [h - one.sum]] := fun one => if_neg (Nat.lt_irrefl _)
    constructor
    · rintro ⟨one, ho, hx⟩
      obtain ⟨q1, q2, q3⟩ := (ih one).mp ho
      rw [es] at hx
      rw [List.mem_singleton.mp hx]
      refine ⟨by rw [List.length_append, q1]; rfl, fun x hx => ?_, by rw [sum_snoc]; omega⟩
      rcases List.mem_append.mp hx with z | z
      · exact q2 x z
      · rw [List.mem_singleton.mp z]
        omega
    · rintro ⟨e1, e2, e3⟩
      rcases List.eq_nil_or_concat l with rfl | ⟨L, b, rfl⟩
      · cases e1
      · rw [List.concat_eq_append] at e1 e2 e3 ⊢
        rw [List.length_append] at e1
        rw [sum_snoc] at e3
        have b0 := e2 b (by simp)
        refine ⟨L, (ih L).mpr ⟨by have : [b].length = 1 := rfl; omega, fun x hx => e2 x (List.mem_append_left _ hx), by omega⟩, ?_⟩
        rw [es, List.mem_singleton, show h - L.sum = b by omega]
  rw [e, T]
  exact ⟨fun z => ⟨by rw [e]; exact z.1, z.2.1, z.2.2⟩, fun z => ⟨by rw [z.len, e], z.nn, z.sum⟩⟩
theorem flat_le {β γ : Type} {f : β → List γ} {c : Nat} : ∀ {l : List β}, (∀ x ∈ l, (f x).length ≤ c) → (l.flatMap f).length ≤ l.length * c
  | [], _ => Nat.zero_le _
  | x :: l, h => by
    rw [List.flatMap_cons, List.length_append, List.length_cons, Nat.succ_mul]
    have a := h x (List.mem_cons_self ..)
    have b := flat_le (f := f) (l := l) fun y hy => h y (List.mem_cons_of_mem _ hy)
    omega
theorem Tt_small {n : Nat} {h : Int} (h0 : 0 ≤ h) (h5 : h ≤ 5) (n3 : n ≤ 3) : ∀ t, t ≤ n → (Tt n h t).length ≤ 6 ^ t
  | 0, _ => Nat.le_refl _
  | t + 1, ht => by
    have ih := Tt_small h0 h5 n3 t (by omega)
    have m := Tt_mem (n := n) h0 t (by omega)
    rw [Nat.pow_succ]
    refine Nat.le_trans (flat_le (c := 6) fun x hx => ?_) (Nat.mul_le_mul_right 6 ih)
    obtain ⟨q1, q2, q3⟩ := (m x).mp hx
    have sx : 0 ≤ x.sum := by
      rw [sum_gt]
      exact su_nn fun i hi => nn_gt.mp q2 i hi
    unfold stp'
    split
    · rw [List.length_map, List.length_range]
      omega
    · exact (by decide : 1 ≤ 6)
def sp_law_tuples : DSp := fun ds μ Q => ∃ (n : Nat) (h : Int), ds = [.int (n : Int), .int h] ∧ (1 ≤ n ∧ n ≤ 3 ∧ 0 ≤ h ∧ h ≤ 5) ∧ New ((Tt n h n).map encV) μ Q
theorem len_law_tuples : ∀ ds μ Q, sp_law_tuples ds μ Q → ds.length = (["many", "house"] : List Str).length := by
  rintro ds μ Q ⟨n, h, rfl, _⟩
  rfl
def db_law_tuples : DTS := (dSeq (dAsg (dNew (dLst (daCons (dTup daNil) daNil))) (gdName 2)) (dSeq (dFor (diR1 (daCons (dVar 0) daNil)) (gdName 3) (dSeq (dAsg (dNew (dLst daNil)) (gdName 4)) (dSeq (dFor (diSeq (dVar 2)) (gdName 5) (dSeq (dAsg (dOp oSub (dVar 1) (dCall (dSeq1 true sSum) (daCons (dVar 5) daNil))) (gdName 6)) (dDrop (mExtL (dVar 4) (dLc (diSeq (dNew (dIfL (dTest (dOp oLt (dOp oPlus (dVar 3) (dC (.int 1))) (dVar 0))) (dlRange1 (dOp oPlus (dVar 6) (dC (.int 1)))) (dLst (daCons (dVar 6) daNil))))) (gdName 7) dYes (dOp oPlus (dVar 5) (dTup (daCons (dVar 7) daNil))) [7]))))) (dAsg (dVar 4) (gdName 2))))) (dRet (dVar 2))))
theorem pf_law_tuples : ∀ ds μ Q, sp_law_tuples ds μ Q → db_law_tuples (retD Q) (startD ["many", "house", "found", "at", "late", "one", "left", "here"] ds) μ := by
  rintro ds μ Q ⟨n, h, rfl, ⟨n1, n3, h0, h5⟩, q⟩
  show db_law_tuples (retD Q) [some (.int (n : Int)), some (.int h), none, none, none, none, none, none] μ
  unfold db_law_tuples
  refine sq fun U hU => ?_
  walk_at "ev"
  intro r0 hr0
  refine hU.go ?_
  clear hU
  refine sq fun U hU => ?_
  simp -dsimp only [dFor, diR1]
  walk_at "ev"
  refine ⟨⟨by omega, by omega⟩, ?_⟩
  refine ⟨fun i ρ' μ' => ∃ p w3 w4 w5 w6, ρ' = [some (.int (n : Int)), some (.int h), some (.cell p), w3, w4, w5, w6, none] ∧ Mu.Sub μ μ' ∧ μ' p = some ((Tt n h i).map encV) ∧ μ p = none,
    ⟨r0, none, none, none, none, rfl, Mu.sub_upd hr0, Mu.upd_same, hr0⟩, fun i x ρ' μ' hi w => ⟨held_nil, ?_⟩, fun ρ' μ' w => ⟨held_nil, ?_⟩⟩
  · obtain ⟨p, w3, w4, w5, w6, rfl, sb, hp, mp⟩ := w
    obtain ⟨rfl, il⟩ := range0_at hi
    clear hi
    have rs1 := Tt_small h0 h5 n3 (i + 1) (by omega)
    have r216 : 6 ^ (i + 1) ≤ 6 ^ 3 := Nat.pow_le_pow_right (by decide) (by omega)
    have rs2 : (Tt n h (i + 1)).length ≤ 216 := Nat.le_trans rs1 r216
    have tm := Tt_mem (n := n) h0 i (by omega)
    walk_at "ev"
    refine sq fun U2 hU2 => ?_
    walk_at "ev"
    intro l hl0
    refine hU2.go ?_
    clear hU2
    refine sq fun U2 hU2 => ?_
    have pl : p ≠ l := Mu.ne_of hp hl0
    have ml : μ l = none := none_of sb hl0
    simp -dsimp only [dFor, diSeq]
    walk_at "ev"
    simp -dsimp only [lsrc]
    rw [Mu.keep hp hl0]
    walk_at "ev"
    refine ⟨fun j ρ3 μ3 => ∃ w5 w6, ρ3 = [some (.int (n : Int)), some (.int h), some (.cell p), some (.int (i : Nat)), some (.cell l), w5, w6, none] ∧ Mu.Sub μ μ3 ∧ μ3 p = some ((Tt n h i).map encV) ∧ μ3 l = some ((((Tt n h i).take j).flatMap (stp' n h i)).map encV),
      ⟨w5, w6, rfl, sb.trans (Mu.sub_upd hl0), Mu.keep hp hl0, Mu.upd_same⟩, fun j x ρ3 μ3 hj w3 => ?_, fun ρ3 μ3 w3 => ?_⟩
    · obtain ⟨w5, w6, rfl, sb3, ep, el⟩ := w3
      refine ⟨held_one ep, ?_⟩
      have hj : ((Tt n h i).map encV)[j]? = some x := hj
      rw [List.getElem?_map] at hj
      obtain ⟨row, hrow, rfl⟩ := Option.map_eq_some_iff.mp hj
      have rq := (tm row).mp (List.mem_of_getElem? hrow)
      have et : (Tt n h i).take (j + 1) = (Tt n h i).take j ++ [row] := by rw [List.take_add_one, hrow]; rfl
      have tot : (((Tt n h i).take (j + 1)).flatMap (stp' n h i)).length ≤ 216 := by
        refine Nat.le_trans ?_ rs2
        show _ ≤ ((Tt n h i).flatMap (stp' n h i)).length
        rw (config := { occs := .pos [2] }) [← List.take_append_drop (j + 1) (Tt n h i)]
        rw [List.flatMap_append, List.length_append]
        omega
      have e1 : ((Tt n h i).take (j + 1)).flatMap (stp' n h i) = ((Tt n h i).take j).flatMap (stp' n h i) ++ stp' n h i row := by
        rw [et, List.flatMap_append]
        simp
      have s0 : 0 ≤ row.sum := by
        rw [sum_gt]
        exact su_nn fun i hi => nn_gt.mp rq.2.1 i hi
      have fin : ∀ μ4, Mu.Sub μ3 μ4 → (∃ ν, μ4 l = some ((((Tt n h i).take j).flatMap (stp' n h i)).map encV) ∧ ν = μ4.upd l ((((Tt n h i).take j).flatMap (stp' n h i)).map encV ++ (stp' n h i row).map encV) ∧ Mu.Sub μ ν ∧ ν p = some ((Tt n h i).map encV) ∧ ν l = some ((((Tt n h i).take (j + 1)).flatMap (stp' n h i)).map encV)) := by
        intro μ4 s4
        refine ⟨_, s4 _ _ el, rfl, (sb3.trans s4).put ml, (Mu.upd_ne pl).trans (s4 _ _ ep), ?_⟩
        rw [Mu.upd_same, e1, List.map_append]
      have lz : (((((Tt n h i).take j).flatMap (stp' n h i)).map encV).length + ((stp' n h i row).map encV).length) ≤ sizeLine := by
        rw [e1, List.length_append] at tot
        rw [List.length_map, List.length_map]
        exact sz1000 (by omega)
      walk_at "ev"
      refine sq fun V hV => ?_
      walk_at "ev"
      simp -dsimp only [dSeq1, sitems]
      walk_at "ev"
      refine ⟨row, rfl, ?_⟩
      walk_at "ev"
      refine hV.go ?_
      clear hV
      walk_at "ev"
      simp -dsimp only [mExtL]
      walk_at "ev"
      rw [el]
      refine ⟨rfl, ?_⟩
      simp -dsimp only [dLc, diSeq, dIfL]
      walk_at "ev"
      simp -dsimp only [dIfL]
      walk_at "ev"
      by_cases c : i + 1 < n
      · have es : stp' n h i row = (List.range (h - row.sum + 1).toNat).map (fun (k : Nat) => row ++ [(k : Int)]) := if_pos c
        rw [if_pos (by omega)]
        refine ⟨⟨⟨by omega, by omega⟩, by omega⟩, ?_⟩
        rw [show h - row.sum + 1 = (((h - row.sum + 1).toNat : Nat) : Int) by omega, range_nat]
        intro k hk
        simp -dsimp only [lsrc]
        rw [Mu.upd_same]
        walk_at "ev"
        refine lc_tm (l := List.range (h - row.sum + 1).toNat) (e := fun (a : Nat) => D.int (a : Int)) (fun (m : Nat) => encV (row ++ [(m : Int)])) (held_one Mu.upd_same) (by rw [List.length_range]; omega) (fun a ha μ4 Qy sb4 q4 => ?_) ?_
        · simp -dsimp only [wipeD]
          walk_at "ev"
          refine ⟨by rw [List.length_map]; exact sz1000 (by rw [rq.1]; omega), ?_⟩
          unfold encV at q4
          rw [List.map_append] at q4
          exact q4
        · obtain ⟨ν, f1, f2, f3, f4, f5⟩ := fin (μ3.upd k ((List.range (h - row.sum + 1).toNat).map fun (a : Nat) => D.int (a : Int))) (Mu.sub_upd hk)
          have e2 : (List.range (h - row.sum + 1).toNat).map (fun (m : Nat) => encV (row ++ [(m : Int)])) = (stp' n h i row).map encV := by
            rw [es, List.map_map]
            rfl
          rw [e2]
          refine ⟨_, f1, lz, ?_⟩
          rw [← f2]
          refine ⟨_, _, rfl, f3, f4, ?_⟩
          rw [e1, List.map_append]
      · have es : stp' n h i row = [row ++ [h - row.sum]] := if_neg c
        rw [if_neg (by omega)]
        walk_at "ev"
        intro k hk
        simp -dsimp only [lsrc]
        rw [Mu.upd_same]
        walk_at "ev"
        refine lc_tm (l := [h - row.sum]) (e := D.int) (fun m => encV (row ++ [m])) (held_one Mu.upd_same) (show 1 ≤ 100000 by decide) (fun a ha μ4 Qy sb4 q4 => ?_) ?_
        · simp -dsimp only [wipeD]
          walk_at "ev"
          refine ⟨by rw [List.length_map]; exact sz1000 (by rw [rq.1]; omega), ?_⟩
          unfold encV at q4
          rw [List.map_append] at q4
          exact q4
        · obtain ⟨ν, f1, f2, f3, f4, f5⟩ := fin (μ3.upd k [D.int (h - row.sum)]) (Mu.sub_upd hk)
          have e2 : [h - row.sum].map (fun m => encV (row ++ [m])) = (stp' n h i row).map encV := by
            rw [es]
            rfl
          rw [e2]
          refine ⟨_, f1, lz, ?_⟩
          rw [← f2]
          refine ⟨_, _, rfl, f3, f4, ?_⟩
          rw [e1, List.map_append]
    · obtain ⟨w5, w6, rfl, sb3, ep, el⟩ := w3
      refine ⟨held_one ep, ?_⟩
      have el : μ3 l = some ((((Tt n h i).take ((Tt n h i).map encV).length).flatMap (stp' n h i)).map encV) := el
      rw [List.length_map, List.take_length] at el
      refine hU2.go ?_
      walk_at "ev"
      exact ⟨l, _, _, _, _, rfl, sb3, el, ml⟩
  · obtain ⟨p, w3, w4, w5, w6, rfl, sb, hp, mp⟩ := w
    have hp : μ' p = some ((Tt n h (rangeD 0 (n : Int)).length).map encV) := hp
    rw [rangeD_len, Int.sub_zero, Int.toNat_natCast] at hp
    refine hU.go ?_
    walk_at "ev"
    exact ⟨_, sub_cell sb hp, q p mp⟩
end K40
namespace K40
open PySem PySem.Spec PyProof.Rows L2 Dl
local macro_rules | `(tactic| walk_at "ev") => `(tactic| try simp -dsimp only [↓dSeq_at, cInt2, oIs2, oNot2, encV, sp_is_within, sp_is_tuple, sp_is_integer, encR, dPar3, dlRange1, dRet, dRetN, dNext, dIfS, dAsg, dDrop, dPar, dNever, dVar, dC, dOp, dUn, dTest, dChain, dAnd, dOr, dNot, dIf, dtAnd, dtOr, dtNot, dTup, daNil, daCons, dCall, dFn, dFnK, dNew, dLst, dOf,
  gdName, gdTup, gdCons, gdNil, gdSub, rdI, rdI0, oPlus, oSub, oTimes, oDiv, oMod, oPow, oLt, oLe, oGt, oGe, oIx, oEq, oNe, uNeg, oIsN, oNotN, D.isNon, cAbs, cMax, cMin, cInt, cDivmod, cLen, cIsi, tyD, items, litems, retD, sTup, mApp, dYes,
  atI_0, atI_1, atI_2, atI_3, atI_4, ixN_20, ixN_21, kit_ii, kit_ib, kit_is, kit_it, kit_il, kit_bi, kit_bb, kit_bs, kit_bt, kit_bl, kit_si, kit_sb, kit_ss, kit_st, kit_sl, kit_ti, kit_tb, kit_ts, kit_tt, kit_tl, kit_li, kit_lb, kit_ls, kit_lt, kit_ll,
  List.getElem?_cons_zero, List.getElem?_cons_succ, List.set_cons_zero, List.set_cons_succ, List.length_cons, List.length_nil, Mu.upd_same, Mu.upd_upd, Nat.zero_add, Nat.reduceAdd, Nat.reduceLeDiff, natlit, Int.reduceEq, Int.reduceLT, Int.reduceLE, Int.reduceAdd, Int.reduceSub, Int.reduceMul, Int.reducePow, Int.reduceNeg, permG2_10, permG3_210, zl_0, zl_1, zl_2, zl_3, zl_4, zl_5, zl_6, zl_7, zl_8, zl_9, zl_10, zl_11, zl_12, zl_13, zl_14, zl_15, zl_16, zl_17, zl_18, zl_19, zl_20, true_and, and_true, eq_self, not_true_eq_false, not_false_eq_true, decide_true, decide_false, if_true, Bool.false_eq_true, if_false, Bool.not_true, Bool.not_false, decide_eq_true_eq, Bool.not_eq_true', decide_eq_false_iff_not, Option.isSome, Option.map])
/-! ## by the law's own eye -/
def okF (r : R) (vs d : List Int) (far near : Nat) : Prop := near = far ∨ vt vs near * (lpost r (gt d near + 1)).2 * (lpost r (gt d far)).1 ≤ vt vs far * (lpost r (gt d far)).2 * (lpost r (gt d near + 1)).1
def okA (r : R) (vs d : List Int) (far : Nat) : Prop := 0 < gt d far → vt vs far ≠ 0 ∧ ∀ near, near < vs.length → okF r vs d far near
theorem lp_le {V W a b a' b' c e c' e' : Int} (e1 : a' * b = a * b') (e2 : c' * e = c * e') (b0 : 0 < b) (c0 : 0 < c) (b0' : 0 < b') (c0' : 0 < c') : V * e' * a' ≤ W * b' * c' ↔ V * a * e ≤ W * c * b := by
  have x : V * e' * a' * (c * b) = V * a * e * (c' * b') := by
    calc V * e' * a' * (c * b) = V * (c * e') * (a' * b) := by ac_rfl
      _ = V * (c' * e) * (a * b') := by rw [e1, e2]
      _ = V * a * e * (c' * b') := by ac_rfl
  have y : W * b' * c' * (c * b) = W * c * b * (c' * b') := by ac_rfl
  have p := Int.mul_pos c0 b0
  have p' := Int.mul_pos c0' b0'
  constructor
  · intro z
    refine Int.le_of_mul_le_mul_right (a := c' * b') ?_ p'
    rw [← x, ← y]
    exact Int.mul_le_mul_of_nonneg_right z (Int.le_of_lt p)
  · intro z
    refine Int.le_of_mul_le_mul_right (a := c * b) ?_ p
    rw [x, y]
    exact Int.mul_le_mul_of_nonneg_right z (Int.le_of_lt p')
theorem okF_iff {r : R} {vs d : List Int} {h : Int} (ok : Rok r vs h) (hd : Deal vs h d) {i j : Nat} (hi : i < vs.length) (hj : j < vs.length) (p : 0 < gt d i) : okF r vs d i j ↔ j = i ∨ le (K r vs j (gt d j + 1)) (K r vs i (gt d i)) := by
  have g := ok.g
  have h1 := ok.h1
  have bi := gt_le hd hi
  have bj := gt_le hd hj
  have p1 := post_pos g (m := gt d i) (by omega) (by omega)
  have p2 := post_pos g (m := gt d j + 1) (by omega) (by omega)
  have q1 := lpost_pos g (k := gt d i) (by omega) (by omega)
  have q2 := lpost_pos g (k := gt d j + 1) (by omega) (by omega)
  unfold okF
  rw [K_le ok (by omega) (by omega) (by omega) (by omega)]
  rw [lp_le (lpost_eqv g (k := gt d i) (by omega) (by omega)) (lpost_eqv g (k := gt d j + 1) (by omega) (by omega)) p1.2.2.1 p2.1 q1.2.2.1 q2.1]
theorem lby_iff {r : R} {vs d : List Int} {h : Int} (ok : Rok r vs h) (hd : Deal vs h d) : byb r vs d = true ↔ ∀ i, i < vs.length → okA r vs d i := by
  have g := ok.g
  have hv := ok.v
  have h1 := ok.h1
  rw [byb_iff]
  constructor
  · intro b i hi p
    have bn := deal_bn hd
    refine ⟨fun z => ?_, fun j hj => (okF_iff ok hd hi hj p).mpr (.inr (b.all g hv bn (by omega) hj hi p))⟩
    have := b.z i hi (by omega)
    omega
  · intro a
    refine ⟨fun i hi z => Classical.byContradiction fun y => ?_, fun i hi j hj p => ?_⟩
    · have bi := gt_le hd hi
      have := (a i hi (by omega)).1
      have := (hv.at i).1
      omega
    · have ai := act_vt hi
      have aj := act_vt hj
      have bi := gt_le hd ai.1
      have bj := gt_le hd aj.1
      rcases (okF_iff ok hd aj.1 ai.1 p).mp ((a j aj.1 p).2 i ai.1) with e | e
      · subst e
        exact kl g hv hi (by omega) (by omega) (by omega)
      · exact e
def sp_law_is_by : DSp := fun ds μ Q => ∃ (r : R) (vs : List Int) (h : Int) (d : List Int), ds = [enc r, encV vs, encV d] ∧ (Rok r vs h ∧ Deal vs h d) ∧ Q (.bl (byb r vs d)) μ
theorem len_law_is_by : ∀ ds μ Q, sp_law_is_by ds μ Q → ds.length = (["rule", "votes", "deal"] : List Str).length := by
  rintro ds μ Q ⟨r, vs, h, d, rfl, _⟩
  rfl
theorem ask_lpost {r : R} {k : Int} {μ : Mu} {Q : DK} (g : GR r) (h0 : 0 ≤ k) (h1 : k ≤ 300) (q : Q (fr (lpost r k)) μ) : sp_law_post [enc r, .int k] μ Q := ⟨r, k, rfl, ⟨g.toGr0, h0, h1⟩, q⟩
def db_law_is_by : DTS := (dSeq (dFor (diEnum2 (dVar 2)) (gdTup 2 (gdCons (gdName 3) (gdCons (gdName 4) gdNil))) (dIfS (dTest (dOp oGt (dVar 4) (dC (.int 0)))) (dSeq (dIfS (dTest (dOp oEq (dOp oIx (dVar 1) (dVar 3)) (dC (.int 0)))) (dRet (dC (.bl false))) dNext) (dSeq (dAsg (dFn sp_law_post (daCons (dVar 0) (daCons (dVar 4) daNil))) (gdName 5)) (dFor (diEnum2 (dVar 1)) (gdTup 2 (gdCons (gdName 6) (gdCons (gdName 7) gdNil))) (dSeq (dAsg (dFn sp_law_post (daCons (dVar 0) (daCons (dOp oPlus (dOp oIx (dVar 2) (dVar 6)) (dC (.int 1))) daNil))) (gdName 8)) (dIfS (dtAnd (dTest (dOp oNe (dVar 6) (dVar 3))) (dTest (dOp oGt (dOp oTimes (dOp oTimes (dVar 7) (dOp oIx (dVar 8) (dC (.int 1)))) (dOp oIx (dVar 5) (dC (.int 0)))) (dOp oTimes (dOp oTimes (dOp oIx (dVar 1) (dVar 3)) (dOp oIx (dVar 5) (dC (.int 1)))) (dOp oIx (dVar 8) (dC (.int 0))))))) (dRet (dC (.bl false))) dNext))))) dNext)) (dRet (dC (.bl true))))
theorem pf_law_is_by : ∀ ds μ Q, sp_law_is_by ds μ Q → db_law_is_by (retD Q) (startD ["rule", "votes", "deal", "far", "many", "last", "near", "here", "late"] ds) μ := by
  rintro ds μ Q ⟨r, vs, h, d, rfl, ⟨ok, hd⟩, q⟩
  show db_law_is_by (retD Q) [some (enc r), some (.tup (vs.map D.int)), some (.tup (d.map D.int)), none, none, none, none, none, none] μ
  have hl := ok.v.len
  have dl := hd.len
  have h1 := ok.h1
  have L := lby_iff ok hd
  have no : ∀ i, i < vs.length → ¬ okA r vs d i → Q (.bl false) μ := fun i hi n => by
    have : byb r vs d = false := Bool.eq_false_iff.mpr fun z => n (L.mp z i hi)
    rw [this] at q
    exact q
  unfold db_law_is_by
  refine sq fun U hU => ?_
  simp -dsimp only [dFor, diEnum2]
  walk_at "ev"
  refine ⟨fun i ρ' μ' => ∃ w3 w4 w5 w6 w7 w8, ρ' = [some (enc r), some (.tup (vs.map D.int)), some (.tup (d.map D.int)), w3, w4, w5, w6, w7, w8] ∧ μ' = μ ∧ ∀ k, k < i → okA r vs d k,
    ⟨_, _, _, _, _, _, rfl, rfl, fun k hk => absurd hk (Nat.not_lt_zero k)⟩, fun i x ρ' μ' hi w => ⟨held_nil, ?_⟩, fun ρ' μ' w => ⟨held_nil, ?_⟩⟩
  · obtain ⟨w3, w4, w5, w6, w7, w8, rfl, rfl, pre⟩ := w
    obtain ⟨y, hy, rfl⟩ := enumD_get hi
    rw [List.getElem?_map] at hy
    obtain ⟨m, hm, rfl⟩ := Option.map_eq_some_iff.mp hy
    have il := (List.getElem?_eq_some_iff.mp hm).1
    have em : m = gt d i := by
      have := gt_get il
      rw [hm] at this
      exact Option.some.inj this
    subst em
    have iv : i < vs.length := by omega
    have bi := gt_le hd iv
    have step : okA r vs d i → ∀ k, k < i + 1 → okA r vs d k := fun a k hk => by
      by_cases e : k = i
      · rw [e]; exact a
      · exact pre k (by omega)
    walk_at "ev"
    by_cases p : 0 < gt d i
    · rw [if_pos p]
      refine sq fun V hV => ?_
      walk_at "ev"
      rw [v_at iv]
      walk_at "ev"
      by_cases z : vt vs i = 0
      · rw [if_pos z]
        exact ⟨_, Mu.Sub.refl _, no i iv fun a => (a p).1 z⟩
      · rw [if_neg z]
        refine hV.go ?_
        clear hV
        refine sq fun V hV => ?_
        walk_at "ev"
        refine ask_lpost ok.g (by omega) (by omega) ?_
        refine hV.go ?_
        clear hV
        simp -dsimp only [dFor, diEnum2]
        walk_at "ev"
        have q1 := lpost_pos ok.g (k := gt d i) (by omega) (by omega)
        refine ⟨fun j ρ' μ'' => ∃ w6 w7 w8, ρ' = [some (enc r), some (.tup (vs.map D.int)), some (.tup (d.map D.int)), some (.int (i : Int)), some (.int (gt d i)), some (fr (lpost r (gt d i))), w6, w7, w8] ∧ μ'' = μ' ∧ ∀ k, k < j → okF r vs d i k,
          ⟨_, _, _, rfl, rfl, fun k hk => absurd hk (Nat.not_lt_zero k)⟩, fun j x ρ' μ'' hj w => ⟨held_nil, ?_⟩, fun ρ' μ'' w => ⟨held_nil, ?_⟩⟩
        · obtain ⟨w6, w7, w8, rfl, rfl, pre2⟩ := w
          obtain ⟨y, hy, rfl⟩ := enumD_get hj
          rw [List.getElem?_map] at hy
          obtain ⟨m, hm, rfl⟩ := Option.map_eq_some_iff.mp hy
          have jl := (List.getElem?_eq_some_iff.mp hm).1
          have em : m = vt vs j := by
            have := gt_get (l := vs) jl
            rw [hm] at this
            exact Option.some.inj this
          subst em
          have bj := gt_le hd jl
          have q2 := lpost_pos ok.g (k := gt d j + 1) (by omega) (by omega)
          have step2 : okF r vs d i j → ∀ k, k < j + 1 → okF r vs d i k := fun a k hk => by
            by_cases e : k = j
            · rw [e]; exact a
            · exact pre2 k (by omega)
          walk_at "ev"
          refine sq fun Z hZ => ?_
          walk_at "ev"
          rw [a_at (by omega)]
          walk_at "ev"
          refine ask_lpost ok.g (by omega) (by omega) ?_
          refine hZ.go ?_
          clear hZ
          simp -dsimp only [fr]
          walk_at "ev"
          by_cases e : j = i
          · subst e
            rw [if_neg (fun z => z rfl)]
            exact ⟨_, _, _, rfl, step2 (.inl rfl)⟩
          · rw [if_pos (by omega), v_at iv]
            walk_at "ev"
            refine ⟨mulR (by omega) (by omega), mulR (by omega) (by omega), mulR (by omega) (by omega), mulR (by omega) (by omega), ?_⟩
            by_cases c : vt vs i * (lpost r (gt d i)).2 * (lpost r (gt d j + 1)).1 < vt vs j * (lpost r (gt d j + 1)).2 * (lpost r (gt d i)).1
            · rw [if_pos c]
              refine ⟨_, Mu.Sub.refl _, no i iv fun a => ?_⟩
              rcases (a p).2 j jl with y | y
              · exact e y
              · omega
            · rw [if_neg c]
              exact ⟨_, _, _, rfl, step2 (.inr (by omega))⟩
        · obtain ⟨w6, w7, w8, rfl, rfl, pre2⟩ := w
          have pre2 : ∀ k, k < (enumD (vs.map D.int)).length → okF r vs d i k := pre2
          rw [enumD_len, List.length_map] at pre2
          exact ⟨_, _, _, _, _, _, rfl, rfl, step fun _ => ⟨z, pre2⟩⟩
    · rw [if_neg p]
      exact ⟨_, _, _, _, _, _, rfl, step fun a => absurd a p⟩
  · obtain ⟨w3, w4, w5, w6, w7, w8, rfl, rfl, pre⟩ := w
    have pre : ∀ k, k < (enumD (d.map D.int)).length → okA r vs d k := pre
    rw [enumD_len, List.length_map, dl] at pre
    rw [L.mpr pre] at q
    refine hU.go ?_
    walk_at "ev"
    exact ⟨_, Mu.Sub.refl _, q⟩
/-- the law's deals, in its own sequence -/
def Dlt (r : R) (vs : List Int) (h : Int) : List (List Int) := (Tt vs.length h vs.length).filter (byb r vs)
theorem Dlt_mem {r : R} {vs : List Int} {h : Int} (h0 : 0 ≤ h) (hl : 1 ≤ vs.length) (a : List Int) : a ∈ Dlt r vs h ↔ a ∈ Dls r vs h := by
  unfold Dlt Dls
  rw [List.mem_filter, List.mem_filter, Tt_deal h0 hl, Ev_mem h0]
theorem holdb_dlt {r : R} {vs : List Int} {h : Int} (h0 : 0 ≤ h) (hl : 1 ≤ vs.length) (num : Nat) (w : Bool) (s : Int) (more : Bool) :
    holdb r vs h num w s more = (!(Dlt r vs h).isEmpty && (if w = true then (Dlt r vs h).any fun a => if more = true then decide (s ≤ gt a num) else decide (gt a num ≤ s) else (Dlt r vs h).all fun a => if more = true then decide (s ≤ gt a num) else decide (gt a num ≤ s))) := by
  have M := Dlt_mem (r := r) (vs := vs) h0 hl
  have e1 : (Dls r vs h).isEmpty = (Dlt r vs h).isEmpty := by
    rw [Bool.eq_iff_iff, List.isEmpty_iff, List.isEmpty_iff, List.eq_nil_iff_forall_not_mem, List.eq_nil_iff_forall_not_mem]
    exact ⟨fun z a => fun q => z a ((M a).mp q), fun z a => fun q => z a ((M a).mpr q)⟩
  have e2 : ∀ f : List Int → Bool, (Dls r vs h).any f = (Dlt r vs h).any f := fun f => by
    rw [Bool.eq_iff_iff, List.any_eq_true, List.any_eq_true]
    exact ⟨fun ⟨a, m, q⟩ => ⟨a, (M a).mpr m, q⟩, fun ⟨a, m, q⟩ => ⟨a, (M a).mp m, q⟩⟩
  have e3 : ∀ f : List Int → Bool, (Dls r vs h).all f = (Dlt r vs h).all f := fun f => by
    rw [Bool.eq_iff_iff, List.all_eq_true, List.all_eq_true]
    exact ⟨fun z a m => z a ((M a).mp m), fun z a m => z a ((M a).mpr m)⟩
  unfold holdb
  rw [e1, e2, e3]
structure Rs3 (r : R) (vs : List Int) (h : Int) : Prop where
  ok : Rok r vs h
  l3 : vs.length ≤ 3
  h5 : h ≤ 5
theorem Dlt_small {r : R} {vs : List Int} {h : Int} (k : Rs3 r vs h) : (Dlt r vs h).length ≤ 216 := by
  refine Nat.le_trans (List.length_filter_le _ _) (Nat.le_trans (Tt_small k.ok.h0 k.h5 k.l3 vs.length (Nat.le_refl _)) ?_)
  exact Nat.pow_le_pow_right (by decide) k.l3
def sp_law_deals : DSp := fun ds μ Q => ∃ (r : R) (vs : List Int) (h : Int), ds = [enc r, encV vs, .int h] ∧ Rs3 r vs h ∧ New ((Dlt r vs h).map encV) μ Q
theorem len_law_deals : ∀ ds μ Q, sp_law_deals ds μ Q → ds.length = (["rule", "votes", "house"] : List Str).length := by
  rintro ds μ Q ⟨r, vs, h, rfl, _⟩
  rfl
def db_law_deals : DTS := (dRet (dNew (dLc (diSeq (dFn sp_law_tuples (daCons (dCall cLen (daCons (dVar 1) daNil)) (daCons (dVar 2) daNil)))) (gdName 3) (dTest (dFn sp_law_is_by (daCons (dVar 0) (daCons (dVar 1) (daCons (dVar 3) daNil))))) (dVar 3) [3])))
theorem pf_law_deals : ∀ ds μ Q, sp_law_deals ds μ Q → db_law_deals (retD Q) (startD ["rule", "votes", "house", "deal"] ds) μ := by
  rintro ds μ Q ⟨r, vs, h, rfl, k, q⟩
  show db_law_deals (retD Q) [some (enc r), some (.tup (vs.map D.int)), some (.int h), none] μ
  have hl := k.ok.v.len
  have l3 := k.l3
  have ts := Tt_small k.ok.h0 k.h5 l3 vs.length (Nat.le_refl _)
  have p3 : 6 ^ vs.length ≤ 6 ^ 3 := Nat.pow_le_pow_right (by decide) l3
  unfold db_law_deals
  walk_at "ev"
  simp -dsimp only [dLc, diSeq]
  walk_at "ev"
  rw [List.length_map]
  refine ⟨vs.length, h, rfl, ⟨hl.1, l3, k.ok.h0, k.h5⟩, fun m hm => ?_⟩
  simp -dsimp only [lsrc]
  rw [Mu.upd_same]
  walk_at "ev"
  refine lc_ty (l := Tt vs.length h vs.length) (e := encV) (byb r vs) encV (held_one Mu.upd_same) (by omega) (fun d hd μ' Qy Qn sb q2 => ?_) ?_
  · simp -dsimp only [wipeD]
    walk_at "ev"
    refine ⟨r, vs, h, d, rfl, ⟨k.ok, (Tt_deal k.ok.h0 hl.1 d).mp hd⟩, ?_⟩
    by_cases e : byb r vs d = true
    · rw [if_pos e] at q2
      walk_at "ev"
      rw [if_pos e]
      exact q2
    · rw [if_neg e] at q2
      walk_at "ev"
      rw [if_neg e]
      exact q2
  · intro k2 hk2
    exact ⟨_, (Mu.sub_upd hm).upd k2 _, q k2 (none_of (Mu.sub_upd hm) hk2)⟩
theorem ask_deals {r : R} {vs : List Int} {h : Int} {μ : Mu} {Q : DK} (k : Rs3 r vs h) (q : New ((Dlt r vs h).map encV) μ Q) : sp_law_deals [enc r, .tup (vs.map D.int), .int h] μ Q := ⟨r, vs, h, rfl, k, q⟩
def toldD (w : Bool) (s : Int) (more : Bool) : D := .tup [wd w, .int s, .bl more]
def holdI (num : Nat) (s : Int) (more : Bool) (a : List Int) : Bool := if more = true then decide (s ≤ gt a num) else decide (gt a num ≤ s)
def sp_law_does_hold : DSp := fun ds μ Q => ∃ (r : R) (vs : List Int) (h : Int) (num : Nat) (w : Bool) (s : Int) (more : Bool), ds = [enc r, encV vs, .int h, .int (num : Int), toldD w s more] ∧ (Rs3 r vs h ∧ num < vs.length) ∧ Q (.bl (holdb r vs h num w s more)) μ
theorem len_law_does_hold : ∀ ds μ Q, sp_law_does_hold ds μ Q → ds.length = (["rule", "votes", "house", "number", "told"] : List Str).length := by
  rintro ds μ Q ⟨r, vs, h, num, w, s, more, rfl, _⟩
  rfl
def db_law_does_hold : DTS := (dSeq (dAsg (dVar 4) (gdTup 3 (gdCons (gdName 5) (gdCons (gdName 6) (gdCons (gdName 7) gdNil))))) (dSeq (dAsg (dNew (dLc (diSeq (dFn sp_law_deals (daCons (dVar 0) (daCons (dVar 1) (daCons (dVar 2) daNil))))) (gdName 9) dYes (dIf (dTest (dVar 7)) (dOp oGe (dOp oIx (dVar 9) (dVar 3)) (dVar 6)) (dOp oLe (dOp oIx (dVar 9) (dVar 3)) (dVar 6))) [9])) (gdName 8)) (dRet (dAnd (dOp oNe (dVar 8) (dNew (dLst daNil))) (dIf (dTest (dOp oEq (dVar 5) (dC (.str "some")))) (dCall (dSeq1 false sAny) (daCons (dVar 8) daNil)) (dCall (dSeq1 false sAll) (daCons (dVar 8) daNil)))))))
theorem pf_law_does_hold : ∀ ds μ Q, sp_law_does_hold ds μ Q → db_law_does_hold (retD Q) (startD ["rule", "votes", "house", "number", "told", "word", "seats", "is_more", "some", "deal"] ds) μ := by
  rintro ds μ Q ⟨r, vs, h, num, w, s, more, rfl, ⟨k, hn⟩, q⟩
  show db_law_does_hold (retD Q) [some (enc r), some (.tup (vs.map D.int)), some (.int h), some (.int (num : Int)), some (toldD w s more), none, none, none, none, none] μ
  have hl := k.ok.v.len
  have ds := Dlt_small k
  rw [holdb_dlt k.ok.h0 hl.1] at q
  unfold db_law_does_hold
  refine sq fun U hU => ?_
  unfold toldD
  walk_at "ev"
  refine hU.go ?_
  clear hU
  refine sq fun U hU => ?_
  walk_at "ev"
  simp -dsimp only [dLc, diSeq]
  walk_at "ev"
  refine ask_deals k fun m hm => ?_
  simp -dsimp only [lsrc]
  rw [Mu.upd_same]
  walk_at "ev"
  refine lc_tm (l := Dlt r vs h) (e := encV) (fun a => .bl (holdI num s more a)) (held_one Mu.upd_same) (by omega) (fun d hd μ' Qy sb q2 => ?_) ?_
  · have dd := (Dls_mem k.ok.h0).mp ((Dlt_mem k.ok.h0 hl.1 d).mp hd)
    have e : atI (d.map D.int) (num : Int) = some (.int (gt d num)) := a_at (by rw [dd.1.len]; exact hn)
    simp -dsimp only [wipeD]
    walk_at "ev"
    unfold holdI at q2
    cases more with
    | true =>
      rw [if_pos rfl] at q2
      walk_at "ev"
      rw [e]
      exact q2
    | false =>
      rw [if_neg (by decide)] at q2
      walk_at "ev"
      rw [e]
      exact q2
  · intro k2 hk2
    have s2 := (Mu.sub_upd (xs := (Dlt r vs h).map encV) hm).trans (Mu.sub_upd (xs := (Dlt r vs h).map fun a => D.bl (holdI num s more a)) hk2)
    refine hU.go ?_
    clear hU
    walk_at "ev"
    generalize Dlt r vs h = L at *
    intro k3 hk3
    have q : Q (.bl (!L.isEmpty && (if w = true then L.any (holdI num s more) else L.all (holdI num s more)))) μ := q
    have e2 : ∀ xs, (((μ.upd m (L.map encV)).upd k2 (L.map fun a => D.bl (holdI num s more a))).upd k3 xs) k2 = some (L.map fun a => D.bl (holdI num s more a)) := fun xs => Mu.keep Mu.upd_same hk3
    refine ask_deep (EqOk.lst (e2 _) (EqAll.map (g := fun a => PyData.bool (holdI num s more a)) (a := 0) fun a _ => .bl _)) (EqOk.lst (a := 0) Mu.upd_same .emp) (by decide) (by decide) ?_
    have s3 := s2.trans (Mu.sub_upd (xs := []) hk3)
    cases L with
    | nil =>
      walk_at "ev"
      exact ⟨_, s3, q⟩
    | cons a L =>
      walk_at "ev"
      rw [show (PyData.list ((a :: L).map fun a => PyData.bool (holdI num s more a))).eqv (PyData.list []) = false from rfl, if_pos rfl]
      cases w with
      | true =>
        rw [show wd true = .str "some" from rfl]
        walk_at "ev"
        simp -dsimp only [dSeq1, sitems]
        walk_at "ev"
        rw [e2]
        refine sAny_ty (b := holdI num s more) ?_
        exact ⟨_, s3, q⟩
      | false =>
        rw [show wd false = .str "each" from rfl]
        walk_at "ev"
        rw [if_neg (by decide)]
        simp -dsimp only [dSeq1, sitems]
        walk_at "ev"
        rw [e2]
        refine sAll_ty (b := holdI num s more) ?_
        exact ⟨_, s3, q⟩
theorem ask_does {r : R} {vs : List Int} {h s : Int} {num : Nat} {w more : Bool} {μ : Mu} {Q : DK} (k : Rs3 r vs h) (hn : num < vs.length) (q : Q (.bl (holdb r vs h num w s more)) μ) : sp_law_does_hold [enc r, .tup (vs.map D.int), .int h, .int (num : Int), toldD w s more] μ Q := ⟨r, vs, h, num, w, s, more, rfl, ⟨k, hn⟩, q⟩
def firstB (r : R) (f : Nat → List Int) (n : Nat) (h : Int) (num : Nat) (w : Bool) (s : Int) (more : Bool) : Option Nat := (List.range n).find? fun i => holdb r (f i) h num w s more
def sp_law_first : DSp := fun ds μ Q => ∃ (r : R) (f : Nat → List Int) (n : Nat) (k : Nat) (h : Int) (num : Nat) (w : Bool) (s : Int) (more : Bool), ds = [enc r, .cell k, .int h, .int (num : Int), toldD w s more] ∧ μ k = some ((List.range n).map fun i => encV (f i)) ∧ ((∀ i, i < n → Rs3 r (f i) h ∧ num < (f i).length) ∧ n ≤ 1000) ∧ Q (optD (firstB r f n h num w s more)) μ
theorem len_law_first : ∀ ds μ Q, sp_law_first ds μ Q → ds.length = (["rule", "rows", "house", "number", "told"] : List Str).length := by
  rintro ds μ Q ⟨r, f, n, k, h, num, w, s, more, rfl, _⟩
  rfl
def db_law_first : DTS := (dSeq (dFor (diEnum2 (dVar 1)) (gdTup 2 (gdCons (gdName 5) (gdCons (gdName 6) gdNil))) (dIfS (dTest (dFn sp_law_does_hold (daCons (dVar 0) (daCons (dVar 6) (daCons (dVar 2) (daCons (dVar 3) (daCons (dVar 4) daNil))))))) (dRet (dVar 5)) dNext)) (dRet (dC .non)))
theorem pf_law_first : ∀ ds μ Q, sp_law_first ds μ Q → db_law_first (retD Q) (startD ["rule", "rows", "house", "number", "told", "at", "votes"] ds) μ := by
  rintro ds μ Q ⟨r, f, n, k, h, num, w, s, more, rfl, hk, ⟨ok, n1⟩, q⟩
  show db_law_first (retD Q) [some (enc r), some (.cell k), some (.int h), some (.int (num : Int)), some (toldD w s more), none, none] μ
  unfold firstB at q
  unfold db_law_first
  refine sq fun U hU => ?_
  simp -dsimp only [dFor, diEnum2]
  walk_at "ev"
  simp -dsimp only [lsrc]
  rw [hk]
  walk_at "ev"
  refine ⟨fun i ρ' μ' => ∃ w5 w6, ρ' = [some (enc r), some (.cell k), some (.int h), some (.int (num : Int)), some (toldD w s more), w5, w6] ∧ μ' = μ ∧ ∀ j, j < i → holdb r (f j) h num w s more = false,
    ⟨_, _, rfl, rfl, fun j hj => absurd hj (Nat.not_lt_zero j)⟩, fun i x ρ' μ' hi w' => ?_, fun ρ' μ' w' => ?_⟩
  · obtain ⟨w5, w6, rfl, rfl, pre⟩ := w'
    refine ⟨held_one hk, ?_⟩
    obtain ⟨y, hy, rfl⟩ := enumD_get hi
    have il : i < n := by
      have := (List.getElem?_eq_some_iff.mp hy).1
      rw [List.length_map, List.length_range] at this
      exact this
    rw [List.getElem?_map, List.getElem?_range il] at hy
    cases hy
    have o := ok i il
    walk_at "ev"
    refine ask_does o.1 o.2 ?_
    walk_at "ev"
    by_cases z : holdb r (f i) h num w s more = true
    · rw [if_pos z]
      rw [find_first il z pre] at q
      exact ⟨_, Mu.Sub.refl _, q⟩
    · rw [if_neg z]
      refine ⟨_, _, rfl, fun j hj => ?_⟩
      by_cases e : j = i
      · rw [e]
        exact Bool.eq_false_iff.mpr z
      · exact pre j (by omega)
  · obtain ⟨w5, w6, rfl, rfl, pre⟩ := w'
    refine ⟨held_one hk, ?_⟩
    have pre : ∀ j, j < (enumD ((List.range n).map fun i => encV (f i))).length → holdb r (f j) h num w s more = false := pre
    rw [enumD_len, List.length_map, List.length_range] at pre
    rw [find_none pre] at q
    refine hU.go ?_
    walk_at "ev"
    exact ⟨_, Mu.Sub.refl _, q⟩
def sp_law_with : DSp := fun ds μ Q => ∃ (vs : List Int) (num : Nat) (x : Int), ds = [encV vs, .int (num : Int), .int x] ∧ (Vok vs ∧ num < vs.length) ∧ Q (encV (wv vs num (vt vs num + x))) μ
theorem len_law_with : ∀ ds μ Q, sp_law_with ds μ Q → ds.length = (["votes", "number", "by"] : List Str).length := by
  rintro ds μ Q ⟨vs, num, x, rfl, _⟩
  rfl
def db_law_with : DTS := (dRet (dOp oPlus (dOp oPlus (dSl (dVar 0) doNone (doSome (dVar 1))) (dTup (daCons (dOp oPlus (dOp oIx (dVar 0) (dVar 1)) (dVar 2)) daNil))) (dSl (dVar 0) (doSome (dOp oPlus (dVar 1) (dC (.int 1)))) doNone)))
theorem pf_law_with : ∀ ds μ Q, sp_law_with ds μ Q → db_law_with (retD Q) (startD ["votes", "number", "by"] ds) μ := by
  rintro ds μ Q ⟨vs, num, x, rfl, ⟨hv, hn⟩, q⟩
  show db_law_with (retD Q) [some (.tup (vs.map D.int)), some (.int (num : Int)), some (.int x)] μ
  have hl := hv.len
  unfold db_law_with
  walk_at "ev"
  simp -dsimp only [dSl, doNone, doSome]
  walk_at "ev"
  rw [cut_v (Nat.le_of_lt hn), cut_w hn, v_at hn]
  walk_at "ev"
  have e : (vs.take num).map D.int ++ [D.int (vt vs num + x)] ++ (vs.drop (num + 1)).map D.int = (wv vs num (vt vs num + x)).map D.int := by
    unfold wv
    rw [List.map_append, List.map_append]
    rfl
  refine ⟨?_, ?_, ?_⟩
  · rw [List.length_map, List.length_take]
    exact sz1000 (by omega)
  · rw [List.length_append, List.length_map, List.length_map, List.length_take, List.length_drop]
    exact sz1000 (by show min num vs.length + 1 + _ ≤ _; omega)
  · rw [e]
    exact ⟨_, Mu.Sub.refl _, q⟩
theorem ask_wv {vs : List Int} {num : Nat} {x : Int} {μ : Mu} {Q : DK} (hv : Vok vs) (hn : num < vs.length) (q : Q (encV (wv vs num (vt vs num + x))) μ) : sp_law_with [.tup (vs.map D.int), .int (num : Int), .int x] μ Q := ⟨vs, num, x, rfl, ⟨hv, hn⟩, q⟩
end K40
namespace K40
open PySem PySem.Spec PyProof.Rows L2 Dl
/-! ## the first row that holds, told by thresholds -/
section
variable {r : R} {vs : List Int} {h : Int} {num : Nat} {s : Int}
theorem more_first (hr : r ∈ menu) (ok : Rok r vs h) (h5 : h ≤ 5) (v12 : ∀ x ∈ vs, x ≤ 12) (hn : num < vs.length) (w : Bool) (s0 : 0 ≤ s) (s1 : s ≤ h) :
    ∃ k : Nat, firstB r (fun i => wv vs num (vt vs num + (i : Int))) 260 h num w s true = some k ∧ k < 260 ∧ moreD r vs h num w s = .int (k : Int) := by
  have T := least_small ok.g ok.v ok.h0 ok.h1 hn (s := s) hr h5 v12 w s0 s1
  have v0 := (ok.v.at num).1
  have v1 : vt vs num ≤ 12 := v12 _ (List.mem_of_getElem? (gt_get (l := vs) hn))
  have I : ∀ i : Nat, i < 260 → (holdb r (wv vs num (vt vs num + (i : Int))) h num w s true = true ↔ leastV r (oth vs num) h w s ≤ vt vs num + (i : Int)) := fun i hi => by
    have := least_iff ok.g (wv_vok hn (vt vs num + (i : Int)) ok.v (by omega) (by omega)) ok.h0 ok.h1 (num := num) (by rw [wv_len hn]; exact hn) w s0 s1
    rw [wv_oth hn, wv_same hn] at this
    exact this
  unfold moreD
  generalize leastV r (oth vs num) h w s = t at *
  refine ⟨(max 0 (t - vt vs num)).toNat, find_first (by omega) ((I _ (by omega)).mpr (by omega)) fun j hj => Bool.eq_false_iff.mpr fun z => ?_, by omega, ?_⟩
  · have := (I j (by omega)).mp z
    omega
  · rw [if_pos (by omega)]
    refine congrArg D.int ?_
    omega
theorem less_first (ok : Rok r vs h) (hn : num < vs.length) (w : Bool) (s0 : 0 ≤ s) (s1 : s ≤ h) :
    optD (firstB r (fun i => wv vs num (vt vs num + (0 - (i : Int)))) ((vt vs num).toNat + 1) h num w s false) = lessD r vs h num w s := by
  have v0 := (ok.v.at num).1
  have v1 := (ok.v.at num).2
  have V : ∀ i : Nat, i < (vt vs num).toNat + 1 → Vok (wv vs num (vt vs num + (0 - (i : Int)))) := fun i hi => wv_vok hn _ ok.v (by omega) (by omega)
  unfold lessD firstB
  by_cases c : s = h
  · rw [if_pos c]
    have I : ∀ i : Nat, i < (vt vs num).toNat + 1 → (holdb r (wv vs num (vt vs num + (0 - (i : Int)))) h num w s false = true ↔ hasD (wv vs num (vt vs num + (0 - (i : Int)))) h) := fun i hi => by
      rw [holdb_iff ok.g (V i hi) ok.h0 ok.h1 (by rw [wv_len hn]; exact hn)]
      refine ⟨fun z => z.1, fun z => ⟨z, ?_⟩⟩
      have := (Gs_dd ok.g (V i hi) ok.h0 ok.h1 (num := num) (by rw [wv_len hn]; exact hn) z (!w)).bn.hi num (by rw [wv_len hn]; exact hn)
      rw [if_neg (by decide), c]
      exact this
    have J : ∀ i : Nat, i < (vt vs num).toNat + 1 → (hasD (wv vs num (vt vs num + (0 - (i : Int)))) h ↔ (h = 0 ∨ act (oth vs num) ≠ []) ∨ 1 ≤ vt vs num + (0 - (i : Int))) := fun i hi => by
      have := hasD_iff ok.g (V i hi) ok.h0 ok.h1 (num := num) (by rw [wv_len hn]; exact hn)
      rw [wv_oth hn, wv_same hn] at this
      exact this
    have H := hasD_iff ok.g ok.v ok.h0 ok.h1 hn
    by_cases z : h = 0 ∨ act vs ≠ []
    · rw [if_pos z]
      have z : hasD vs h := z
      rw [find_first (k := 0) (by omega) ((I 0 (by omega)).mpr ((J 0 (by omega)).mpr ((H.mp z).imp id fun y => by omega))) fun j hj => absurd hj (Nat.not_lt_zero j)]
      rfl
    · rw [if_neg z]
      have z : ¬ hasD vs h := z
      rw [find_none fun j hj => Bool.eq_false_iff.mpr fun y => ?_]
      · rfl
      · refine z (H.mpr ?_)
        rcases (J j hj).mp ((I j hj).mp y) with q | q
        · exact .inl q
        · exact .inr (by omega)
  · rw [if_neg c]
    have I : ∀ i : Nat, i < (vt vs num).toNat + 1 → (holdb r (wv vs num (vt vs num + (0 - (i : Int)))) h num w s false = true ↔ vt vs num + (0 - (i : Int)) ≤ mostV r (oth vs num) h w s) := fun i hi => by
      have := most_iff ok.g (V i hi) ok.h0 ok.h1 (num := num) (by rw [wv_len hn]; exact hn) w s0 (show s < h by omega)
      rw [wv_oth hn, wv_same hn] at this
      exact this
    generalize mostV r (oth vs num) h w s = t at *
    by_cases z : 0 ≤ t
    · rw [if_pos z]
      rw [find_first (k := (max 0 (vt vs num - t)).toNat) (by omega) ((I _ (by omega)).mpr (by omega)) fun j hj => Bool.eq_false_iff.mpr fun y => ?_]
      · refine congrArg D.int ?_
        omega
      · have := (I j (by omega)).mp y
        omega
    · rw [if_neg z]
      rw [find_none fun j hj => Bool.eq_false_iff.mpr fun y => ?_]
      · rfl
      · have := (I j hj).mp y
        omega
end
/-! ## shown -/
theorem rp_v {μ : Mu} {a : List Int} (hl : a.length ≤ 12) (hb : ∀ x ∈ a, 0 ≤ x ∧ x ≤ 10 ^ 9) : RpOk μ (encV a) (pyV a) 12 1 := by
  have h := RpAll.map (μ := μ) (f := D.int) (g := PyData.int) (c := 0) (dep := 0) (xs := a) fun v hv => by
    have := hb v hv
    exact .int (by omega)
  exact (RpOk.tup h).mono (by omega) (by omega)
def pyRace (r : R) (vs : List Int) (h : Int) : PyData := .tuple [.str "race", pyR r, pyV vs, .int h]
theorem rp_race {μ : Mu} {r : R} {vs : List Int} {h : Int} (ok : Rok r vs h) : RpOk μ (encR r vs h) (pyRace r vs h) 200 4 := by
  have h0 := ok.h0
  have h1 := ok.h1
  have hl := ok.v.len
  exact (RpOk.tup (.cons (.str rfl) (.cons (rp_enc ok.g) (.cons (rp_v (by omega) ok.v.v) (.cons (.int (by omega)) .nil))))).mono (by decide) (by decide)
def pyO (o : Option Nat) : PyData := match o with | some k => .int (k : Int) | none => .none
theorem rp_o {μ : Mu} {o : Option Nat} (h : ∀ k, o = some k → k ≤ 10 ^ 9 + 1) : RpOk μ (optD o) (pyO o) 0 0 := by
  cases o with
  | none => exact RpOk.non
  | some k =>
    have := h k rfl
    exact RpOk.int (i := (k : Int)) (by omega)
theorem rp_two {μ : Mu} {k : Nat} {o : Option Nat} (e : μ k = some [optD o, optD o]) (h : ∀ k, o = some k → k ≤ 10 ^ 9 + 1) : RpOk μ (.cell k) (.list [pyO o, pyO o]) 10 2 := (RpOk.lst e (.cons (rp_o h) (.cons (rp_o h) .nil))).mono (by decide) (by decide)
theorem first_lt {r : R} {f : Nat → List Int} {n : Nat} {h : Int} {num : Nat} {w : Bool} {s : Int} {more : Bool} {k : Nat} (e : firstB r f n h num w s more = some k) : k < n := by
  unfold firstB at e
  rw [List.find?_range_eq_some] at e
  exact List.mem_range.mp e.2.1
theorem permG4_3210 {β : Type} (a b c d : β) (l : List β) : permG [3, 2, 1, 0] l [a, b, c, d] = [d, c, b, a] := rfl
theorem permG5_43210 {β : Type} (a b c d e : β) (l : List β) : permG [4, 3, 2, 1, 0] l [a, b, c, d, e] = [e, d, c, b, a] := rfl
end K40
namespace K40
open PySem PySem.Spec PyProof.Rows L2 Dl
local macro_rules | `(tactic| walk_at "ev") => `(tactic| try simp -dsimp only [↓dSeq_at, cInt2, oIs2, oNot2, encV, sp_is_within, sp_is_tuple, sp_is_integer, encR, dPar3, dlRange1, cRepr2, dFnK, permG4_3210, permG5_43210, dRet, dRetN, dNext, dIfS, dAsg, dDrop, dPar, dNever, dVar, dC, dOp, dUn, dTest, dChain, dAnd, dOr, dNot, dIf, dtAnd, dtOr, dtNot, dTup, daNil, daCons, dCall, dFn, dFnK, dNew, dLst, dOf,
  gdName, gdTup, gdCons, gdNil, gdSub, rdI, rdI0, oPlus, oSub, oTimes, oDiv, oMod, oPow, oLt, oLe, oGt, oGe, oIx, oEq, oNe, uNeg, oIsN, oNotN, D.isNon, cAbs, cMax, cMin, cInt, cDivmod, cLen, cIsi, tyD, items, litems, retD, sTup, mApp, dYes,
  atI_0, atI_1, atI_2, atI_3, atI_4, ixN_20, ixN_21, kit_ii, kit_ib, kit_is, kit_it, kit_il, kit_bi, kit_bb, kit_bs, kit_bt, kit_bl, kit_si, kit_sb, kit_ss, kit_st, kit_sl, kit_ti, kit_tb, kit_ts, kit_tt, kit_tl, kit_li, kit_lb, kit_ls, kit_lt, kit_ll,
  List.getElem?_cons_zero, List.getElem?_cons_succ, List.set_cons_zero, List.set_cons_succ, List.length_cons, List.length_nil, Mu.upd_same, Mu.upd_upd, Nat.zero_add, Nat.reduceAdd, Nat.reduceLeDiff, natlit, Int.reduceEq, Int.reduceLT, Int.reduceLE, Int.reduceAdd, Int.reduceSub, Int.reduceMul, Int.reducePow, Int.reduceNeg, permG2_10, permG3_210, zl_0, zl_1, zl_2, zl_3, zl_4, zl_5, zl_6, zl_7, zl_8, zl_9, zl_10, zl_11, zl_12, zl_13, zl_14, zl_15, zl_16, zl_17, zl_18, zl_19, zl_20, true_and, and_true, eq_self, not_true_eq_false, not_false_eq_true, decide_true, decide_false, if_true, Bool.false_eq_true, if_false, Bool.not_true, Bool.not_false, decide_eq_true_eq, Bool.not_eq_true', decide_eq_false_iff_not, Option.isSome, Option.map])
def Vs (y : D) : Prop := ∃ v : Int, y = .int v ∧ 0 ≤ v ∧ v ≤ 12
theorem vss : ∀ (xs : List D), (∀ y ∈ xs, Vs y) → ∃ vs : List Int, xs = vs.map D.int ∧ ∀ v ∈ vs, 0 ≤ v ∧ v ≤ 12
  | [], _ => ⟨[], rfl, (fun _ h => nomatch h)⟩
  | y :: xs, h => by
    obtain ⟨v, rfl, hv⟩ := h y (List.mem_cons_self ..)
    obtain ⟨vs, rfl, hs⟩ := vss xs fun z hz => h z (List.mem_cons_of_mem _ hz)
    refine ⟨v :: vs, rfl, fun w hw => ?_⟩
    cases hw with
    | head => exact hv
    | tail _ hw => exact hs w hw
def sp_law_right : DSp := fun ds μ Q => ∃ c, ds = [.cell c] ∧ Pot μ c ∧ Turn c μ fun μ' => Q (.bl true) μ'
theorem len_law_right : ∀ ds μ Q, sp_law_right ds μ Q → ds.length = (["pot"] : List Str).length := by
  rintro ds μ Q ⟨c, rfl, _⟩
  rfl
theorem ask_first {r : R} {f : Nat → List Int} {n k : Nat} {h s : Int} {num : Nat} {w more : Bool} {μ : Mu} {Q : DK} (e : μ k = some ((List.range n).map fun i => encV (f i))) (ok : ∀ i, i < n → Rs3 r (f i) h ∧ num < (f i).length) (n1 : n ≤ 1000) (q : Q (optD (firstB r f n h num w s more)) μ) :
    sp_law_first [enc r, .cell k, .int h, .int (num : Int), .tup [wd w, .int s, .bl more]] μ Q := ⟨r, f, n, k, h, num, w, s, more, rfl, e, ⟨ok, n1⟩, q⟩
theorem ask_more {r : R} {vs : List Int} {h s : Int} {num : Nat} {w : Bool} {μ : Mu} {Q : DK} (ok : Rok r vs h) (hn : num < vs.length) (s0 : 0 ≤ s) (s1 : s ≤ h) (q : Q (moreD r vs h num w s) μ) : sp_fewest_more [.tup [.str "race", enc r, .tup (vs.map D.int), .int h], .int (num : Int), .int s, wd w] μ Q := ⟨r, vs, h, num, s, w, rfl, ⟨ok, hn, s0, s1⟩, q⟩
theorem ask_fless {r : R} {vs : List Int} {h s : Int} {num : Nat} {w : Bool} {μ : Mu} {Q : DK} (ok : Rok r vs h) (hn : num < vs.length) (s0 : 0 ≤ s) (s1 : s ≤ h) (q : Q (lessD r vs h num w s) μ) : sp_fewest_less [.tup [.str "race", enc r, .tup (vs.map D.int), .int h], .int (num : Int), .int s, wd w] μ Q := ⟨r, vs, h, num, s, w, rfl, ⟨ok, hn, s0, s1⟩, q⟩
theorem ask_mov {r : R} {vs : List Int} {h s : Int} {num fur : Nat} {w : Bool} {μ : Mu} {Q : DK} (ok : Rok r vs h) (hn : num < vs.length) (hf : fur < vs.length) (ne : num ≠ fur) (sm : vt vs num + vt vs fur ≤ 10 ^ 9) (s0 : 0 ≤ s) (s1 : s ≤ h) (q : Q (movD r vs h num fur w s) μ) : sp_fewest_moved [.tup [.str "race", enc r, .tup (vs.map D.int), .int h], .int (num : Int), .int (fur : Int), .int s, wd w] μ Q := ⟨r, vs, h, num, fur, s, w, rfl, ⟨ok, hn, hf, ne, sm, s0, s1⟩, q⟩
def db_law_right : DTS := (dSeq (dPar3 1 2 3 (daCons (dFn sp_law_rule (daCons (dVar 0) daNil)) (daCons (dOp oPlus (dC (.int 1)) (dFn sp_law_draw (daCons (dVar 0) (daCons (dC (.int 3)) daNil)))) (daCons (dFn sp_law_draw (daCons (dVar 0) (daCons (dC (.int 6)) daNil))) daNil)))) (dSeq (dAsg (dOf sTup (dLc (diR1 (daCons (dVar 2) daNil)) (gdName 5) dYes (dFn sp_law_pick (daCons (dVar 0) (daCons (dNew (dLst (daCons (dC (.int 0)) (daCons (dFn sp_law_draw (daCons (dVar 0) (daCons (dC (.int 13)) daNil))) (daCons (dFn sp_law_draw (daCons (dVar 0) (daCons (dC (.int 13)) daNil))) daNil))))) daNil))) [5])) (gdName 4)) (dSeq (dAsg (dTup (daCons (dTup (daCons (dC (.str "race")) (daCons (dVar 1) (daCons (dVar 4) (daCons (dVar 3) daNil))))) (daCons (dFn sp_law_draw (daCons (dVar 0) (daCons (dVar 2) daNil))) daNil))) (gdTup 2 (gdCons (gdName 6) (gdCons (gdName 7) gdNil)))) (dSeq (dPar3 8 9 10 (daCons (dFn sp_law_draw (daCons (dVar 0) (daCons (dOp oPlus (dVar 3) (dC (.int 1))) daNil))) (daCons (dFn sp_law_pick (daCons (dVar 0) (daCons (dNew (dLst (daCons (dC (.str "some")) (daCons (dC (.str "each")) daNil)))) daNil))) (daCons (dCall cRepr2 (daCons (dVar 6) daNil)) daNil)))) (dSeq (dAsg (dFn sp_law_first (daCons (dVar 1) (daCons (dNew (dLc (diR1 (daCons (dC (.int 260)) daNil)) (gdName 12) dYes (dFn sp_law_with (daCons (dVar 4) (daCons (dVar 7) (daCons (dVar 12) daNil)))) [12])) (daCons (dVar 3) (daCons (dVar 7) (daCons (dTup (daCons (dVar 9) (daCons (dVar 8) (daCons (dC (.bl true)) daNil)))) daNil)))))) (gdName 11)) (dSeq (dIfS (dtOr (dTest (dOp oIs2 (dVar 11) (dC .non))) (dTest (dOp oNe (dCall cRepr2 (daCons (dNew (dLst (daCons (dFn sp_fewest_more (daCons (dVar 6) (daCons (dVar 7) (daCons (dVar 8) (daCons (dVar 9) daNil))))) (daCons (dFnK sp_fewest_more [3, 2, 1, 0] (daCons (dVar 9) (daCons (dVar 8) (daCons (dVar 7) (daCons (dVar 6) daNil))))) daNil)))) daNil)) (dCall cRepr2 (daCons (dNew (dLst (daCons (dVar 11) (daCons (dVar 11) daNil)))) daNil))))) (dRet (dC (.bl false))) dNext) (dSeq (dAsg (dFn sp_law_first (daCons (dVar 1) (daCons (dNew (dLc (diR1 (daCons (dOp oPlus (dOp oIx (dVar 4) (dVar 7)) (dC (.int 1))) daNil)) (gdName 12) dYes (dFn sp_law_with (daCons (dVar 4) (daCons (dVar 7) (daCons (dOp oSub (dC (.int 0)) (dVar 12)) daNil)))) [12])) (daCons (dVar 3) (daCons (dVar 7) (daCons (dTup (daCons (dVar 9) (daCons (dVar 8) (daCons (dC (.bl false)) daNil)))) daNil)))))) (gdName 11)) (dSeq (dIfS (dTest (dOp oNe (dCall cRepr2 (daCons (dNew (dLst (daCons (dFn sp_fewest_less (daCons (dVar 6) (daCons (dVar 7) (daCons (dVar 8) (daCons (dVar 9) daNil))))) (daCons (dFnK sp_fewest_less [3, 2, 1, 0] (daCons (dVar 9) (daCons (dVar 8) (daCons (dVar 7) (daCons (dVar 6) daNil))))) daNil)))) daNil)) (dCall cRepr2 (daCons (dNew (dLst (daCons (dVar 11) (daCons (dVar 11) daNil)))) daNil)))) (dRet (dC (.bl false))) dNext) (dSeq (dIfS (dTest (dOp oGt (dVar 2) (dC (.int 1)))) (dSeq (dAsg (dFn sp_law_pick (daCons (dVar 0) (daCons (dNew (dLc (diR1 (daCons (dVar 2) daNil)) (gdName 5) (dTest (dOp oNe (dVar 5) (dVar 7))) (dVar 5) [5])) daNil))) (gdName 13)) (dSeq (dAsg (dNew (dLc (diR1 (daCons (dOp oPlus (dOp oIx (dVar 4) (dVar 13)) (dC (.int 1))) daNil)) (gdName 12) dYes (dFn sp_law_with (daCons (dFn sp_law_with (daCons (dVar 4) (daCons (dVar 7) (daCons (dVar 12) daNil)))) (daCons (dVar 13) (daCons (dOp oSub (dC (.int 0)) (dVar 12)) daNil)))) [12])) (gdName 14)) (dSeq (dAsg (dFn sp_law_first (daCons (dVar 1) (daCons (dVar 14) (daCons (dVar 3) (daCons (dVar 7) (daCons (dTup (daCons (dVar 9) (daCons (dVar 8) (daCons (dC (.bl true)) daNil)))) daNil)))))) (gdName 11)) (dSeq (dAsg (dNew (dLst (daCons (dFn sp_fewest_moved (daCons (dVar 6) (daCons (dVar 7) (daCons (dVar 13) (daCons (dVar 8) (daCons (dVar 9) daNil)))))) (daCons (dFnK sp_fewest_moved [4, 3, 2, 1, 0] (daCons (dVar 9) (daCons (dVar 8) (daCons (dVar 13) (daCons (dVar 7) (daCons (dVar 6) daNil)))))) daNil)))) (gdName 15)) (dIfS (dTest (dOp oNe (dCall cRepr2 (daCons (dVar 15) daNil)) (dCall cRepr2 (daCons (dNew (dLst (daCons (dVar 11) (daCons (dVar 11) daNil)))) daNil)))) (dRet (dC (.bl false))) dNext))))) dNext) (dRet (dOp oEq (dCall cRepr2 (daCons (dVar 6) daNil)) (dVar 10))))))))))))
theorem pf_law_right : ∀ ds μ Q, sp_law_right ds μ Q → db_law_right (retD Q) (startD ["pot", "rule", "lists", "house", "votes", "at", "race", "number", "seats", "word", "shown", "due", "by", "further", "rows", "told"] ds) μ := by
  rintro ds μ Q ⟨c, rfl, hp, q⟩
  show db_law_right (retD Q) [some (.cell c), none, none, none, none, none, none, none, none, none, none, none, none, none, none, none] μ
  unfold db_law_right
  have good := Good.start hp
  refine sq fun U hU => ?_
  walk_at "ev"
  refine ask_law_rule good.pot fun r hr a1 b1 hp1 => ?_
  replace good := good.turn hp1
  generalize μ.upd c [.int a1, .int b1] = ν at good ⊢
  walk_at "ev"
  refine ask_draw good.pot (by decide) (by decide) fun l l0 l1 a1 b1 hp1 => ?_
  replace good := good.turn hp1
  generalize ν.upd c [.int a1, .int b1] = ν at good ⊢
  walk_at "ev"
  obtain ⟨n, hn⟩ : ∃ n : Nat, 1 + l = (n : Int) := ⟨(1 + l).toNat, by omega⟩
  rw [hn]
  have n1 : 1 ≤ n := by omega
  have n3 : n ≤ 3 := by omega
  clear l0 l1 hn
  refine ask_draw good.pot (by decide) (by decide) fun h h0 h6 a1 b1 hp1 => ?_
  replace good := good.turn hp1
  generalize ν.upd c [.int a1, .int b1] = ν at good ⊢
  walk_at "ev"
  have h5 : h ≤ 5 := by omega
  refine hU.go ?_
  clear hU
  -- votes
  refine sq fun U hU => ?_
  walk_at "ev"
  simp -dsimp only [dLc, diR1]
  walk_at "ev"
  refine ⟨⟨by omega, by omega⟩, ?_⟩
  refine lc_pot Vs good.pot (by rw [rangeD_len]; omega) (fun x hx μ' Qy pot q4 => ?_) (fun xs len all a2 b2 hp2 => ?_)
  · simp -dsimp only [wipeD]
    walk_at "ev"
    refine ask_draw pot (by decide) (by decide) fun x x0 x1 a3 b3 hp3 => ?_
    walk_at "ev"
    refine ask_draw (pot_turn hp3) (by decide) (by decide) fun y y0 y1 a4 b4 hp4 => ?_
    walk_at "ev"
    intro k hk
    refine ask_pick (pot_turn hp4) hk ⟨show 0 < 3 by decide, show 3 < 2 ^ 30 by decide⟩ fun z hz a b hp => ?_
    have sb := (Mu.sub_upd (xs := [D.int 0, D.int x, D.int y]) hk).upd c [D.int a, D.int b]
    rw [Mu.upd_upd] at sb
    refine q4 z a b _ ?_ hp sb
    simp only [List.mem_cons, List.not_mem_nil, or_false] at hz
    rcases hz with rfl | rfl | rfl
    · exact ⟨_, rfl, by decide, by decide⟩
    · exact ⟨_, rfl, x0, by omega⟩
    · exact ⟨_, rfl, y0, by omega⟩
  obtain ⟨vs, rfl, vb⟩ := vss xs all
  rw [List.length_map, rangeD_len] at len
  replace good := good.turn hp2
  generalize ν.upd c [.int a2, .int b2] = ν at good ⊢
  walk_at "ev"
  have hv : Vok vs := ⟨by omega, fun x hx => by have := vb x hx; omega⟩
  have ok : Rok r vs h := ⟨menu_gr hr, hv, h0, by omega⟩
  have k3 : Rs3 r vs h := ⟨ok, by omega, h5⟩
  have v12 : ∀ x ∈ vs, x ≤ 12 := fun x hx => (vb x hx).2
  have ln : vs.length = n := by omega
  refine hU.go ?_
  clear hU
  -- the race
  refine sq fun U hU => ?_
  walk_at "ev"
  refine ask_draw good.pot (by omega) (by omega) fun num' m0 m1 a1 b1 hp1 => ?_
  replace good := good.turn hp1
  generalize ν.upd c [.int a1, .int b1] = ν at good ⊢
  obtain ⟨num, rfl⟩ : ∃ num : Nat, num' = (num : Int) := ⟨num'.toNat, by omega⟩
  have hn : num < vs.length := by omega
  walk_at "ev"
  refine hU.go ?_
  clear hU
  refine sq fun U hU => ?_
  walk_at "ev"
  refine ask_draw good.pot (by omega) (by omega) fun s s0 s1 a1 b1 hp1 => ?_
  replace good := good.turn hp1
  generalize ν.upd c [.int a1, .int b1] = ν at good ⊢
  walk_at "ev"
  intro k hk
  refine ask_pick good.pot hk ⟨by decide, by decide⟩ fun z hz a1 b1 hp1 => ?_
  obtain ⟨w, rfl⟩ : ∃ w, z = wd w := by
    simp only [List.mem_cons, List.not_mem_nil, or_false] at hz
    rcases hz with rfl | rfl
    · exact ⟨true, rfl⟩
    · exact ⟨false, rfl⟩
  clear hz
  replace good := (good.new (xs := [.str "some", .str "each"]) hk).turn hp1
  generalize (ν.upd k [.str "some", .str "each"]).upd c [.int a1, .int b1] = ν at good ⊢
  walk_at "ev"
  refine ask_repr (rp_race ok) rfl (by decide) (by decide) ?_
  walk_at "ev"
  have sh : s ≤ h := by omega
  refine hU.go ?_
  clear hU
  -- votes more
  refine sq fun U hU => ?_
  walk_at "ev"
  simp -dsimp only [dLc, diR1]
  walk_at "ev"
  refine ⟨⟨by decide, by decide⟩, ?_⟩
  rw [show (260 : Int) = ((260 : Nat) : Int) from rfl, range_nat]
  refine lc_tm (l := List.range 260) (e := fun (a : Nat) => D.int (a : Int)) (fun i => encV (wv vs num (vt vs num + (i : Int)))) held_nil (by rw [List.length_range]; decide) (fun i hi μ' Qy sb q2 => ?_) ?_
  · simp -dsimp only [wipeD]
    walk_at "ev"
    exact ask_wv hv hn q2
  intro k hk
  have vn0 := (hv.at num).1
  have vn1 : vt vs num ≤ 12 := v12 _ (List.mem_of_getElem? (gt_get (l := vs) hn))
  refine ask_first Mu.upd_same (fun i hi => ⟨⟨⟨menu_gr hr, wv_vok hn _ hv (by omega) (by omega), h0, by omega⟩, by rw [wv_len hn]; omega, h5⟩, by rw [wv_len hn]; exact hn⟩) (by decide) ?_
  obtain ⟨j, f1, f2, f3⟩ := more_first hr ok h5 v12 hn w s0 sh
  rw [f1]
  refine hU.fgt (Mu.sub_upd hk) ?_
  clear hU hk k
  refine sq fun U hU => ?_
  rw [show optD (some j) = .int (j : Int) from rfl]
  walk_at "ev"
  refine ask_more ok hn s0 sh ?_
  walk_at "ev"
  refine ask_more ok hn s0 sh ?_
  rw [f3]
  intro k hk
  refine ask_repr (rp_two (o := some j) Mu.upd_same fun y e => by cases e; omega) rfl (by decide) (by decide) ?_
  walk_at "ev"
  intro k2 hk2
  refine ask_repr (rp_two (o := some j) Mu.upd_same fun y e => by cases e; omega) rfl (by decide) (by decide) ?_
  walk_at "ev"
  refine hU.fgt ((Mu.sub_upd hk).trans (Mu.sub_upd hk2)) ?_
  clear hU hk k hk2 k2
  -- votes less
  refine sq fun U hU => ?_
  walk_at "ev"
  simp -dsimp only [dLc, diR1]
  walk_at "ev"
  rw [v_at hn]
  walk_at "ev"
  refine ⟨⟨by omega, by omega⟩, ?_⟩
  rw [show vt vs num + 1 = (((vt vs num).toNat + 1 : Nat) : Int) by omega, range_nat]
  refine lc_tm (l := List.range ((vt vs num).toNat + 1)) (e := fun (a : Nat) => D.int (a : Int)) (fun i => encV (wv vs num (vt vs num + (0 - (i : Int))))) held_nil (by rw [List.length_range]; omega) (fun i hi μ' Qy sb q2 => ?_) ?_
  · simp -dsimp only [wipeD]
    walk_at "ev"
    exact ask_wv hv hn q2
  intro k hk
  refine ask_first Mu.upd_same (fun i hi => ⟨⟨⟨menu_gr hr, wv_vok hn _ hv (by omega) (by omega), h0, by omega⟩, by rw [wv_len hn]; omega, h5⟩, by rw [wv_len hn]; exact hn⟩) (by omega) ?_
  have lf := less_first ok hn w s0 sh
  obtain ⟨o, eo⟩ : ∃ o, o = firstB r (fun i => wv vs num (vt vs num + (0 - (i : Int)))) ((vt vs num).toNat + 1) h num w s false := ⟨_, rfl⟩
  have ob : ∀ k, o = some k → k ≤ 10 ^ 9 + 1 := fun k e => by
    rw [eo] at e
    have := first_lt e
    omega
  rw [← eo] at lf ⊢
  refine hU.fgt (Mu.sub_upd hk) ?_
  clear hU hk k
  refine sq fun U hU => ?_
  walk_at "ev"
  refine ask_fless ok hn s0 sh ?_
  walk_at "ev"
  refine ask_fless ok hn s0 sh ?_
  rw [← lf]
  intro k hk
  refine ask_repr (rp_two (o := o) Mu.upd_same ob) rfl (by decide) (by decide) ?_
  walk_at "ev"
  intro k2 hk2
  refine ask_repr (rp_two (o := o) Mu.upd_same ob) rfl (by decide) (by decide) ?_
  walk_at "ev"
  refine hU.fgt ((Mu.sub_upd hk).trans (Mu.sub_upd hk2)) ?_
  clear hU hk k hk2 k2 eo ob lf
  -- votes moved
  refine sq fun U hU => ?_
  have fin : ∀ (w11 w13 w14 w15 : Option D) (ν : Mu), Good μ c ν → U [some (.cell c), some (enc r), some (.int (n : Int)), some (.int h), some (.tup (vs.map D.int)), none, some (encR r vs h), some (.int (num : Int)), some (.int s), some (wd w), some (.str (pyRace r vs h).shown), w11, none, w13, w14, w15] ν := by
    intro w11 w13 w14 w15 ν good
    refine hU.go ?_
    clear hU
    walk_at "ev"
    refine ask_repr (rp_race ok) rfl (by decide) (by decide) ?_
    walk_at "ev"
    obtain ⟨a9, b9, pb, sb9⟩ := good
    exact ⟨_, sb9, q a9 b9 pb⟩
  walk_at "ev"
  by_cases big : 1 < (n : Int)
  · rw [if_pos big]
    refine sq fun V hV => ?_
    walk_at "ev"
    simp -dsimp only [dLc, diR1]
    walk_at "ev"
    refine ⟨⟨by omega, by omega⟩, ?_⟩
    rw [range_nat]
    refine lc_ty (l := List.range n) (e := fun (a : Nat) => D.int (a : Int)) (fun (a : Nat) => decide (a ≠ num)) (fun (a : Nat) => .int (a : Int)) held_nil (by rw [List.length_range]; omega) (fun a ha μ' Qy Qn sb q2 => ?_) ?_
    · simp -dsimp only [wipeD]
      walk_at "ev"
      by_cases e : a = num
      · subst e
        rw [if_neg (by simp)] at q2
        rw [if_neg fun z => z rfl]
        exact q2
      · rw [if_pos (by simpa using e)] at q2
        rw [if_pos (by omega)]
        exact q2
    intro k hk
    have rl : 0 < (rest n num).length ∧ (rest n num).length ≤ n := by
      refine ⟨List.length_pos_of_mem (a := if num = 0 then 1 else 0) (rest_mem.mpr ?_), ?_⟩
      · split <;> omega
      · unfold rest
        have := List.length_filter_le (fun a => decide (a ≠ num)) (List.range n)
        rw [List.length_range] at this
        exact this
    have rl2 : ((rest n num).map fun (a : Nat) => D.int (a : Int)).length = (rest n num).length := List.length_map ..
    refine ask_pick (xs := (rest n num).map fun (a : Nat) => D.int (a : Int)) good.pot hk ⟨by omega, by omega⟩ fun z hz a1 b1 hp1 => ?_
    obtain ⟨fur, hfm, rfl⟩ := List.mem_map.mp hz
    have hf' := rest_mem.mp hfm
    have hf : fur < vs.length := by omega
    have ne : num ≠ fur := fun z => hf'.2 z.symm
    replace good := (good.new (xs := (rest n num).map fun (a : Nat) => D.int (a : Int)) hk).turn hp1
    change V _ ((ν.upd k ((rest n num).map fun (a : Nat) => D.int (a : Int))).upd c [.int a1, .int b1])
    generalize (ν.upd k ((rest n num).map fun (a : Nat) => D.int (a : Int))).upd c [.int a1, .int b1] = ν at good ⊢
    have vf0 := (hv.at fur).1
    have vf1 : vt vs fur ≤ 12 := v12 _ (List.mem_of_getElem? (gt_get (l := vs) hf))
    refine hV.go ?_
    clear hV
    refine sq fun V hV => ?_
    walk_at "ev"
    simp -dsimp only [dLc, diR1]
    walk_at "ev"
    rw [v_at hf]
    walk_at "ev"
    refine ⟨⟨by omega, by omega⟩, ?_⟩
    rw [show vt vs fur + 1 = (((vt vs fur).toNat + 1 : Nat) : Int) by omega, range_nat]
    refine lc_tm (l := List.range ((vt vs fur).toNat + 1)) (e := fun (a : Nat) => D.int (a : Int)) (fun i => encV (mv vs num fur (i : Int))) held_nil (by rw [List.length_range]; omega) (fun i hi μ' Qy sb q2 => ?_) ?_
    · have il := List.mem_range.mp hi
      simp -dsimp only [wipeD]
      walk_at "ev"
      refine ask_wv hv hn ?_
      walk_at "ev"
      refine ask_wv (wv_vok hn _ hv (by omega) (by omega)) (by rw [wv_len hn]; exact hf) ?_
      rw [wv_ne hn _ (fun z => ne z.symm), show vt vs fur + (0 - (i : Int)) = vt vs fur - (i : Int) by omega]
      exact q2
    intro k2 hk2
    refine hV.go ?_
    clear hV
    refine sq fun V hV => ?_
    walk_at "ev"
    refine ask_first Mu.upd_same (fun i hi => ⟨⟨⟨menu_gr hr, mv_vok hn hf ne _ hv (by omega) (by omega) (by omega), h0, by omega⟩, by rw [mv_len hn hf ne]; omega, h5⟩, by rw [mv_len hn hf ne]; exact hn⟩) (by omega) ?_
    obtain ⟨o, eo⟩ : ∃ o, o = firstB r (fun i => mv vs num fur (i : Int)) ((vt vs fur).toNat + 1) h num w s true := ⟨_, rfl⟩
    have em : movD r vs h num fur w s = optD o := by
      rw [eo]
      rfl
    have ob : ∀ k, o = some k → k ≤ 10 ^ 9 + 1 := fun k e => by
      rw [eo] at e
      have := first_lt e
      omega
    rw [← eo]
    replace good := good.new (xs := (List.range ((vt vs fur).toNat + 1)).map fun (i : Nat) => D.tup ((mv vs num fur (i : Int)).map D.int)) hk2
    generalize ν.upd k2 ((List.range ((vt vs fur).toNat + 1)).map fun (i : Nat) => D.tup ((mv vs num fur (i : Int)).map D.int)) = ν at good ⊢
    refine hV.go ?_
    clear hV
    refine sq fun V hV => ?_
    walk_at "ev"
    refine ask_mov ok hn hf ne (by omega) s0 sh ?_
    walk_at "ev"
    refine ask_mov ok hn hf ne (by omega) s0 sh ?_
    rw [em]
    intro k4 hk4
    have e4 : (ν.upd k4 [optD o, optD o]) k4 = some [optD o, optD o] := Mu.upd_same
    replace good := good.new (xs := [optD o, optD o]) hk4
    generalize ν.upd k4 [optD o, optD o] = ν at good e4 ⊢
    refine hV.go ?_
    clear hV
    walk_at "ev"
    refine ask_repr (rp_two (o := o) e4 ob) rfl (by decide) (by decide) ?_
    walk_at "ev"
    intro k5 hk5
    refine ask_repr (rp_two (o := o) Mu.upd_same ob) rfl (by decide) (by decide) ?_
    walk_at "ev"
    exact fin _ _ _ _ _ (good.new hk5)
  · rw [if_neg big]
    exact fin _ _ _ _ _ good
end K40
namespace K40
open PySem PySem.Spec PyProof.Rows L2 Dl
local macro_rules | `(tactic| walk_at "ev") => `(tactic| try simp -dsimp only [↓dSeq_at, dRet, dRetN, dNext, dIfS, dAsg, dDrop, dPar, dNever, dVar, dC, dOp, dUn, dTest, dChain, dAnd, dOr, dNot, dIf, dtAnd, dtOr, dtNot, dTup, daNil, daCons, dCall, dFn, dFnK, dNew, dLst, dOf,
  gdName, gdTup, gdCons, gdNil, gdSub, rdI, rdI0, oPlus, oSub, oTimes, oDiv, oMod, oPow, oLt, oLe, oGt, oGe, oIx, oEq, oNe, uNeg, oIsN, oNotN, D.isNon, cAbs, cMax, cMin, cInt, cDivmod, cLen, cIsi, tyD, items, litems, retD, sTup, mApp, dYes,
  atI_0, atI_1, atI_2, atI_3, atI_4, ixN_20, ixN_21, kit_ii, kit_ib, kit_is, kit_it, kit_il, kit_bi, kit_bb, kit_bs, kit_bt, kit_bl, kit_si, kit_sb, kit_ss, kit_st, kit_sl, kit_ti, kit_tb, kit_ts, kit_tt, kit_tl, kit_li, kit_lb, kit_ls, kit_lt, kit_ll,
  List.getElem?_cons_zero, List.getElem?_cons_succ, List.set_cons_zero, List.set_cons_succ, List.length_cons, List.length_nil, Mu.upd_same, Mu.upd_upd, Nat.zero_add, Nat.reduceAdd, Nat.reduceLeDiff, natlit, Int.reduceEq, Int.reduceLT, Int.reduceLE, Int.reduceAdd, Int.reduceSub, Int.reduceMul, Int.reducePow, Int.reduceNeg, permG2_10, permG3_210, zl_0, zl_1, zl_2, zl_3, zl_4, zl_5, zl_6, zl_7, zl_8, zl_9, zl_10, zl_11, zl_12, zl_13, zl_14, zl_15, zl_16, zl_17, zl_18, zl_19, zl_20, true_and, and_true, eq_self, not_true_eq_false, not_false_eq_true, decide_true, decide_false, if_true, Bool.false_eq_true, if_false, Bool.not_true, Bool.not_false, decide_eq_true_eq, Bool.not_eq_true', decide_eq_false_iff_not, Option.isSome, Option.map])
def sp_law : DSp := fun ds μ Q => ∃ ns : List Int, ds = [.frz (ns.map D.int)] ∧ ns.length ≤ 63 ∧ Q (.bl true) μ
theorem len_law : ∀ ds μ Q, sp_law ds μ Q → ds.length = (["script"] : List Str).length := by
  rintro ds μ Q ⟨ns, rfl, _⟩
  rfl
def db_law : DTS := (dRet (dOf sAll (dLc (diR1 (daCons (dC (.int 3)) daNil)) (gdName 1) dYes (dFn sp_law_right (daCons (dFn sp_law_pot (daCons (dVar 0) (daCons (dVar 1) daNil))) daNil)) [1])))
theorem pf_law : ∀ ds μ Q, sp_law ds μ Q → db_law (retD Q) (startD ["script", "k"] ds) μ := by
  rintro ds μ Q ⟨ns, rfl, hn, h⟩
  show db_law (retD Q) [some (.frz (ns.map D.int)), none] μ
  unfold db_law
  walk_at "ev"
  simp -dsimp only [dLc, diR1]
  walk_at "ev"
  refine ⟨⟨by omega, by omega⟩, ?_⟩
  refine lc_grow (fun _ => .bl true) held_nil (by show (rangeD _ _).length ≤ _; rw [rangeD_len]; decide) (fun x hx μ' Qy hd q => ?_) ?_
  · obtain ⟨i, hi, rfl⟩ := List.mem_map.mp hx
    have hi := List.mem_range.mp hi
    have hi : i < 3 := hi
    simp -dsimp only [wipeD]
    walk_at "ev"
    refine ⟨ns, _, rfl, ⟨⟨by omega, by omega⟩, hn⟩, fun c hc => ?_⟩
    intro a b hp
    refine ⟨c, rfl, ⟨a, b, Mu.upd_same, hp⟩, ?_⟩
    intro a b hp
    refine q _ ?_
    rw [Mu.upd_upd]
    exact Mu.sub_upd hc
  · refine sAll_map (b := fun _ => true) ?_
    rw [show ∀ l : List D, l.all (fun _ => true) = true from fun l => by induction l with | nil => rfl | cons a l ih => exact ih]
    exact ⟨_, Mu.Sub.refl _, h⟩
end K40
namespace K40
open PySem PySem.Spec PyProof.Rows L2 Dl
structure Bt (mg : Str → Option Value) : Prop where
  z_abs : mg "abs" = none
  z_all : mg "all" = none
  z_any : mg "any" = none
  z_bool : mg "bool" = none
  z_divmod : mg "divmod" = none
  z_enumerate : mg "enumerate" = none
  z_int : mg "int" = none
  z_isinstance : mg "isinstance" = none
  z_len : mg "len" = none
  z_list : mg "list" = none
  z_max : mg "max" = none
  z_min : mg "min" = none
  z_range : mg "range" = none
  z_repr : mg "repr" = none
  z_str : mg "str" = none
  z_sum : mg "sum" = none
  z_tuple : mg "tuple" = none
  z_zip : mg "zip" = none
structure Ct (K : PySem.W.Frag) (mg : Str → Option Value) : Prop where
  c_EACH : Gc K mg "EACH" (.str "each")
  c_MOST_BOTTOM : Gc K mg "MOST_BOTTOM" (.int 999)
  c_MOST_FIRSTS : Gc K mg "MOST_FIRSTS" (.int 4)
  c_MOST_HOUSE : Gc K mg "MOST_HOUSE" (.int 200)
  c_MOST_LISTS : Gc K mg "MOST_LISTS" (.int 12)
  c_MOST_VOTES : Gc K mg "MOST_VOTES" (.int 1000000000)
  c_RACE : Gc K mg "RACE" (.str "race")
  c_RULE : Gc K mg "RULE" (.str "rule")
  c_SOME : Gc K mg "SOME" (.str "some")
section
variable {P : Program} {w : World} {K : PySem.W.Frag} {mg : Str → Option Value} {base : Heap}
theorem sc_is_integer : FnScope ["value"] ["value"] (defScope S_is_integer) := ⟨rfl, rfl, rfl, by decide +kernel, rfl, by decide +kernel, by decide +kernel⟩
theorem has_is_integer (B : Bt mg)  (T : Txt K mg "is_integer" S_is_integer) : Has P w K mg base 1 "is_integer" S_is_integer ["value"] sp_is_integer :=
  T.has sc_is_integer len_is_integer fun f cdv A outer s H hr hgd => ⟨db_is_integer,
    (dss_one (ds_ret (de_and (de_callB c_isi B.z_isinstance bt_isinstance (da_cons (de_var 0) (da_cons (de_ty B.z_int bt_int) da_nil))) (de_one (de_not (de_callB c_isi B.z_isinstance bt_isinstance (da_cons (de_var 0) (da_cons (de_ty B.z_bool bt_bool) da_nil)))))))),
    pf_is_integer⟩
theorem sc_is_tuple : FnScope ["value", "many"] ["value", "many"] (defScope S_is_tuple) := ⟨rfl, rfl, rfl, by decide +kernel, rfl, by decide +kernel, by decide +kernel⟩
theorem has_is_tuple (B : Bt mg)  (T : Txt K mg "is_tuple" S_is_tuple) : Has P w K mg base 1 "is_tuple" S_is_tuple ["value", "many"] sp_is_tuple :=
  T.has sc_is_tuple len_is_tuple fun f cdv A outer s H hr hgd => ⟨db_is_tuple,
    (dss_one (ds_ret (de_and (de_callB c_isi B.z_isinstance bt_isinstance (da_cons (de_var 0) (da_cons (de_ty B.z_tuple bt_tuple) da_nil))) (de_one (de_cmp (o_eq hr.units) (de_callB c_len B.z_len bt_len (da_cons (de_var 0) da_nil)) (de_var 1)))))),
    pf_is_tuple⟩
theorem sc_common : FnScope ["near", "far"] ["near", "far"] (defScope S_common) := ⟨rfl, rfl, rfl, by decide +kernel, rfl, by decide +kernel, by decide +kernel⟩
theorem has_common (B : Bt mg)  (T : Txt K mg "common" S_common) : Has P w K mg base 1 "common" S_common ["near", "far"] sp_common :=
  T.has sc_common len_common fun f cdv A outer s H hr hgd => ⟨db_common,
    (dss_cons (ds_while (dt_cmp o_gt (de_var 1) de_int) (dss_one (ds_par 0 1 sc_common.nd (da_cons (de_var 1) (da_cons (de_op o_mod (de_callTy c_int2 B.z_int bt_int (da_cons (de_var 0) da_nil)) (de_var 1)) da_nil))))) (dss_one (ds_ret (de_callB (c_max rfl) B.z_max bt_max (da_cons de_int (da_cons (de_var 0) da_nil)))))),
    pf_common⟩
theorem sc_is_less : FnScope ["near", "far"] ["near", "far"] (defScope S_is_less) := ⟨rfl, rfl, rfl, by decide +kernel, rfl, by decide +kernel, by decide +kernel⟩
theorem has_is_less  (T : Txt K mg "is_less" S_is_less) : Has P w K mg base 1 "is_less" S_is_less ["near", "far"] sp_is_less :=
  T.has sc_is_less len_is_less fun f cdv A outer s H hr hgd => ⟨db_is_less,
    (dss_one (ds_ret (de_cmp o_lt (de_op o_times (de_ix (de_var 0) de_int) (de_ix (de_var 1) de_int)) (de_op o_times (de_ix (de_var 1) de_int) (de_ix (de_var 0) de_int))))),
    pf_is_less⟩
theorem sc_is_at_most : FnScope ["near", "far"] ["near", "far"] (defScope S_is_at_most) := ⟨rfl, rfl, rfl, by decide +kernel, rfl, by decide +kernel, by decide +kernel⟩
theorem has_is_at_most  (T : Txt K mg "is_at_most" S_is_at_most) : Has P w K mg base 1 "is_at_most" S_is_at_most ["near", "far"] sp_is_at_most :=
  T.has sc_is_at_most len_is_at_most fun f cdv A outer s H hr hgd => ⟨db_is_at_most,
    (dss_one (ds_ret (de_cmp o_le (de_op o_times (de_ix (de_var 0) de_int) (de_ix (de_var 1) de_int)) (de_op o_times (de_ix (de_var 1) de_int) (de_ix (de_var 0) de_int))))),
    pf_is_at_most⟩
theorem sc_with_votes : FnScope ["race", "number", "votes"] ["race", "number", "votes"] (defScope S_with_votes) := ⟨rfl, rfl, rfl, by decide +kernel, rfl, by decide +kernel, by decide +kernel⟩
theorem has_with_votes  (T : Txt K mg "with_votes" S_with_votes) : Has P w K mg base 1 "with_votes" S_with_votes ["race", "number", "votes"] sp_with_votes :=
  T.has sc_with_votes len_with_votes fun f cdv A outer s H hr hgd => ⟨db_with_votes,
    (dss_one (ds_ret (de_op o_plus (de_slice (de_var 0) do_none (do_some de_int)) (de_tup (da_cons (de_op o_plus (de_op o_plus (de_slice (de_ix (de_var 0) de_int) do_none (do_some (de_var 1))) (de_tup (da_cons (de_var 2) da_nil))) (de_slice (de_ix (de_var 0) de_int) (do_some (de_op o_plus (de_var 1) de_int)) do_none)) (da_cons (de_ix (de_var 0) de_int) da_nil)))))),
    pf_with_votes⟩
theorem sc_law_pot : FnScope ["script", "k", "cell", "one"] ["script", "k"] (defScope S_law_pot) := ⟨rfl, rfl, rfl, by decide +kernel, rfl, by decide +kernel, by decide +kernel⟩
theorem has_law_pot (B : Bt mg)  (T : Txt K mg "_law_pot" S_law_pot) : Has P w K mg base 1 "_law_pot" S_law_pot ["script", "k"] sp_law_pot :=
  T.has sc_law_pot len_law_pot fun f cdv A outer s H hr hgd => ⟨db_law_pot,
    (dss_cons (ds_asg (de_if (dt_cmp o_lt (de_var 1) (de_callB c_len B.z_len bt_len (da_cons (de_var 0) da_nil))) (de_callB c_abs B.z_abs bt_abs (da_cons (de_ix (de_var 0) (de_var 1)) da_nil)) (de_op o_plus (de_op o_plus (de_op o_times de_int (de_var 1)) de_int) (de_callTy c_int2 B.z_int bt_int (da_cons (de_op o_mod (de_ofB (s_sum rfl) B.z_sum bt_sum (dl_lc [("one", 3)] sc_law_pot.nd (di_seq (de_var 0)) (own_name 3 fun _ _ _ _ _ => pg_name sc_law_pot.nd rfl (by first | exact Or.inl rfl | exact Or.inr rfl | exact Or.inr (Or.inl rfl))) (fun _ _ _ _ _ => dts_nil) (fun _ _ _ _ _ => (de_callB c_abs B.z_abs bt_abs (da_cons (de_var 3) da_nil))))) de_int) da_nil)))) (dg_name 2 sc_law_pot.nd)) (dss_one (ds_ret (de_new (dl_lst (da_cons (de_callB (c_max rfl) B.z_max bt_max (da_cons de_int (da_cons (de_op o_sub (de_var 2) (de_op o_pow de_int de_int)) da_nil))) (da_cons (de_op o_plus (de_op o_mod (de_callTy c_int2 B.z_int bt_int (da_cons (de_op o_plus (de_op o_plus (de_op o_times (de_op o_mod (de_callTy c_int2 B.z_int bt_int (da_cons (de_var 2) da_nil)) de_int) de_int) (de_op o_times de_int (de_var 1))) de_int) da_nil)) de_int) de_int) da_nil))))))),
    pf_law_pot⟩
theorem sc_law_draw : FnScope ["pot", "many", "digit"] ["pot", "many"] (defScope S_law_draw) := ⟨rfl, rfl, rfl, by decide +kernel, rfl, by decide +kernel, by decide +kernel⟩
theorem has_law_draw (B : Bt mg)  (T : Txt K mg "_law_draw" S_law_draw) : Has P w K mg base 1 "_law_draw" S_law_draw ["pot", "many"] sp_law_draw :=
  T.has sc_law_draw len_law_draw fun f cdv A outer s H hr hgd => ⟨db_law_draw,
    (dss_cons (ds_if (dt_cmp o_gt (de_ix (de_var 0) de_int) de_int) (dss_cons (ds_asg (de_callB c_divmod B.z_divmod bt_divmod (da_cons (de_ix (de_var 0) de_int) (da_cons (de_var 1) da_nil))) (dg_tup (dgs_cons (dg_sub (de_var 0) de_int) (dgs_cons (dg_name 2 sc_law_draw.nd) dgs_nil)))) (dss_one (ds_ret (de_var 2)))) dss_nil) (dss_cons (ds_asg (de_op o_mod (de_callTy c_int2 B.z_int bt_int (da_cons (de_op o_plus (de_op o_times (de_ix (de_var 0) de_int) de_int) de_int) da_nil)) de_int) (dg_sub (de_var 0) de_int)) (dss_one (ds_ret (de_op o_mod (de_callTy c_int2 B.z_int bt_int (da_cons (de_op o_div (de_op o_mod (de_callTy c_int2 B.z_int bt_int (da_cons (de_op o_times (de_ix (de_var 0) de_int) (de_ix (de_var 0) de_int)) da_nil)) de_int) de_int) da_nil)) (de_var 1)))))),
    pf_law_draw⟩
theorem sc_law_post : FnScope ["rule", "many"] ["rule", "many"] (defScope S_law_post) := ⟨rfl, rfl, rfl, by decide +kernel, rfl, by decide +kernel, by decide +kernel⟩
theorem has_law_post (B : Bt mg)  (T : Txt K mg "_law_post" S_law_post) : Has P w K mg base 1 "_law_post" S_law_post ["rule", "many"] sp_law_post :=
  T.has sc_law_post len_law_post fun f cdv A outer s H hr hgd => ⟨db_law_post,
    (dss_cons (ds_if (dt_cmp (o_eq hr.units) (de_var 1) de_int) (dss_one (ds_ret (de_tup (da_cons de_int (da_cons de_int da_nil))))) dss_nil) (dss_one (ds_ret (de_if (dt_cmp o_le (de_var 1) (de_callB c_len B.z_len bt_len (da_cons (de_ix (de_var 0) de_int) da_nil))) (de_ix (de_ix (de_var 0) de_int) (de_op o_sub (de_var 1) de_int)) (de_tup (da_cons (de_op o_plus (de_op o_times (de_op o_sub (de_var 1) de_int) (de_ix (de_var 0) de_int)) (de_ix (de_var 0) de_int)) (da_cons (de_ix (de_var 0) de_int) da_nil))))))),
    pf_law_post⟩
theorem sc_law_tuples : FnScope ["many", "house", "found", "at", "late", "one", "left", "here"] ["many", "house"] (defScope S_law_tuples) := ⟨rfl, rfl, rfl, by decide +kernel, rfl, by decide +kernel, by decide +kernel⟩
theorem has_law_tuples (B : Bt mg)  (T : Txt K mg "_law_tuples" S_law_tuples) : Has P w K mg base 1 "_law_tuples" S_law_tuples ["many", "house"] sp_law_tuples :=
  T.has sc_law_tuples len_law_tuples fun f cdv A outer s H hr hgd => ⟨db_law_tuples,
    (dss_cons (ds_asg (de_new (dl_lst (da_cons (de_tup da_nil) da_nil))) (dg_name 2 sc_law_tuples.nd)) (dss_cons (ds_for (di_r1 B.z_range (da_cons (de_var 0) da_nil)) (dg_name 3 sc_law_tuples.nd) (dss_cons (ds_asg (de_new (dl_lst da_nil)) (dg_name 4 sc_law_tuples.nd)) (dss_cons (ds_for (di_seq (de_var 2)) (dg_name 5 sc_law_tuples.nd) (dss_cons (ds_asg (de_op o_sub (de_var 1) (de_callB (s_sum2 rfl).call B.z_sum bt_sum (da_cons (de_var 5) da_nil))) (dg_name 6 sc_law_tuples.nd)) (dss_one (ds_expr (de_extendL (de_var 4) (dl_lc [("here", 7)] sc_law_tuples.nd (di_seq (de_new (dl_if (dt_cmp o_lt (de_op o_plus (de_var 3) de_int) (de_var 0)) (dl_range1 B.z_list B.z_range (de_op o_plus (de_var 6) de_int)) (dl_lst (da_cons (de_var 6) da_nil))))) (own_name 7 fun _ _ _ _ _ => pg_name sc_law_tuples.nd rfl (by first | exact Or.inl rfl | exact Or.inr rfl | exact Or.inr (Or.inl rfl))) (fun _ _ _ _ _ => dts_nil) (fun _ _ _ _ _ => (de_op o_plus (de_var 5) (de_tup (da_cons (de_var 7) da_nil)))))))))) (dss_one (ds_asg (de_var 4) (dg_name 2 sc_law_tuples.nd)))))) (dss_one (ds_ret (de_var 2))))),
    pf_law_tuples⟩
theorem sc_law_with : FnScope ["votes", "number", "by"] ["votes", "number", "by"] (defScope S_law_with) := ⟨rfl, rfl, rfl, by decide +kernel, rfl, by decide +kernel, by decide +kernel⟩
theorem has_law_with  (T : Txt K mg "_law_with" S_law_with) : Has P w K mg base 1 "_law_with" S_law_with ["votes", "number", "by"] sp_law_with :=
  T.has sc_law_with len_law_with fun f cdv A outer s H hr hgd => ⟨db_law_with,
    (dss_one (ds_ret (de_op o_plus (de_op o_plus (de_slice (de_var 0) do_none (do_some (de_var 1))) (de_tup (da_cons (de_op o_plus (de_ix (de_var 0) (de_var 1)) (de_var 2)) da_nil))) (de_slice (de_var 0) (do_some (de_op o_plus (de_var 1) de_int)) do_none)))),
    pf_law_with⟩
theorem sc_is_within : FnScope ["value", "least", "most"] ["value", "least", "most"] (defScope S_is_within) := ⟨rfl, rfl, rfl, by decide +kernel, rfl, by decide +kernel, by decide +kernel⟩
theorem has_is_within (h_is_integer : Has P w K mg base 1 "is_integer" S_is_integer ["value"] sp_is_integer) (T : Txt K mg "is_within" S_is_within) : Has P w K mg base 2 "is_within" S_is_within ["value", "least", "most"] sp_is_within :=
  T.has sc_is_within len_is_within fun f cdv A outer s H hr hgd => ⟨db_is_within,
    (dss_one (ds_ret (de_and (de_fn h_is_integer (hr.mono (by decide)) hgd (da_cons (de_var 0) da_nil) (fun _ _ _ _ _ _ us ws h1 h2 => match us, ws, h1, h2 with | [_], [], _, _ => ⟨rfl, rfl⟩)) (de_one (de_chain o_le o_le (de_var 1) (de_var 0) (de_var 2)))))),
    pf_is_within⟩
theorem sc_lowest : FnScope ["top", "bottom", "many"] ["top", "bottom"] (defScope S_lowest) := ⟨rfl, rfl, rfl, by decide +kernel, rfl, by decide +kernel, by decide +kernel⟩
theorem has_lowest (B : Bt mg) (h_common : Has P w K mg base 1 "common" S_common ["near", "far"] sp_common) (T : Txt K mg "lowest" S_lowest) : Has P w K mg base 2 "lowest" S_lowest ["top", "bottom"] sp_lowest :=
  T.has sc_lowest len_lowest fun f cdv A outer s H hr hgd => ⟨db_lowest,
    (dss_cons (ds_asg (de_fn h_common (hr.mono (by decide)) hgd (da_cons (de_callB c_abs B.z_abs bt_abs (da_cons (de_var 0) da_nil)) (da_cons (de_var 1) da_nil)) (fun _ _ _ _ _ _ us ws h1 h2 => match us, ws, h1, h2 with | [_, _], [], _, _ => ⟨rfl, rfl⟩)) (dg_name 2 sc_lowest.nd)) (dss_one (ds_ret (de_tup (da_cons (de_op o_div (de_var 0) (de_var 2)) (da_cons (de_op o_div (de_var 1) (de_var 2)) da_nil)))))),
    pf_lowest⟩
theorem sc_is_fraction_any : FnScope ["value", "one"] ["value"] (defScope S_is_fraction_any) := ⟨rfl, rfl, rfl, by decide +kernel, rfl, by decide +kernel, by decide +kernel⟩
theorem has_is_fraction_any (B : Bt mg) (h_is_tuple : Has P w K mg base 1 "is_tuple" S_is_tuple ["value", "many"] sp_is_tuple) (h_is_integer : Has P w K mg base 1 "is_integer" S_is_integer ["value"] sp_is_integer) (h_common : Has P w K mg base 1 "common" S_common ["near", "far"] sp_common) (T : Txt K mg "is_fraction_any" S_is_fraction_any) : Has P w K mg base 2 "is_fraction_any" S_is_fraction_any ["value"] sp_is_fraction_any :=
  T.has sc_is_fraction_any len_is_fraction_any fun f cdv A outer s H hr hgd => ⟨db_is_fraction_any,
    (dss_cons (ds_if (PWD.pt (dw_or (dt_not (dt_val (de_fn h_is_tuple (hr.mono (by decide)) hgd (da_cons (de_var 0) (da_cons de_int da_nil)) (fun _ _ _ _ _ _ us ws h1 h2 => match us, ws, h1, h2 with | [_, _], [], _, _ => ⟨rfl, rfl⟩)))) (dw_or (dt_not (dt_val (de_ofB (s_all rfl) B.z_all bt_all (dl_lc [("one", 1)] sc_is_fraction_any.nd (di_seq (de_var 0)) (own_name 1 fun _ _ _ _ _ => pg_name sc_is_fraction_any.nd rfl (by first | exact Or.inl rfl | exact Or.inr rfl | exact Or.inr (Or.inl rfl))) (fun _ _ _ _ _ => dts_nil) (fun _ _ _ _ _ => (de_fn h_is_integer (hr.mono (by decide)) hgd (da_cons (de_var 1) da_nil) (fun _ _ _ _ _ _ us ws h1 h2 => match us, ws, h1, h2 with | [_], [], _, _ => ⟨rfl, rfl⟩))))))) (dw_or1 (dt_cmp o_lt (de_ix (de_var 0) de_int) de_int))))) (dss_one (ds_ret de_bl)) dss_nil) (dss_one (ds_ret (de_cmp (o_eq hr.units) (de_fn h_common (hr.mono (by decide)) hgd (da_cons (de_callB c_abs B.z_abs bt_abs (da_cons (de_ix (de_var 0) de_int) da_nil)) (da_cons (de_ix (de_var 0) de_int) da_nil)) (fun _ _ _ _ _ _ us ws h1 h2 => match us, ws, h1, h2 with | [_, _], [], _, _ => ⟨rfl, rfl⟩)) de_int)))),
    pf_is_fraction_any⟩
theorem sc_with_moved : FnScope ["race", "number", "further", "many", "late"] ["race", "number", "further", "many"] (defScope S_with_moved) := ⟨rfl, rfl, rfl, by decide +kernel, rfl, by decide +kernel, by decide +kernel⟩
theorem has_with_moved (h_with_votes : Has P w K mg base 1 "with_votes" S_with_votes ["race", "number", "votes"] sp_with_votes) (T : Txt K mg "with_moved" S_with_moved) : Has P w K mg base 2 "with_moved" S_with_moved ["race", "number", "further", "many"] sp_with_moved :=
  T.has sc_with_moved len_with_moved fun f cdv A outer s H hr hgd => ⟨db_with_moved,
    (dss_cons (ds_asg (de_fn h_with_votes (hr.mono (by decide)) hgd (da_cons (de_var 0) (da_cons (de_var 1) (da_cons (de_op o_plus (de_ix (de_ix (de_var 0) de_int) (de_var 1)) (de_var 3)) da_nil))) (fun _ _ _ _ _ _ us ws h1 h2 => match us, ws, h1, h2 with | [_, _, _], [], _, _ => ⟨rfl, rfl⟩)) (dg_name 4 sc_with_moved.nd)) (dss_one (ds_ret (de_fn h_with_votes (hr.mono (by decide)) hgd (da_cons (de_var 4) (da_cons (de_var 2) (da_cons (de_op o_sub (de_ix (de_ix (de_var 0) de_int) (de_var 2)) (de_var 3)) da_nil))) (fun _ _ _ _ _ _ us ws h1 h2 => match us, ws, h1, h2 with | [_, _, _], [], _, _ => ⟨rfl, rfl⟩))))),
    pf_with_moved⟩
theorem sc_law_pick : FnScope ["pot", "some"] ["pot", "some"] (defScope S_law_pick) := ⟨rfl, rfl, rfl, by decide +kernel, rfl, by decide +kernel, by decide +kernel⟩
theorem has_law_pick (B : Bt mg) (h_law_draw : Has P w K mg base 1 "_law_draw" S_law_draw ["pot", "many"] sp_law_draw) (T : Txt K mg "_law_pick" S_law_pick) : Has P w K mg base 2 "_law_pick" S_law_pick ["pot", "some"] sp_law_pick :=
  T.has sc_law_pick len_law_pick fun f cdv A outer s H hr hgd => ⟨db_law_pick,
    (dss_one (ds_ret (de_ix (de_var 1) (de_fn h_law_draw (hr.mono (by decide)) hgd (da_cons (de_var 0) (da_cons (de_callB c_len B.z_len bt_len (da_cons (de_var 1) da_nil)) da_nil)) (fun _ _ _ _ _ _ us ws h1 h2 => match us, ws, h1, h2 with | [_, _], [], _, _ => ⟨rfl, rfl⟩))))),
    pf_law_pick⟩
theorem sc_law_is_by : FnScope ["rule", "votes", "deal", "far", "many", "last", "near", "here", "late"] ["rule", "votes", "deal"] (defScope S_law_is_by) := ⟨rfl, rfl, rfl, by decide +kernel, rfl, by decide +kernel, by decide +kernel⟩
theorem has_law_is_by (B : Bt mg) (h_law_post : Has P w K mg base 1 "_law_post" S_law_post ["rule", "many"] sp_law_post) (T : Txt K mg "_law_is_by" S_law_is_by) : Has P w K mg base 2 "_law_is_by" S_law_is_by ["rule", "votes", "deal"] sp_law_is_by :=
  T.has sc_law_is_by len_law_is_by fun f cdv A outer s H hr hgd => ⟨db_law_is_by,
    (dss_cons (ds_for (di_enum2 B.z_enumerate (de_var 2)) (dg_tup (dgs_cons (dg_name 3 sc_law_is_by.nd) (dgs_cons (dg_name 4 sc_law_is_by.nd) dgs_nil))) (dss_one (ds_if (dt_cmp o_gt (de_var 4) de_int) (dss_cons (ds_if (dt_cmp (o_eq hr.units) (de_ix (de_var 1) (de_var 3)) de_int) (dss_one (ds_ret de_bl)) dss_nil) (dss_cons (ds_asg (de_fn h_law_post (hr.mono (by decide)) hgd (da_cons (de_var 0) (da_cons (de_var 4) da_nil)) (fun _ _ _ _ _ _ us ws h1 h2 => match us, ws, h1, h2 with | [_, _], [], _, _ => ⟨rfl, rfl⟩)) (dg_name 5 sc_law_is_by.nd)) (dss_one (ds_for (di_enum2 B.z_enumerate (de_var 1)) (dg_tup (dgs_cons (dg_name 6 sc_law_is_by.nd) (dgs_cons (dg_name 7 sc_law_is_by.nd) dgs_nil))) (dss_cons (ds_asg (de_fn h_law_post (hr.mono (by decide)) hgd (da_cons (de_var 0) (da_cons (de_op o_plus (de_ix (de_var 2) (de_var 6)) de_int) da_nil)) (fun _ _ _ _ _ _ us ws h1 h2 => match us, ws, h1, h2 with | [_, _], [], _, _ => ⟨rfl, rfl⟩)) (dg_name 8 sc_law_is_by.nd)) (dss_one (ds_if (PWD.pt (dw_and (dt_cmp (o_ne hr.units) (de_var 6) (de_var 3)) (dw_and1 (dt_cmp o_gt (de_op o_times (de_op o_times (de_var 7) (de_ix (de_var 8) de_int)) (de_ix (de_var 5) de_int)) (de_op o_times (de_op o_times (de_ix (de_var 1) (de_var 3)) (de_ix (de_var 5) de_int)) (de_ix (de_var 8) de_int)))))) (dss_one (ds_ret de_bl)) dss_nil))))))) dss_nil))) (dss_one (ds_ret de_bl))),
    pf_law_is_by⟩
theorem sc_is_small : FnScope ["value"] ["value"] (defScope S_is_small) := ⟨rfl, rfl, rfl, by decide +kernel, rfl, by decide +kernel, by decide +kernel⟩
theorem has_is_small (C : Ct K mg) (h_is_fraction_any : Has P w K mg base 2 "is_fraction_any" S_is_fraction_any ["value"] sp_is_fraction_any) (T : Txt K mg "is_small" S_is_small) : Has P w K mg base 3 "is_small" S_is_small ["value"] sp_is_small :=
  T.has sc_is_small len_is_small fun f cdv A outer s H hr hgd => ⟨db_is_small,
    (dss_one (ds_ret (de_and (de_fn h_is_fraction_any (hr.mono (by decide)) hgd (da_cons (de_var 0) da_nil) (fun _ _ _ _ _ _ us ws h1 h2 => match us, ws, h1, h2 with | [_], [], _, _ => ⟨rfl, rfl⟩)) (de_one (de_cmp o_le (de_ix (de_var 0) de_int) (de_glob C.c_MOST_BOTTOM)))))),
    pf_is_small⟩
theorem sc_signpost : FnScope ["rule", "many", "word", "firsts", "top", "bottom"] ["rule", "many"] (defScope S_signpost) := ⟨rfl, rfl, rfl, by decide +kernel, rfl, by decide +kernel, by decide +kernel⟩
theorem has_signpost (B : Bt mg) (h_lowest : Has P w K mg base 2 "lowest" S_lowest ["top", "bottom"] sp_lowest) (T : Txt K mg "signpost" S_signpost) : Has P w K mg base 3 "signpost" S_signpost ["rule", "many"] sp_signpost :=
  T.has sc_signpost len_signpost fun f cdv A outer s H hr hgd => ⟨db_signpost,
    (dss_cons (ds_asg (de_var 0) (dg_tup (dgs_cons (dg_name 2 sc_signpost.nd) (dgs_cons (dg_name 3 sc_signpost.nd) (dgs_cons (dg_name 4 sc_signpost.nd) (dgs_cons (dg_name 5 sc_signpost.nd) dgs_nil)))))) (dss_cons (ds_if (dt_cmp (o_eq hr.units) (de_var 1) de_int) (dss_one (ds_ret (de_tup (da_cons de_int (da_cons de_int da_nil))))) dss_nil) (dss_one (ds_ret (de_if (dt_cmp o_le (de_var 1) (de_callB c_len B.z_len bt_len (da_cons (de_var 3) da_nil))) (de_ix (de_var 3) (de_op o_sub (de_var 1) de_int)) (de_fn h_lowest (hr.mono (by decide)) hgd (da_cons (de_op o_plus (de_op o_times (de_op o_sub (de_var 1) de_int) (de_var 5)) (de_var 4)) (da_cons (de_var 5) da_nil)) (fun _ _ _ _ _ _ us ws h1 h2 => match us, ws, h1, h2 with | [_, _], [], _, _ => ⟨rfl, rfl⟩))))))),
    pf_signpost⟩
theorem sc_is_row_of_votes : FnScope ["value", "one"] ["value"] (defScope S_is_row_of_votes) := ⟨rfl, rfl, rfl, by decide +kernel, rfl, by decide +kernel, by decide +kernel⟩
theorem has_is_row_of_votes (B : Bt mg) (C : Ct K mg) (h_is_within : Has P w K mg base 2 "is_within" S_is_within ["value", "least", "most"] sp_is_within) (T : Txt K mg "is_row_of_votes" S_is_row_of_votes) : Has P w K mg base 3 "is_row_of_votes" S_is_row_of_votes ["value"] sp_is_row_of_votes :=
  T.has sc_is_row_of_votes len_is_row_of_votes fun f cdv A outer s H hr hgd => ⟨db_is_row_of_votes,
    (dss_cons (ds_if (PWD.pt (dw_or (dt_not (dt_val (de_callB c_isi B.z_isinstance bt_isinstance (da_cons (de_var 0) (da_cons (de_ty B.z_tuple bt_tuple) da_nil))))) (dw_or1 (dt_not (dt_chain o_le o_le de_int (de_callB c_len B.z_len bt_len (da_cons (de_var 0) da_nil)) (de_glob C.c_MOST_LISTS)))))) (dss_one (ds_ret de_bl)) dss_nil) (dss_one (ds_ret (de_ofB (s_all rfl) B.z_all bt_all (dl_lc [("one", 1)] sc_is_row_of_votes.nd (di_seq (de_var 0)) (own_name 1 fun _ _ _ _ _ => pg_name sc_is_row_of_votes.nd rfl (by first | exact Or.inl rfl | exact Or.inr rfl | exact Or.inr (Or.inl rfl))) (fun _ _ _ _ _ => dts_nil) (fun _ _ _ _ _ => (de_fn h_is_within (hr.mono (by decide)) hgd (da_cons (de_var 1) (da_cons de_int (da_cons (de_glob C.c_MOST_VOTES) da_nil))) (fun _ _ _ _ _ _ us ws h1 h2 => match us, ws, h1, h2 with | [_, _, _], [], _, _ => ⟨rfl, rfl⟩)))))))),
    pf_is_row_of_votes⟩
theorem sc_want_goal : FnScope ["race", "seats", "word"] ["race", "seats", "word"] (defScope S_want_goal) := ⟨rfl, rfl, rfl, by decide +kernel, rfl, by decide +kernel, by decide +kernel⟩
theorem has_want_goal (B : Bt mg) (C : Ct K mg) (h_is_within : Has P w K mg base 2 "is_within" S_is_within ["value", "least", "most"] sp_is_within) (T : Txt K mg "want_goal" S_want_goal) : Has P w K mg base 3 "want_goal" S_want_goal ["race", "seats", "word"] sp_want_goal :=
  T.has sc_want_goal len_want_goal fun f cdv A outer s H hr hgd => ⟨db_want_goal,
    (dss_cons (ds_if (dt_not (dt_val (de_fn h_is_within (hr.mono (by decide)) hgd (da_cons (de_var 1) (da_cons de_int (da_cons (de_ix (de_var 0) de_int) da_nil))) (fun _ _ _ _ _ _ us ws h1 h2 => match us, ws, h1, h2 with | [_, _, _], [], _, _ => ⟨rfl, rfl⟩)))) (dss_one ds_never) dss_nil) (dss_one (ds_if (PWD.pt (dw_or (dt_not (dt_val (de_callB c_isi B.z_isinstance bt_isinstance (da_cons (de_var 2) (da_cons (de_ty B.z_str bt_str) da_nil))))) (dw_or1 (dt_cmp (o_notIn3 (u200 hr)) (de_var 2) (de_tup (da_cons (de_glob C.c_SOME) (da_cons (de_glob C.c_EACH) da_nil))))))) (dss_one ds_never) dss_nil))),
    pf_want_goal⟩
theorem sc_law_rule : FnScope ["pot", "plain"] ["pot"] (defScope S_law_rule) := ⟨rfl, rfl, rfl, by decide +kernel, rfl, by decide +kernel, by decide +kernel⟩
theorem has_law_rule (h_law_pick : Has P w K mg base 2 "_law_pick" S_law_pick ["pot", "some"] sp_law_pick) (T : Txt K mg "_law_rule" S_law_rule) : Has P w K mg base 3 "_law_rule" S_law_rule ["pot"] sp_law_rule :=
  T.has sc_law_rule len_law_rule fun f cdv A outer s H hr hgd => ⟨db_law_rule,
    (dss_cons (ds_asg (de_new (dl_lst (da_cons (de_tup (da_cons de_str (da_cons (de_tup da_nil) (da_cons de_int (da_cons de_int da_nil))))) (da_cons (de_tup (da_cons de_str (da_cons (de_tup da_nil) (da_cons de_int (da_cons de_int da_nil))))) (da_cons (de_tup (da_cons de_str (da_cons (de_tup da_nil) (da_cons de_int (da_cons de_int da_nil))))) (da_cons (de_tup (da_cons de_str (da_cons (de_tup (da_cons (de_tup (da_cons de_int (da_cons de_int da_nil))) da_nil)) (da_cons de_int (da_cons de_int da_nil))))) (da_cons (de_tup (da_cons de_str (da_cons (de_tup (da_cons (de_tup (da_cons de_int (da_cons de_int da_nil))) (da_cons (de_tup (da_cons de_int (da_cons de_int da_nil))) da_nil))) (da_cons de_int (da_cons de_int da_nil))))) (da_cons (de_tup (da_cons de_str (da_cons (de_tup (da_cons (de_tup (da_cons de_int (da_cons de_int da_nil))) (da_cons (de_tup (da_cons de_int (da_cons de_int da_nil))) da_nil))) (da_cons de_int (da_cons de_int da_nil))))) da_nil)))))))) (dg_name 1 sc_law_rule.nd)) (dss_one (ds_ret (de_fn h_law_pick (hr.mono (by decide)) hgd (da_cons (de_var 0) (da_cons (de_var 1) da_nil)) (fun _ _ _ _ _ _ us ws h1 h2 => match us, ws, h1, h2 with | [_, _], [], _, _ => ⟨rfl, rfl⟩))))),
    pf_law_rule⟩
theorem sc_law_deals : FnScope ["rule", "votes", "house", "deal"] ["rule", "votes", "house"] (defScope S_law_deals) := ⟨rfl, rfl, rfl, by decide +kernel, rfl, by decide +kernel, by decide +kernel⟩
theorem has_law_deals (B : Bt mg) (h_law_tuples : Has P w K mg base 1 "_law_tuples" S_law_tuples ["many", "house"] sp_law_tuples) (h_law_is_by : Has P w K mg base 2 "_law_is_by" S_law_is_by ["rule", "votes", "deal"] sp_law_is_by) (T : Txt K mg "_law_deals" S_law_deals) : Has P w K mg base 3 "_law_deals" S_law_deals ["rule", "votes", "house"] sp_law_deals :=
  T.has sc_law_deals len_law_deals fun f cdv A outer s H hr hgd => ⟨db_law_deals,
    (dss_one (ds_ret (de_new (dl_lc [("deal", 3)] sc_law_deals.nd (di_seq (de_fn h_law_tuples (hr.mono (by decide)) hgd (da_cons (de_callB c_len B.z_len bt_len (da_cons (de_var 1) da_nil)) (da_cons (de_var 2) da_nil)) (fun _ _ _ _ _ _ us ws h1 h2 => match us, ws, h1, h2 with | [_, _], [], _, _ => ⟨rfl, rfl⟩))) (own_name 3 fun _ _ _ _ _ => pg_name sc_law_deals.nd rfl (by first | exact Or.inl rfl | exact Or.inr rfl | exact Or.inr (Or.inl rfl))) (fun _ _ _ _ _ => (dts_one (dt_val (de_fn h_law_is_by (hr.mono (by decide)) hgd (da_cons (de_var 0) (da_cons (de_var 1) (da_cons (de_var 3) da_nil))) (fun _ _ _ _ _ _ us ws h1 h2 => match us, ws, h1, h2 with | [_, _, _], [], _, _ => ⟨rfl, rfl⟩))))) (fun _ _ _ _ _ => (de_var 3)))))),
    pf_law_deals⟩
theorem sc_is_rule_any : FnScope ["value", "word", "firsts", "top", "bottom", "one", "posts", "many", "near", "far", "post"] ["value"] (defScope S_is_rule_any) := ⟨rfl, rfl, rfl, by decide +kernel, rfl, by decide +kernel, by decide +kernel⟩
theorem has_is_rule_any (B : Bt mg) (C : Ct K mg) (h_is_tuple : Has P w K mg base 1 "is_tuple" S_is_tuple ["value", "many"] sp_is_tuple) (h_is_small : Has P w K mg base 3 "is_small" S_is_small ["value"] sp_is_small) (h_is_within : Has P w K mg base 2 "is_within" S_is_within ["value", "least", "most"] sp_is_within) (h_common : Has P w K mg base 1 "common" S_common ["near", "far"] sp_common) (h_signpost : Has P w K mg base 3 "signpost" S_signpost ["rule", "many"] sp_signpost) (h_is_less : Has P w K mg base 1 "is_less" S_is_less ["near", "far"] sp_is_less) (h_is_at_most : Has P w K mg base 1 "is_at_most" S_is_at_most ["near", "far"] sp_is_at_most) (T : Txt K mg "is_rule_any" S_is_rule_any) : Has P w K mg base 4 "is_rule_any" S_is_rule_any ["value"] sp_is_rule_any :=
  T.has sc_is_rule_any len_is_rule_any fun f cdv A outer s H hr hgd => ⟨db_is_rule_any,
    (dss_cons (ds_if (PWD.pt (dw_or (dt_not (dt_val (de_fn h_is_tuple (hr.mono (by decide)) hgd (da_cons (de_var 0) (da_cons de_int da_nil)) (fun _ _ _ _ _ _ us ws h1 h2 => match us, ws, h1, h2 with | [_, _], [], _, _ => ⟨rfl, rfl⟩)))) (dw_or (dt_not (dt_val (de_callB c_isi B.z_isinstance bt_isinstance (da_cons (de_ix (de_var 0) de_int) (da_cons (de_ty B.z_str bt_str) da_nil))))) (dw_or1 (dt_cmp (o_ne hr.units) (de_ix (de_var 0) de_int) (de_glob C.c_RULE)))))) (dss_one (ds_ret de_bl)) dss_nil) (dss_cons (ds_asg (de_var 0) (dg_tup (dgs_cons (dg_name 1 sc_is_rule_any.nd) (dgs_cons (dg_name 2 sc_is_rule_any.nd) (dgs_cons (dg_name 3 sc_is_rule_any.nd) (dgs_cons (dg_name 4 sc_is_rule_any.nd) dgs_nil)))))) (dss_cons (ds_if (PWD.pt (dw_or (dt_not (dt_val (de_callB c_isi B.z_isinstance bt_isinstance (da_cons (de_var 2) (da_cons (de_ty B.z_tuple bt_tuple) da_nil))))) (dw_or (dt_cmp o_gt (de_callB c_len B.z_len bt_len (da_cons (de_var 2) da_nil)) (de_glob C.c_MOST_FIRSTS)) (dw_or1 (dt_not (dt_val (de_ofB (s_all rfl) B.z_all bt_all (dl_lc [("one", 5)] sc_is_rule_any.nd (di_seq (de_var 2)) (own_name 5 fun _ _ _ _ _ => pg_name sc_is_rule_any.nd rfl (by first | exact Or.inl rfl | exact Or.inr rfl | exact Or.inr (Or.inl rfl))) (fun _ _ _ _ _ => dts_nil) (fun _ _ _ _ _ => (de_fn h_is_small (hr.mono (by decide)) hgd (da_cons (de_var 5) da_nil) (fun _ _ _ _ _ _ us ws h1 h2 => match us, ws, h1, h2 with | [_], [], _, _ => ⟨rfl, rfl⟩))))))))))) (dss_one (ds_ret de_bl)) dss_nil) (dss_cons (ds_if (PWD.pt (dw_or (dt_not (dt_val (de_fn h_is_within (hr.mono (by decide)) hgd (da_cons (de_var 4) (da_cons de_int (da_cons (de_glob C.c_MOST_BOTTOM) da_nil))) (fun _ _ _ _ _ _ us ws h1 h2 => match us, ws, h1, h2 with | [_, _, _], [], _, _ => ⟨rfl, rfl⟩)))) (dw_or (dt_not (dt_val (de_fn h_is_within (hr.mono (by decide)) hgd (da_cons (de_var 3) (da_cons de_int (da_cons (de_var 4) da_nil))) (fun _ _ _ _ _ _ us ws h1 h2 => match us, ws, h1, h2 with | [_, _, _], [], _, _ => ⟨rfl, rfl⟩)))) (dw_or1 (dt_cmp (o_ne hr.units) (de_fn h_common (hr.mono (by decide)) hgd (da_cons (de_var 3) (da_cons (de_var 4) da_nil)) (fun _ _ _ _ _ _ us ws h1 h2 => match us, ws, h1, h2 with | [_, _], [], _, _ => ⟨rfl, rfl⟩)) de_int))))) (dss_one (ds_ret de_bl)) dss_nil) (dss_cons (ds_setLc 6 [("many", 7)] sc_is_rule_any.nd (di_r1 B.z_range (da_cons (de_op o_plus (de_callB c_len B.z_len bt_len (da_cons (de_var 2) da_nil)) de_int) da_nil)) (own_name 7 fun _ _ _ _ _ => pg_name sc_is_rule_any.nd rfl (by first | exact Or.inl rfl | exact Or.inr rfl | exact Or.inr (Or.inl rfl))) (fun _ _ _ _ _ => dts_nil) (fun _ _ _ _ _ => (de_fn h_signpost (hr.mono (by decide)) hgd (da_cons (de_var 0) (da_cons (de_var 7) da_nil)) (fun _ _ _ _ _ _ us ws h1 h2 => match us, ws, h1, h2 with | [_, _], [], _, _ => ⟨rfl, rfl⟩)))) (dss_cons (ds_if (dt_not (dt_val (de_ofB (s_all rfl) B.z_all bt_all (dl_lc [("near", 8), ("far", 9)] sc_is_rule_any.nd (di_z2 B.z_zip (de_var 6) (de_slice (de_var 6) (do_some de_int) do_none)) (own_pair 8 9 fun _ _ _ _ _ => pg_tup rfl (pgs_cons (pg_name (i := 8) sc_is_rule_any.nd rfl (by first | exact Or.inl rfl | exact Or.inr rfl | exact Or.inr (Or.inl rfl))) (pgs_cons (pg_name (i := 9) sc_is_rule_any.nd rfl (by first | exact Or.inl rfl | exact Or.inr rfl | exact Or.inr (Or.inl rfl))) pgs_nil))) (fun _ _ _ _ _ => dts_nil) (fun _ _ _ _ _ => (de_fn h_is_less (hr.mono (by decide)) hgd (da_cons (de_var 8) (da_cons (de_var 9) da_nil)) (fun _ _ _ _ _ _ us ws h1 h2 => match us, ws, h1, h2 with | [_, _], [], _, _ => ⟨rfl, rfl⟩))))))) (dss_one (ds_ret de_bl)) dss_nil) (dss_one (ds_ret (de_ofB (s_all rfl) B.z_all bt_all (dl_lc [("many", 7), ("post", 10)] sc_is_rule_any.nd (di_enum2 B.z_enumerate (de_slice (de_var 6) (do_some de_int) do_none)) (own_pair 7 10 fun _ _ _ _ _ => pg_tup rfl (pgs_cons (pg_name (i := 7) sc_is_rule_any.nd rfl (by first | exact Or.inl rfl | exact Or.inr rfl | exact Or.inr (Or.inl rfl))) (pgs_cons (pg_name (i := 10) sc_is_rule_any.nd rfl (by first | exact Or.inl rfl | exact Or.inr rfl | exact Or.inr (Or.inl rfl))) pgs_nil))) (fun _ _ _ _ _ => dts_nil) (fun _ _ _ _ _ => (de_and (de_fn h_is_at_most (hr.mono (by decide)) hgd (da_cons (de_tup (da_cons (de_var 7) (da_cons de_int da_nil))) (da_cons (de_var 10) da_nil)) (fun _ _ _ _ _ _ us ws h1 h2 => match us, ws, h1, h2 with | [_, _], [], _, _ => ⟨rfl, rfl⟩)) (de_one (de_fn h_is_at_most (hr.mono (by decide)) hgd (da_cons (de_var 10) (da_cons (de_tup (da_cons (de_op o_plus (de_var 7) de_int) (da_cons de_int da_nil))) da_nil)) (fun _ _ _ _ _ _ us ws h1 h2 => match us, ws, h1, h2 with | [_, _], [], _, _ => ⟨rfl, rfl⟩))))))))))))))),
    pf_is_rule_any⟩
theorem sc_price_at : FnScope ["rule", "votes", "many", "post"] ["rule", "votes", "many"] (defScope S_price_at) := ⟨rfl, rfl, rfl, by decide +kernel, rfl, by decide +kernel, by decide +kernel⟩
theorem has_price_at (h_signpost : Has P w K mg base 3 "signpost" S_signpost ["rule", "many"] sp_signpost) (h_lowest : Has P w K mg base 2 "lowest" S_lowest ["top", "bottom"] sp_lowest) (T : Txt K mg "price_at" S_price_at) : Has P w K mg base 4 "price_at" S_price_at ["rule", "votes", "many"] sp_price_at :=
  T.has sc_price_at len_price_at fun f cdv A outer s H hr hgd => ⟨db_price_at,
    (dss_cons (ds_asg (de_fn h_signpost (hr.mono (by decide)) hgd (da_cons (de_var 0) (da_cons (de_var 2) da_nil)) (fun _ _ _ _ _ _ us ws h1 h2 => match us, ws, h1, h2 with | [_, _], [], _, _ => ⟨rfl, rfl⟩)) (dg_name 3 sc_price_at.nd)) (dss_one (ds_ret (de_fn h_lowest (hr.mono (by decide)) hgd (da_cons (de_op o_times (de_var 1) (de_ix (de_var 3) de_int)) (da_cons (de_ix (de_var 3) de_int) da_nil)) (fun _ _ _ _ _ _ us ws h1 h2 => match us, ws, h1, h2 with | [_, _], [], _, _ => ⟨rfl, rfl⟩))))),
    pf_price_at⟩
theorem sc_law_does_hold : FnScope ["rule", "votes", "house", "number", "told", "word", "seats", "is_more", "some", "deal"] ["rule", "votes", "house", "number", "told"] (defScope S_law_does_hold) := ⟨rfl, rfl, rfl, by decide +kernel, rfl, by decide +kernel, by decide +kernel⟩
theorem has_law_does_hold (B : Bt mg) (h_law_deals : Has P w K mg base 3 "_law_deals" S_law_deals ["rule", "votes", "house"] sp_law_deals) (T : Txt K mg "_law_does_hold" S_law_does_hold) : Has P w K mg base 4 "_law_does_hold" S_law_does_hold ["rule", "votes", "house", "number", "told"] sp_law_does_hold :=
  T.has sc_law_does_hold len_law_does_hold fun f cdv A outer s H hr hgd => ⟨db_law_does_hold,
    (dss_cons (ds_asg (de_var 4) (dg_tup (dgs_cons (dg_name 5 sc_law_does_hold.nd) (dgs_cons (dg_name 6 sc_law_does_hold.nd) (dgs_cons (dg_name 7 sc_law_does_hold.nd) dgs_nil))))) (dss_cons (ds_setLc 8 [("deal", 9)] sc_law_does_hold.nd (di_seq (de_fn h_law_deals (hr.mono (by decide)) hgd (da_cons (de_var 0) (da_cons (de_var 1) (da_cons (de_var 2) da_nil))) (fun _ _ _ _ _ _ us ws h1 h2 => match us, ws, h1, h2 with | [_, _, _], [], _, _ => ⟨rfl, rfl⟩))) (own_name 9 fun _ _ _ _ _ => pg_name sc_law_does_hold.nd rfl (by first | exact Or.inl rfl | exact Or.inr rfl | exact Or.inr (Or.inl rfl))) (fun _ _ _ _ _ => dts_nil) (fun _ _ _ _ _ => (de_if (dt_val (de_var 7)) (de_cmp o_ge (de_ix (de_var 9) (de_var 3)) (de_var 6)) (de_cmp o_le (de_ix (de_var 9) (de_var 3)) (de_var 6))))) (dss_one (ds_ret (de_and (de_cmp (o_ne hr.units) (de_var 8) (de_new (dl_lst da_nil))) (de_one (de_if (dt_cmp (o_eq hr.units) (de_var 5) de_str) (de_callB (s_any rfl).call B.z_any bt_any (da_cons (de_var 8) da_nil)) (de_callB (s_all rfl).call B.z_all bt_all (da_cons (de_var 8) da_nil))))))))),
    pf_law_does_hold⟩
theorem sc_is_race_any : FnScope ["value"] ["value"] (defScope S_is_race_any) := ⟨rfl, rfl, rfl, by decide +kernel, rfl, by decide +kernel, by decide +kernel⟩
theorem has_is_race_any (B : Bt mg) (C : Ct K mg) (h_is_tuple : Has P w K mg base 1 "is_tuple" S_is_tuple ["value", "many"] sp_is_tuple) (h_is_rule_any : Has P w K mg base 4 "is_rule_any" S_is_rule_any ["value"] sp_is_rule_any) (h_is_row_of_votes : Has P w K mg base 3 "is_row_of_votes" S_is_row_of_votes ["value"] sp_is_row_of_votes) (h_is_within : Has P w K mg base 2 "is_within" S_is_within ["value", "least", "most"] sp_is_within) (T : Txt K mg "is_race_any" S_is_race_any) : Has P w K mg base 5 "is_race_any" S_is_race_any ["value"] sp_is_race_any :=
  T.has sc_is_race_any len_is_race_any fun f cdv A outer s H hr hgd => ⟨db_is_race_any,
    (dss_cons (ds_if (PWD.pt (dw_or (dt_not (dt_val (de_fn h_is_tuple (hr.mono (by decide)) hgd (da_cons (de_var 0) (da_cons de_int da_nil)) (fun _ _ _ _ _ _ us ws h1 h2 => match us, ws, h1, h2 with | [_, _], [], _, _ => ⟨rfl, rfl⟩)))) (dw_or (dt_not (dt_val (de_callB c_isi B.z_isinstance bt_isinstance (da_cons (de_ix (de_var 0) de_int) (da_cons (de_ty B.z_str bt_str) da_nil))))) (dw_or (dt_cmp (o_ne hr.units) (de_ix (de_var 0) de_int) (de_glob C.c_RACE)) (dw_or1 (dt_not (dt_val (de_fn h_is_rule_any (hr.mono (by decide)) hgd (da_cons (de_ix (de_var 0) de_int) da_nil) (fun _ _ _ _ _ _ us ws h1 h2 => match us, ws, h1, h2 with | [_], [], _, _ => ⟨rfl, rfl⟩))))))))) (dss_one (ds_ret de_bl)) dss_nil) (dss_one (ds_ret (de_and (de_fn h_is_row_of_votes (hr.mono (by decide)) hgd (da_cons (de_ix (de_var 0) de_int) da_nil) (fun _ _ _ _ _ _ us ws h1 h2 => match us, ws, h1, h2 with | [_], [], _, _ => ⟨rfl, rfl⟩)) (de_one (de_fn h_is_within (hr.mono (by decide)) hgd (da_cons (de_ix (de_var 0) de_int) (da_cons de_int (da_cons (de_glob C.c_MOST_HOUSE) da_nil))) (fun _ _ _ _ _ _ us ws h1 h2 => match us, ws, h1, h2 with | [_, _, _], [], _, _ => ⟨rfl, rfl⟩))))))),
    pf_is_race_any⟩
theorem sc_deal_with : FnScope ["rule", "votes", "house", "number", "is_first", "order", "at", "found", "prices", "one", "turn", "best"] ["rule", "votes", "house", "number", "is_first"] (defScope S_deal_with) := ⟨rfl, rfl, rfl, by decide +kernel, rfl, by decide +kernel, by decide +kernel⟩
theorem has_deal_with (B : Bt mg) (h_price_at : Has P w K mg base 4 "price_at" S_price_at ["rule", "votes", "many"] sp_price_at) (h_is_less : Has P w K mg base 1 "is_less" S_is_less ["near", "far"] sp_is_less) (T : Txt K mg "deal_with" S_deal_with) : Has P w K mg base 5 "deal_with" S_deal_with ["rule", "votes", "house", "number", "is_first"] sp_deal_with :=
  T.has sc_deal_with len_deal_with fun f cdv A outer s H hr hgd => ⟨db_deal_with,
    (dss_cons (ds_if (PWD.pt (dw_and (dt_cmp o_gt (de_var 2) de_int) (dw_and1 (dt_cmp (o_eq hr.units) (de_callB (s_max2 rfl).call B.z_max bt_max (da_cons (de_var 1) da_nil)) de_int)))) (dss_one (ds_ret de_non)) dss_nil) (dss_cons (ds_setLc 5 [("at", 6)] sc_deal_with.nd (di_r1 B.z_range (da_cons (de_callB c_len B.z_len bt_len (da_cons (de_var 1) da_nil)) da_nil)) (own_name 6 fun _ _ _ _ _ => pg_name sc_deal_with.nd rfl (by first | exact Or.inl rfl | exact Or.inr rfl | exact Or.inr (Or.inl rfl))) (fun _ _ _ _ _ => (dts_one (dt_cmp (o_ne hr.units) (de_var 6) (de_var 3)))) (fun _ _ _ _ _ => (de_var 6))) (dss_cons (ds_asg (de_if (dt_val (de_var 4)) (de_op o_plus (de_new (dl_lst (da_cons (de_var 3) da_nil))) (de_var 5)) (de_op o_plus (de_var 5) (de_new (dl_lst (da_cons (de_var 3) da_nil))))) (dg_name 5 sc_deal_with.nd)) (dss_cons (ds_par 7 8 sc_deal_with.nd (da_cons (de_op o_times (de_new (dl_lst (da_cons de_int da_nil))) (de_callB c_len B.z_len bt_len (da_cons (de_var 1) da_nil))) (da_cons (de_new (dl_lc [("one", 9)] sc_deal_with.nd (di_seq (de_var 1)) (own_name 9 fun _ _ _ _ _ => pg_name sc_deal_with.nd rfl (by first | exact Or.inl rfl | exact Or.inr rfl | exact Or.inr (Or.inl rfl))) (fun _ _ _ _ _ => dts_nil) (fun _ _ _ _ _ => (de_fn h_price_at (hr.mono (by decide)) hgd (da_cons (de_var 0) (da_cons (de_var 9) (da_cons de_int da_nil))) (fun _ _ _ _ _ _ us ws h1 h2 => match us, ws, h1, h2 with | [_, _, _], [], _, _ => ⟨rfl, rfl⟩))))) da_nil))) (dss_cons (ds_for (di_r1 B.z_range (da_cons (de_var 2) da_nil)) (dg_name 10 sc_deal_with.nd) (dss_cons (ds_asg (de_ix (de_var 5) de_int) (dg_name 11 sc_deal_with.nd)) (dss_cons (ds_for (di_seq (de_slice (de_var 5) (do_some de_int) do_none)) (dg_name 9 sc_deal_with.nd) (dss_one (ds_if (dt_val (de_fn h_is_less (hr.mono (by decide)) hgd (da_cons (de_ix (de_var 8) (de_var 11)) (da_cons (de_ix (de_var 8) (de_var 9)) da_nil)) (fun _ _ _ _ _ _ us ws h1 h2 => match us, ws, h1, h2 with | [_, _], [], _, _ => ⟨rfl, rfl⟩))) (dss_one (ds_asg (de_var 9) (dg_name 11 sc_deal_with.nd))) dss_nil))) (dss_cons (ds_asg (de_op o_plus (de_ix (de_var 7) (de_var 11)) de_int) (dg_sub (de_var 7) (de_var 11))) (dss_one (ds_asg (de_fn h_price_at (hr.mono (by decide)) hgd (da_cons (de_var 0) (da_cons (de_ix (de_var 1) (de_var 11)) (da_cons (de_op o_plus (de_ix (de_var 7) (de_var 11)) de_int) da_nil))) (fun _ _ _ _ _ _ us ws h1 h2 => match us, ws, h1, h2 with | [_, _, _], [], _, _ => ⟨rfl, rfl⟩)) (dg_sub (de_var 8) (de_var 11)))))))) (dss_one (ds_ret (de_callTy s_tup.call B.z_tuple bt_tuple (da_cons (de_var 7) da_nil))))))))),
    pf_deal_with⟩
theorem sc_law_first : FnScope ["rule", "rows", "house", "number", "told", "at", "votes"] ["rule", "rows", "house", "number", "told"] (defScope S_law_first) := ⟨rfl, rfl, rfl, by decide +kernel, rfl, by decide +kernel, by decide +kernel⟩
theorem has_law_first (B : Bt mg) (h_law_does_hold : Has P w K mg base 4 "_law_does_hold" S_law_does_hold ["rule", "votes", "house", "number", "told"] sp_law_does_hold) (T : Txt K mg "_law_first" S_law_first) : Has P w K mg base 5 "_law_first" S_law_first ["rule", "rows", "house", "number", "told"] sp_law_first :=
  T.has sc_law_first len_law_first fun f cdv A outer s H hr hgd => ⟨db_law_first,
    (dss_cons (ds_for (di_enum2 B.z_enumerate (de_var 1)) (dg_tup (dgs_cons (dg_name 5 sc_law_first.nd) (dgs_cons (dg_name 6 sc_law_first.nd) dgs_nil))) (dss_one (ds_if (dt_val (de_fn h_law_does_hold (hr.mono (by decide)) hgd (da_cons (de_var 0) (da_cons (de_var 6) (da_cons (de_var 2) (da_cons (de_var 3) (da_cons (de_var 4) da_nil))))) (fun _ _ _ _ _ _ us ws h1 h2 => match us, ws, h1, h2 with | [_, _, _, _, _], [], _, _ => ⟨rfl, rfl⟩))) (dss_one (ds_ret (de_var 5))) dss_nil))) (dss_one (ds_ret de_non))),
    pf_law_first⟩
theorem sc_want_race : FnScope ["race"] ["race"] (defScope S_want_race) := ⟨rfl, rfl, rfl, by decide +kernel, rfl, by decide +kernel, by decide +kernel⟩
theorem has_want_race (h_is_race_any : Has P w K mg base 5 "is_race_any" S_is_race_any ["value"] sp_is_race_any) (T : Txt K mg "want_race" S_want_race) : Has P w K mg base 6 "want_race" S_want_race ["race"] sp_want_race :=
  T.has sc_want_race len_want_race fun f cdv A outer s H hr hgd => ⟨db_want_race,
    (dss_one (ds_if (dt_not (dt_val (de_fn h_is_race_any (hr.mono (by decide)) hgd (da_cons (de_var 0) da_nil) (fun _ _ _ _ _ _ us ws h1 h2 => match us, ws, h1, h2 with | [_], [], _, _ => ⟨rfl, rfl⟩)))) (dss_one ds_never) dss_nil)),
    pf_want_race⟩
theorem sc_other_price : FnScope ["race", "number", "many", "word", "rule", "votes", "house", "others", "deal", "late", "at", "one"] ["race", "number", "many"] (defScope S_other_price) := ⟨rfl, rfl, rfl, by decide +kernel, rfl, by decide +kernel, by decide +kernel⟩
theorem has_other_price (B : Bt mg) (h_deal_with : Has P w K mg base 5 "deal_with" S_deal_with ["rule", "votes", "house", "number", "is_first"] sp_deal_with) (h_price_at : Has P w K mg base 4 "price_at" S_price_at ["rule", "votes", "many"] sp_price_at) (T : Txt K mg "other_price" S_other_price) : Has P w K mg base 6 "other_price" S_other_price ["race", "number", "many"] sp_other_price :=
  T.has sc_other_price len_other_price fun f cdv A outer s H hr hgd => ⟨db_other_price,
    (dss_cons (ds_asg (de_var 0) (dg_tup (dgs_cons (dg_name 3 sc_other_price.nd) (dgs_cons (dg_name 4 sc_other_price.nd) (dgs_cons (dg_name 5 sc_other_price.nd) (dgs_cons (dg_name 6 sc_other_price.nd) dgs_nil)))))) (dss_cons (ds_asg (de_op o_plus (de_slice (de_var 5) do_none (do_some (de_var 1))) (de_slice (de_var 5) (do_some (de_op o_plus (de_var 1) de_int)) do_none)) (dg_name 7 sc_other_price.nd)) (dss_cons (ds_if (PWD.pt (dw_or (dt_cmp (o_eq hr.units) (de_var 7) (de_tup da_nil)) (dw_or1 (dt_cmp (o_eq hr.units) (de_callB (s_max2 rfl).call B.z_max bt_max (da_cons (de_var 7) da_nil)) de_int)))) (dss_one (ds_ret (de_tup (da_cons de_int (da_cons de_int da_nil))))) dss_nil) (dss_cons (ds_asg (de_fn h_deal_with (hr.mono (by decide)) hgd (da_cons (de_var 4) (da_cons (de_var 7) (da_cons (de_var 2) (da_cons de_int (da_cons de_bl da_nil))))) (fun _ _ _ _ _ _ us ws h1 h2 => match us, ws, h1, h2 with | [_, _, _, _, _], [], _, _ => ⟨rfl, rfl⟩)) (dg_name 8 sc_other_price.nd)) (dss_cons (ds_asg (de_fn h_deal_with (hr.mono (by decide)) hgd (da_cons (de_var 4) (da_cons (de_var 7) (da_cons (de_op o_sub (de_var 2) de_int) (da_cons de_int (da_cons de_bl da_nil))))) (fun _ _ _ _ _ _ us ws h1 h2 => match us, ws, h1, h2 with | [_, _, _, _, _], [], _, _ => ⟨rfl, rfl⟩)) (dg_name 9 sc_other_price.nd)) (dss_cons (ds_asg (de_ix (de_new (dl_lc [("one", 11)] sc_other_price.nd (di_r1 B.z_range (da_cons (de_callB c_len B.z_len bt_len (da_cons (de_var 7) da_nil)) da_nil)) (own_name 11 fun _ _ _ _ _ => pg_name sc_other_price.nd rfl (by first | exact Or.inl rfl | exact Or.inr rfl | exact Or.inr (Or.inl rfl))) (fun _ _ _ _ _ => (dts_one (dt_cmp o_gt (de_ix (de_var 8) (de_var 11)) (de_ix (de_var 9) (de_var 11))))) (fun _ _ _ _ _ => (de_var 11)))) de_int) (dg_name 10 sc_other_price.nd)) (dss_one (ds_ret (de_fn h_price_at (hr.mono (by decide)) hgd (da_cons (de_var 4) (da_cons (de_ix (de_var 7) (de_var 10)) (da_cons (de_ix (de_var 8) (de_var 10)) da_nil))) (fun _ _ _ _ _ _ us ws h1 h2 => match us, ws, h1, h2 with | [_, _, _], [], _, _ => ⟨rfl, rfl⟩)))))))))),
    pf_other_price⟩
theorem sc_ends_of : FnScope ["race", "number", "word", "rule", "votes", "house", "is_first"] ["race", "number"] (defScope S_ends_of) := ⟨rfl, rfl, rfl, by decide +kernel, rfl, by decide +kernel, by decide +kernel⟩
theorem has_ends_of (B : Bt mg) (h_deal_with : Has P w K mg base 5 "deal_with" S_deal_with ["rule", "votes", "house", "number", "is_first"] sp_deal_with) (T : Txt K mg "ends_of" S_ends_of) : Has P w K mg base 6 "ends_of" S_ends_of ["race", "number"] sp_ends_of :=
  T.has sc_ends_of len_ends_of fun f cdv A outer s H hr hgd => ⟨db_ends_of,
    (dss_cons (ds_asg (de_var 0) (dg_tup (dgs_cons (dg_name 2 sc_ends_of.nd) (dgs_cons (dg_name 3 sc_ends_of.nd) (dgs_cons (dg_name 4 sc_ends_of.nd) (dgs_cons (dg_name 5 sc_ends_of.nd) dgs_nil)))))) (dss_cons (ds_if (PWD.pt (dw_and (dt_cmp o_gt (de_var 5) de_int) (dw_and1 (dt_cmp (o_eq hr.units) (de_callB (s_max2 rfl).call B.z_max bt_max (da_cons (de_var 4) da_nil)) de_int)))) (dss_one (ds_ret de_non)) dss_nil) (dss_one (ds_ret (de_ofTy s_tup B.z_tuple bt_tuple (dl_lc [("is_first", 6)] sc_ends_of.nd (di_seq (de_tup (da_cons de_bl (da_cons de_bl da_nil)))) (own_name 6 fun _ _ _ _ _ => pg_name sc_ends_of.nd rfl (by first | exact Or.inl rfl | exact Or.inr rfl | exact Or.inr (Or.inl rfl))) (fun _ _ _ _ _ => dts_nil) (fun _ _ _ _ _ => (de_ix (de_fn h_deal_with (hr.mono (by decide)) hgd (da_cons (de_var 3) (da_cons (de_var 4) (da_cons (de_var 5) (da_cons (de_var 1) (da_cons (de_var 6) da_nil))))) (fun _ _ _ _ _ _ us ws h1 h2 => match us, ws, h1, h2 with | [_, _, _, _, _], [], _, _ => ⟨rfl, rfl⟩)) (de_var 1))))))))),
    pf_ends_of⟩
theorem sc_want_list : FnScope ["race", "number"] ["race", "number"] (defScope S_want_list) := ⟨rfl, rfl, rfl, by decide +kernel, rfl, by decide +kernel, by decide +kernel⟩
theorem has_want_list (B : Bt mg) (h_want_race : Has P w K mg base 6 "want_race" S_want_race ["race"] sp_want_race) (h_is_within : Has P w K mg base 2 "is_within" S_is_within ["value", "least", "most"] sp_is_within) (T : Txt K mg "want_list" S_want_list) : Has P w K mg base 7 "want_list" S_want_list ["race", "number"] sp_want_list :=
  T.has sc_want_list len_want_list fun f cdv A outer s H hr hgd => ⟨db_want_list,
    (dss_cons (ds_expr (de_fn h_want_race (hr.mono (by decide)) hgd (da_cons (de_var 0) da_nil) (fun _ _ _ _ _ _ us ws h1 h2 => match us, ws, h1, h2 with | [_], [], _, _ => ⟨rfl, rfl⟩))) (dss_one (ds_if (dt_not (dt_val (de_fn h_is_within (hr.mono (by decide)) hgd (da_cons (de_var 1) (da_cons de_int (da_cons (de_op o_sub (de_callB c_len B.z_len bt_len (da_cons (de_ix (de_var 0) de_int) da_nil)) de_int) da_nil))) (fun _ _ _ _ _ _ us ws h1 h2 => match us, ws, h1, h2 with | [_, _, _], [], _, _ => ⟨rfl, rfl⟩)))) (dss_one ds_never) dss_nil))),
    pf_want_list⟩
theorem sc_least_votes_for : FnScope ["race", "number", "seats", "word", "others", "price", "post", "top", "bottom"] ["race", "number", "seats", "word"] (defScope S_least_votes_for) := ⟨rfl, rfl, rfl, by decide +kernel, rfl, by decide +kernel, by decide +kernel⟩
theorem has_least_votes_for (B : Bt mg) (C : Ct K mg) (h_signpost : Has P w K mg base 3 "signpost" S_signpost ["rule", "many"] sp_signpost) (h_other_price : Has P w K mg base 6 "other_price" S_other_price ["race", "number", "many"] sp_other_price) (T : Txt K mg "least_votes_for" S_least_votes_for) : Has P w K mg base 7 "least_votes_for" S_least_votes_for ["race", "number", "seats", "word"] sp_least_votes_for :=
  T.has sc_least_votes_for len_least_votes_for fun f cdv A outer s H hr hgd => ⟨db_least_votes_for,
    (dss_cons (ds_asg (de_op o_plus (de_slice (de_ix (de_var 0) de_int) do_none (do_some (de_var 1))) (de_slice (de_ix (de_var 0) de_int) (do_some (de_op o_plus (de_var 1) de_int)) do_none)) (dg_name 4 sc_least_votes_for.nd)) (dss_cons (ds_if (dt_cmp (o_eq hr.units) (de_var 2) de_int) (dss_one (ds_ret (de_if (PWD.pt (dw_or (dt_cmp (o_eq hr.units) (de_ix (de_var 0) de_int) de_int) (dw_or1 (dt_cmp o_gt (de_callB (s_max2 rfl).call B.z_max bt_max (da_cons (de_op o_plus (de_tup (da_cons de_int da_nil)) (de_var 4)) da_nil)) de_int)))) de_int de_int))) dss_nil) (dss_cons (ds_par 5 6 sc_least_votes_for.nd (da_cons (de_fn h_other_price (hr.mono (by decide)) hgd (da_cons (de_var 0) (da_cons (de_var 1) (da_cons (de_op o_plus (de_op o_sub (de_ix (de_var 0) de_int) (de_var 2)) de_int) da_nil))) (fun _ _ _ _ _ _ us ws h1 h2 => match us, ws, h1, h2 with | [_, _, _], [], _, _ => ⟨rfl, rfl⟩)) (da_cons (de_fn h_signpost (hr.mono (by decide)) hgd (da_cons (de_ix (de_var 0) de_int) (da_cons (de_var 2) da_nil)) (fun _ _ _ _ _ _ us ws h1 h2 => match us, ws, h1, h2 with | [_, _], [], _, _ => ⟨rfl, rfl⟩)) da_nil))) (dss_cons (ds_par 7 8 sc_least_votes_for.nd (da_cons (de_op o_times (de_ix (de_var 5) de_int) (de_ix (de_var 6) de_int)) (da_cons (de_op o_times (de_ix (de_var 5) de_int) (de_ix (de_var 6) de_int)) da_nil))) (dss_one (ds_ret (de_if (dt_cmp (o_eq hr.units) (de_var 3) (de_glob C.c_SOME)) (de_callB (c_max rfl) B.z_max bt_max (da_cons de_int (da_cons (de_op o_sub de_int (de_op o_div (de_op o_sub de_int (de_var 7)) (de_var 8))) da_nil))) (de_op o_plus (de_op o_div (de_var 7) (de_var 8)) de_int)))))))),
    pf_least_votes_for⟩
theorem sc_most_votes_for : FnScope ["race", "number", "seats", "word", "price", "post", "top", "bottom"] ["race", "number", "seats", "word"] (defScope S_most_votes_for) := ⟨rfl, rfl, rfl, by decide +kernel, rfl, by decide +kernel, by decide +kernel⟩
theorem has_most_votes_for (C : Ct K mg) (h_signpost : Has P w K mg base 3 "signpost" S_signpost ["rule", "many"] sp_signpost) (h_other_price : Has P w K mg base 6 "other_price" S_other_price ["race", "number", "many"] sp_other_price) (T : Txt K mg "most_votes_for" S_most_votes_for) : Has P w K mg base 7 "most_votes_for" S_most_votes_for ["race", "number", "seats", "word"] sp_most_votes_for :=
  T.has sc_most_votes_for len_most_votes_for fun f cdv A outer s H hr hgd => ⟨db_most_votes_for,
    (dss_cons (ds_par 4 5 sc_most_votes_for.nd (da_cons (de_fn h_other_price (hr.mono (by decide)) hgd (da_cons (de_var 0) (da_cons (de_var 1) (da_cons (de_op o_sub (de_ix (de_var 0) de_int) (de_var 2)) da_nil))) (fun _ _ _ _ _ _ us ws h1 h2 => match us, ws, h1, h2 with | [_, _, _], [], _, _ => ⟨rfl, rfl⟩)) (da_cons (de_fn h_signpost (hr.mono (by decide)) hgd (da_cons (de_ix (de_var 0) de_int) (da_cons (de_op o_plus (de_var 2) de_int) da_nil)) (fun _ _ _ _ _ _ us ws h1 h2 => match us, ws, h1, h2 with | [_, _], [], _, _ => ⟨rfl, rfl⟩)) da_nil))) (dss_cons (ds_if (dt_cmp (o_eq hr.units) (de_ix (de_var 4) de_int) de_int) (dss_one (ds_ret (de_op o_sub de_int de_int))) dss_nil) (dss_cons (ds_par 6 7 sc_most_votes_for.nd (da_cons (de_op o_times (de_ix (de_var 4) de_int) (de_ix (de_var 5) de_int)) (da_cons (de_op o_times (de_ix (de_var 4) de_int) (de_ix (de_var 5) de_int)) da_nil))) (dss_one (ds_ret (de_if (dt_cmp (o_eq hr.units) (de_var 3) (de_glob C.c_SOME)) (de_op o_div (de_var 6) (de_var 7)) (de_op o_sub (de_op o_sub de_int (de_op o_div (de_op o_sub de_int (de_var 6)) (de_var 7))) de_int))))))),
    pf_most_votes_for⟩
theorem sc_does_hold : FnScope ["race", "number", "seats", "word", "ends"] ["race", "number", "seats", "word"] (defScope S_does_hold) := ⟨rfl, rfl, rfl, by decide +kernel, rfl, by decide +kernel, by decide +kernel⟩
theorem has_does_hold (C : Ct K mg) (h_ends_of : Has P w K mg base 6 "ends_of" S_ends_of ["race", "number"] sp_ends_of) (T : Txt K mg "does_hold" S_does_hold) : Has P w K mg base 7 "does_hold" S_does_hold ["race", "number", "seats", "word"] sp_does_hold :=
  T.has sc_does_hold len_does_hold fun f cdv A outer s H hr hgd => ⟨db_does_hold,
    (dss_cons (ds_asg (de_fn h_ends_of (hr.mono (by decide)) hgd (da_cons (de_var 0) (da_cons (de_var 1) da_nil)) (fun _ _ _ _ _ _ us ws h1 h2 => match us, ws, h1, h2 with | [_, _], [], _, _ => ⟨rfl, rfl⟩)) (dg_name 4 sc_does_hold.nd)) (dss_one (ds_ret (de_and (de_cmp o_not2 (de_var 4) de_non) (de_one (de_cmp o_ge (de_ix (de_var 4) (de_if (dt_cmp (o_eq hr.units) (de_var 3) (de_glob C.c_SOME)) de_int de_int)) (de_var 2))))))),
    pf_does_hold⟩
theorem sc_more_votes : FnScope ["race", "number", "seats", "word", "late"] ["race", "number", "seats", "word"] (defScope S_more_votes) := ⟨rfl, rfl, rfl, by decide +kernel, rfl, by decide +kernel, by decide +kernel⟩
theorem has_more_votes (B : Bt mg) (C : Ct K mg) (h_least_votes_for : Has P w K mg base 7 "least_votes_for" S_least_votes_for ["race", "number", "seats", "word"] sp_least_votes_for) (T : Txt K mg "more_votes" S_more_votes) : Has P w K mg base 8 "more_votes" S_more_votes ["race", "number", "seats", "word"] sp_more_votes :=
  T.has sc_more_votes len_more_votes fun f cdv A outer s H hr hgd => ⟨db_more_votes,
    (dss_cons (ds_asg (de_fn h_least_votes_for (hr.mono (by decide)) hgd (da_cons (de_var 0) (da_cons (de_var 1) (da_cons (de_var 2) (da_cons (de_var 3) da_nil)))) (fun _ _ _ _ _ _ us ws h1 h2 => match us, ws, h1, h2 with | [_, _, _, _], [], _, _ => ⟨rfl, rfl⟩)) (dg_name 4 sc_more_votes.nd)) (dss_one (ds_ret (de_if (dt_cmp o_le (de_var 4) (de_glob C.c_MOST_VOTES)) (de_callB (c_max rfl) B.z_max bt_max (da_cons de_int (da_cons (de_op o_sub (de_var 4) (de_ix (de_ix (de_var 0) de_int) (de_var 1))) da_nil))) de_non)))),
    pf_more_votes⟩
theorem sc_less_votes : FnScope ["race", "number", "seats", "word", "late"] ["race", "number", "seats", "word"] (defScope S_less_votes) := ⟨rfl, rfl, rfl, by decide +kernel, rfl, by decide +kernel, by decide +kernel⟩
theorem has_less_votes (B : Bt mg) (h_most_votes_for : Has P w K mg base 7 "most_votes_for" S_most_votes_for ["race", "number", "seats", "word"] sp_most_votes_for) (T : Txt K mg "less_votes" S_less_votes) : Has P w K mg base 8 "less_votes" S_less_votes ["race", "number", "seats", "word"] sp_less_votes :=
  T.has sc_less_votes len_less_votes fun f cdv A outer s H hr hgd => ⟨db_less_votes,
    (dss_cons (ds_if (dt_cmp (o_eq hr.units) (de_var 2) (de_ix (de_var 0) de_int)) (dss_one (ds_ret (de_if (PWD.pt (dw_or (dt_cmp (o_eq hr.units) (de_ix (de_var 0) de_int) de_int) (dw_or1 (dt_cmp o_gt (de_callB (s_max2 rfl).call B.z_max bt_max (da_cons (de_ix (de_var 0) de_int) da_nil)) de_int)))) de_int de_non))) dss_nil) (dss_cons (ds_asg (de_fn h_most_votes_for (hr.mono (by decide)) hgd (da_cons (de_var 0) (da_cons (de_var 1) (da_cons (de_var 2) (da_cons (de_var 3) da_nil)))) (fun _ _ _ _ _ _ us ws h1 h2 => match us, ws, h1, h2 with | [_, _, _, _], [], _, _ => ⟨rfl, rfl⟩)) (dg_name 4 sc_less_votes.nd)) (dss_one (ds_ret (de_if (dt_cmp o_ge (de_var 4) de_int) (de_callB (c_max rfl) B.z_max bt_max (da_cons de_int (da_cons (de_op o_sub (de_ix (de_ix (de_var 0) de_int) (de_var 1)) (de_var 4)) da_nil))) de_non))))),
    pf_less_votes⟩
theorem sc_moved_votes : FnScope ["race", "ends", "seats", "word", "number", "further", "low", "high", "middle"] ["race", "ends", "seats", "word"] (defScope S_moved_votes) := ⟨rfl, rfl, rfl, by decide +kernel, rfl, by decide +kernel, by decide +kernel⟩
theorem has_moved_votes (B : Bt mg) (C : Ct K mg) (h_with_moved : Has P w K mg base 2 "with_moved" S_with_moved ["race", "number", "further", "many"] sp_with_moved) (h_does_hold : Has P w K mg base 7 "does_hold" S_does_hold ["race", "number", "seats", "word"] sp_does_hold) (T : Txt K mg "moved_votes" S_moved_votes) : Has P w K mg base 8 "moved_votes" S_moved_votes ["race", "ends", "seats", "word"] sp_moved_votes :=
  T.has sc_moved_votes len_moved_votes fun f cdv A outer s H hr hgd => ⟨db_moved_votes,
    (dss_cons (ds_asg (de_var 1) (dg_tup (dgs_cons (dg_name 4 sc_moved_votes.nd) (dgs_cons (dg_name 5 sc_moved_votes.nd) dgs_nil)))) (dss_cons (ds_par 6 7 sc_moved_votes.nd (da_cons (de_op o_sub de_int de_int) (da_cons (de_callB (c_min rfl) B.z_min bt_min (da_cons (de_ix (de_ix (de_var 0) de_int) (de_var 5)) (da_cons (de_op o_sub (de_glob C.c_MOST_VOTES) (de_ix (de_ix (de_var 0) de_int) (de_var 4))) da_nil))) da_nil))) (dss_cons (ds_if (dt_not (dt_val (de_fn h_does_hold (hr.mono (by decide)) hgd (da_cons (de_fn h_with_moved (hr.mono (by decide)) hgd (da_cons (de_var 0) (da_cons (de_var 4) (da_cons (de_var 5) (da_cons (de_var 7) da_nil)))) (fun _ _ _ _ _ _ us ws h1 h2 => match us, ws, h1, h2 with | [_, _, _, _], [], _, _ => ⟨rfl, rfl⟩)) (da_cons (de_var 4) (da_cons (de_var 2) (da_cons (de_var 3) da_nil)))) (fun _ _ _ _ _ _ us ws h1 h2 => match us, ws, h1, h2 with | [_, _, _, _], [], _, _ => ⟨rfl, rfl⟩)))) (dss_one (ds_ret de_non)) dss_nil) (dss_cons (ds_while (dt_cmp o_gt (de_op o_sub (de_var 7) (de_var 6)) de_int) (dss_cons (ds_asg (de_op o_div (de_op o_plus (de_var 6) (de_var 7)) de_int) (dg_name 8 sc_moved_votes.nd)) (dss_one (ds_if (dt_val (de_fn h_does_hold (hr.mono (by decide)) hgd (da_cons (de_fn h_with_moved (hr.mono (by decide)) hgd (da_cons (de_var 0) (da_cons (de_var 4) (da_cons (de_var 5) (da_cons (de_var 8) da_nil)))) (fun _ _ _ _ _ _ us ws h1 h2 => match us, ws, h1, h2 with | [_, _, _, _], [], _, _ => ⟨rfl, rfl⟩)) (da_cons (de_var 4) (da_cons (de_var 2) (da_cons (de_var 3) da_nil)))) (fun _ _ _ _ _ _ us ws h1 h2 => match us, ws, h1, h2 with | [_, _, _, _], [], _, _ => ⟨rfl, rfl⟩))) (dss_one (ds_asg (de_var 8) (dg_name 7 sc_moved_votes.nd))) (dss_one (ds_asg (de_var 8) (dg_name 6 sc_moved_votes.nd))))))) (dss_one (ds_ret (de_var 7))))))),
    pf_moved_votes⟩
theorem sc_fewest_more : FnScope ["race", "number", "seats", "word"] ["race", "number", "seats", "word"] (defScope S_fewest_more) := ⟨rfl, rfl, rfl, by decide +kernel, rfl, by decide +kernel, by decide +kernel⟩
theorem has_fewest_more (h_want_list : Has P w K mg base 7 "want_list" S_want_list ["race", "number"] sp_want_list) (h_want_goal : Has P w K mg base 3 "want_goal" S_want_goal ["race", "seats", "word"] sp_want_goal) (h_more_votes : Has P w K mg base 8 "more_votes" S_more_votes ["race", "number", "seats", "word"] sp_more_votes) (T : Txt K mg "fewest_more" S_fewest_more) : Has P w K mg base 9 "fewest_more" S_fewest_more ["race", "number", "seats", "word"] sp_fewest_more :=
  T.has sc_fewest_more len_fewest_more fun f cdv A outer s H hr hgd => ⟨db_fewest_more,
    (dss_cons (ds_expr (de_fn h_want_list (hr.mono (by decide)) hgd (da_cons (de_var 0) (da_cons (de_var 1) da_nil)) (fun _ _ _ _ _ _ us ws h1 h2 => match us, ws, h1, h2 with | [_, _], [], _, _ => ⟨rfl, rfl⟩))) (dss_cons (ds_expr (de_fn h_want_goal (hr.mono (by decide)) hgd (da_cons (de_var 0) (da_cons (de_var 2) (da_cons (de_var 3) da_nil))) (fun _ _ _ _ _ _ us ws h1 h2 => match us, ws, h1, h2 with | [_, _, _], [], _, _ => ⟨rfl, rfl⟩))) (dss_one (ds_ret (de_fn h_more_votes (hr.mono (by decide)) hgd (da_cons (de_var 0) (da_cons (de_var 1) (da_cons (de_var 2) (da_cons (de_var 3) da_nil)))) (fun _ _ _ _ _ _ us ws h1 h2 => match us, ws, h1, h2 with | [_, _, _, _], [], _, _ => ⟨rfl, rfl⟩)))))),
    pf_fewest_more⟩
theorem sc_fewest_less : FnScope ["race", "number", "seats", "word"] ["race", "number", "seats", "word"] (defScope S_fewest_less) := ⟨rfl, rfl, rfl, by decide +kernel, rfl, by decide +kernel, by decide +kernel⟩
theorem has_fewest_less (h_want_list : Has P w K mg base 7 "want_list" S_want_list ["race", "number"] sp_want_list) (h_want_goal : Has P w K mg base 3 "want_goal" S_want_goal ["race", "seats", "word"] sp_want_goal) (h_less_votes : Has P w K mg base 8 "less_votes" S_less_votes ["race", "number", "seats", "word"] sp_less_votes) (T : Txt K mg "fewest_less" S_fewest_less) : Has P w K mg base 9 "fewest_less" S_fewest_less ["race", "number", "seats", "word"] sp_fewest_less :=
  T.has sc_fewest_less len_fewest_less fun f cdv A outer s H hr hgd => ⟨db_fewest_less,
    (dss_cons (ds_expr (de_fn h_want_list (hr.mono (by decide)) hgd (da_cons (de_var 0) (da_cons (de_var 1) da_nil)) (fun _ _ _ _ _ _ us ws h1 h2 => match us, ws, h1, h2 with | [_, _], [], _, _ => ⟨rfl, rfl⟩))) (dss_cons (ds_expr (de_fn h_want_goal (hr.mono (by decide)) hgd (da_cons (de_var 0) (da_cons (de_var 2) (da_cons (de_var 3) da_nil))) (fun _ _ _ _ _ _ us ws h1 h2 => match us, ws, h1, h2 with | [_, _, _], [], _, _ => ⟨rfl, rfl⟩))) (dss_one (ds_ret (de_fn h_less_votes (hr.mono (by decide)) hgd (da_cons (de_var 0) (da_cons (de_var 1) (da_cons (de_var 2) (da_cons (de_var 3) da_nil)))) (fun _ _ _ _ _ _ us ws h1 h2 => match us, ws, h1, h2 with | [_, _, _, _], [], _, _ => ⟨rfl, rfl⟩)))))),
    pf_fewest_less⟩
theorem sc_fewest_moved : FnScope ["race", "number", "further", "seats", "word"] ["race", "number", "further", "seats", "word"] (defScope S_fewest_moved) := ⟨rfl, rfl, rfl, by decide +kernel, rfl, by decide +kernel, by decide +kernel⟩
theorem has_fewest_moved (B : Bt mg) (h_want_list : Has P w K mg base 7 "want_list" S_want_list ["race", "number"] sp_want_list) (h_is_within : Has P w K mg base 2 "is_within" S_is_within ["value", "least", "most"] sp_is_within) (h_want_goal : Has P w K mg base 3 "want_goal" S_want_goal ["race", "seats", "word"] sp_want_goal) (h_moved_votes : Has P w K mg base 8 "moved_votes" S_moved_votes ["race", "ends", "seats", "word"] sp_moved_votes) (T : Txt K mg "fewest_moved" S_fewest_moved) : Has P w K mg base 9 "fewest_moved" S_fewest_moved ["race", "number", "further", "seats", "word"] sp_fewest_moved :=
  T.has sc_fewest_moved len_fewest_moved fun f cdv A outer s H hr hgd => ⟨db_fewest_moved,
    (dss_cons (ds_expr (de_fn h_want_list (hr.mono (by decide)) hgd (da_cons (de_var 0) (da_cons (de_var 1) da_nil)) (fun _ _ _ _ _ _ us ws h1 h2 => match us, ws, h1, h2 with | [_, _], [], _, _ => ⟨rfl, rfl⟩))) (dss_cons (ds_if (PWD.pt (dw_or (dt_not (dt_val (de_fn h_is_within (hr.mono (by decide)) hgd (da_cons (de_var 2) (da_cons de_int (da_cons (de_op o_sub (de_callB c_len B.z_len bt_len (da_cons (de_ix (de_var 0) de_int) da_nil)) de_int) da_nil))) (fun _ _ _ _ _ _ us ws h1 h2 => match us, ws, h1, h2 with | [_, _, _], [], _, _ => ⟨rfl, rfl⟩)))) (dw_or1 (dt_cmp (o_eq hr.units) (de_var 2) (de_var 1))))) (dss_one ds_never) dss_nil) (dss_cons (ds_expr (de_fn h_want_goal (hr.mono (by decide)) hgd (da_cons (de_var 0) (da_cons (de_var 3) (da_cons (de_var 4) da_nil))) (fun _ _ _ _ _ _ us ws h1 h2 => match us, ws, h1, h2 with | [_, _, _], [], _, _ => ⟨rfl, rfl⟩))) (dss_one (ds_ret (de_fn h_moved_votes (hr.mono (by decide)) hgd (da_cons (de_var 0) (da_cons (de_tup (da_cons (de_var 1) (da_cons (de_var 2) da_nil))) (da_cons (de_var 3) (da_cons (de_var 4) da_nil)))) (fun _ _ _ _ _ _ us ws h1 h2 => match us, ws, h1, h2 with | [_, _, _, _], [], _, _ => ⟨rfl, rfl⟩))))))),
    pf_fewest_moved⟩
theorem sc_law_right : FnScope ["pot", "rule", "lists", "house", "votes", "at", "race", "number", "seats", "word", "shown", "due", "by", "further", "rows", "told"] ["pot"] (defScope S_law_right) := ⟨rfl, rfl, rfl, by decide +kernel, rfl, by decide +kernel, by decide +kernel⟩
theorem has_law_right (B : Bt mg) (h_law_draw : Has P w K mg base 1 "_law_draw" S_law_draw ["pot", "many"] sp_law_draw) (h_law_rule : Has P w K mg base 3 "_law_rule" S_law_rule ["pot"] sp_law_rule) (h_law_pick : Has P w K mg base 2 "_law_pick" S_law_pick ["pot", "some"] sp_law_pick) (h_law_with : Has P w K mg base 1 "_law_with" S_law_with ["votes", "number", "by"] sp_law_with) (h_law_first : Has P w K mg base 5 "_law_first" S_law_first ["rule", "rows", "house", "number", "told"] sp_law_first) (h_fewest_more : Has P w K mg base 9 "fewest_more" S_fewest_more ["race", "number", "seats", "word"] sp_fewest_more) (h_fewest_less : Has P w K mg base 9 "fewest_less" S_fewest_less ["race", "number", "seats", "word"] sp_fewest_less) (h_fewest_moved : Has P w K mg base 9 "fewest_moved" S_fewest_moved ["race", "number", "further", "seats", "word"] sp_fewest_moved) (T : Txt K mg "_law_right" S_law_right) : Has P w K mg base 10 "_law_right" S_law_right ["pot"] sp_law_right :=
  T.has sc_law_right len_law_right fun f cdv A outer s H hr hgd => ⟨db_law_right,
    (dss_cons (ds_par3 1 2 3 sc_law_right.nd (da_cons (de_fn h_law_rule (hr.mono (by decide)) hgd (da_cons (de_var 0) da_nil) (fun _ _ _ _ _ _ us ws h1 h2 => match us, ws, h1, h2 with | [_], [], _, _ => ⟨rfl, rfl⟩)) (da_cons (de_op o_plus de_int (de_fn h_law_draw (hr.mono (by decide)) hgd (da_cons (de_var 0) (da_cons de_int da_nil)) (fun _ _ _ _ _ _ us ws h1 h2 => match us, ws, h1, h2 with | [_, _], [], _, _ => ⟨rfl, rfl⟩))) (da_cons (de_fn h_law_draw (hr.mono (by decide)) hgd (da_cons (de_var 0) (da_cons de_int da_nil)) (fun _ _ _ _ _ _ us ws h1 h2 => match us, ws, h1, h2 with | [_, _], [], _, _ => ⟨rfl, rfl⟩)) da_nil)))) (dss_cons (ds_asg (de_ofTy s_tup B.z_tuple bt_tuple (dl_lc [("at", 5)] sc_law_right.nd (di_r1 B.z_range (da_cons (de_var 2) da_nil)) (own_name 5 fun _ _ _ _ _ => pg_name sc_law_right.nd rfl (by first | exact Or.inl rfl | exact Or.inr rfl | exact Or.inr (Or.inl rfl))) (fun _ _ _ _ _ => dts_nil) (fun _ _ _ _ _ => (de_fn h_law_pick (hr.mono (by decide)) hgd (da_cons (de_var 0) (da_cons (de_new (dl_lst (da_cons de_int (da_cons (de_fn h_law_draw (hr.mono (by decide)) hgd (da_cons (de_var 0) (da_cons de_int da_nil)) (fun _ _ _ _ _ _ us ws h1 h2 => match us, ws, h1, h2 with | [_, _], [], _, _ => ⟨rfl, rfl⟩)) (da_cons (de_fn h_law_draw (hr.mono (by decide)) hgd (da_cons (de_var 0) (da_cons de_int da_nil)) (fun _ _ _ _ _ _ us ws h1 h2 => match us, ws, h1, h2 with | [_, _], [], _, _ => ⟨rfl, rfl⟩)) da_nil))))) da_nil)) (fun _ _ _ _ _ _ us ws h1 h2 => match us, ws, h1, h2 with | [_, _], [], _, _ => ⟨rfl, rfl⟩))))) (dg_name 4 sc_law_right.nd)) (dss_cons (ds_asg (de_tup (da_cons (de_tup (da_cons de_str (da_cons (de_var 1) (da_cons (de_var 4) (da_cons (de_var 3) da_nil))))) (da_cons (de_fn h_law_draw (hr.mono (by decide)) hgd (da_cons (de_var 0) (da_cons (de_var 2) da_nil)) (fun _ _ _ _ _ _ us ws h1 h2 => match us, ws, h1, h2 with | [_, _], [], _, _ => ⟨rfl, rfl⟩)) da_nil))) (dg_tup (dgs_cons (dg_name 6 sc_law_right.nd) (dgs_cons (dg_name 7 sc_law_right.nd) dgs_nil)))) (dss_cons (ds_par3 8 9 10 sc_law_right.nd (da_cons (de_fn h_law_draw (hr.mono (by decide)) hgd (da_cons (de_var 0) (da_cons (de_op o_plus (de_var 3) de_int) da_nil)) (fun _ _ _ _ _ _ us ws h1 h2 => match us, ws, h1, h2 with | [_, _], [], _, _ => ⟨rfl, rfl⟩)) (da_cons (de_fn h_law_pick (hr.mono (by decide)) hgd (da_cons (de_var 0) (da_cons (de_new (dl_lst (da_cons de_str (da_cons de_str da_nil)))) da_nil)) (fun _ _ _ _ _ _ us ws h1 h2 => match us, ws, h1, h2 with | [_, _], [], _, _ => ⟨rfl, rfl⟩)) (da_cons (de_callB (c_repr2 hgd hr.units) B.z_repr bt_repr (da_cons (de_var 6) da_nil)) da_nil)))) (dss_cons (ds_asg (de_fn h_law_first (hr.mono (by decide)) hgd (da_cons (de_var 1) (da_cons (de_new (dl_lc [("by", 12)] sc_law_right.nd (di_r1 B.z_range (da_cons de_int da_nil)) (own_name 12 fun _ _ _ _ _ => pg_name sc_law_right.nd rfl (by first | exact Or.inl rfl | exact Or.inr rfl | exact Or.inr (Or.inl rfl))) (fun _ _ _ _ _ => dts_nil) (fun _ _ _ _ _ => (de_fn h_law_with (hr.mono (by decide)) hgd (da_cons (de_var 4) (da_cons (de_var 7) (da_cons (de_var 12) da_nil))) (fun _ _ _ _ _ _ us ws h1 h2 => match us, ws, h1, h2 with | [_, _, _], [], _, _ => ⟨rfl, rfl⟩))))) (da_cons (de_var 3) (da_cons (de_var 7) (da_cons (de_tup (da_cons (de_var 9) (da_cons (de_var 8) (da_cons de_bl da_nil)))) da_nil))))) (fun _ _ _ _ _ _ us ws h1 h2 => match us, ws, h1, h2 with | [_, _, _, _, _], [], _, _ => ⟨rfl, rfl⟩)) (dg_name 11 sc_law_right.nd)) (dss_cons (ds_if (PWD.pt (dw_or (dt_cmp o_is2 (de_var 11) de_non) (dw_or1 (dt_cmp (o_ne hr.units) (de_callB (c_repr2 hgd hr.units) B.z_repr bt_repr (da_cons (de_new (dl_lst (da_cons (de_fn h_fewest_more (hr.mono (by decide)) hgd (da_cons (de_var 6) (da_cons (de_var 7) (da_cons (de_var 8) (da_cons (de_var 9) da_nil)))) (fun _ _ _ _ _ _ us ws h1 h2 => match us, ws, h1, h2 with | [_, _, _, _], [], _, _ => ⟨rfl, rfl⟩)) (da_cons (de_fnK (ks := ["word", "seats", "number", "race"]) [3, 2, 1, 0] h_fewest_more (hr.mono (by decide)) hgd (dk_cons (de_var 9) (dk_cons (de_var 8) (dk_cons (de_var 7) (dk_cons (de_var 6) dk_nil)))) (fun _ _ _ _ _ _ us ws h1 h2 => match us, ws, h1, h2 with | [], [_, _, _, _], _, _ => ⟨rfl, rfl⟩)) da_nil)))) da_nil)) (de_callB (c_repr2 hgd hr.units) B.z_repr bt_repr (da_cons (de_new (dl_lst (da_cons (de_var 11) (da_cons (de_var 11) da_nil)))) da_nil)))))) (dss_one (ds_ret de_bl)) dss_nil) (dss_cons (ds_asg (de_fn h_law_first (hr.mono (by decide)) hgd (da_cons (de_var 1) (da_cons (de_new (dl_lc [("by", 12)] sc_law_right.nd (di_r1 B.z_range (da_cons (de_op o_plus (de_ix (de_var 4) (de_var 7)) de_int) da_nil)) (own_name 12 fun _ _ _ _ _ => pg_name sc_law_right.nd rfl (by first | exact Or.inl rfl | exact Or.inr rfl | exact Or.inr (Or.inl rfl))) (fun _ _ _ _ _ => dts_nil) (fun _ _ _ _ _ => (de_fn h_law_with (hr.mono (by decide)) hgd (da_cons (de_var 4) (da_cons (de_var 7) (da_cons (de_op o_sub de_int (de_var 12)) da_nil))) (fun _ _ _ _ _ _ us ws h1 h2 => match us, ws, h1, h2 with | [_, _, _], [], _, _ => ⟨rfl, rfl⟩))))) (da_cons (de_var 3) (da_cons (de_var 7) (da_cons (de_tup (da_cons (de_var 9) (da_cons (de_var 8) (da_cons de_bl da_nil)))) da_nil))))) (fun _ _ _ _ _ _ us ws h1 h2 => match us, ws, h1, h2 with | [_, _, _, _, _], [], _, _ => ⟨rfl, rfl⟩)) (dg_name 11 sc_law_right.nd)) (dss_cons (ds_if (dt_cmp (o_ne hr.units) (de_callB (c_repr2 hgd hr.units) B.z_repr bt_repr (da_cons (de_new (dl_lst (da_cons (de_fn h_fewest_less (hr.mono (by decide)) hgd (da_cons (de_var 6) (da_cons (de_var 7) (da_cons (de_var 8) (da_cons (de_var 9) da_nil)))) (fun _ _ _ _ _ _ us ws h1 h2 => match us, ws, h1, h2 with | [_, _, _, _], [], _, _ => ⟨rfl, rfl⟩)) (da_cons (de_fnK (ks := ["word", "seats", "number", "race"]) [3, 2, 1, 0] h_fewest_less (hr.mono (by decide)) hgd (dk_cons (de_var 9) (dk_cons (de_var 8) (dk_cons (de_var 7) (dk_cons (de_var 6) dk_nil)))) (fun _ _ _ _ _ _ us ws h1 h2 => match us, ws, h1, h2 with | [], [_, _, _, _], _, _ => ⟨rfl, rfl⟩)) da_nil)))) da_nil)) (de_callB (c_repr2 hgd hr.units) B.z_repr bt_repr (da_cons (de_new (dl_lst (da_cons (de_var 11) (da_cons (de_var 11) da_nil)))) da_nil))) (dss_one (ds_ret de_bl)) dss_nil) (dss_cons (ds_if (dt_cmp o_gt (de_var 2) de_int) (dss_cons (ds_asg (de_fn h_law_pick (hr.mono (by decide)) hgd (da_cons (de_var 0) (da_cons (de_new (dl_lc [("at", 5)] sc_law_right.nd (di_r1 B.z_range (da_cons (de_var 2) da_nil)) (own_name 5 fun _ _ _ _ _ => pg_name sc_law_right.nd rfl (by first | exact Or.inl rfl | exact Or.inr rfl | exact Or.inr (Or.inl rfl))) (fun _ _ _ _ _ => (dts_one (dt_cmp (o_ne hr.units) (de_var 5) (de_var 7)))) (fun _ _ _ _ _ => (de_var 5)))) da_nil)) (fun _ _ _ _ _ _ us ws h1 h2 => match us, ws, h1, h2 with | [_, _], [], _, _ => ⟨rfl, rfl⟩)) (dg_name 13 sc_law_right.nd)) (dss_cons (ds_setLc 14 [("by", 12)] sc_law_right.nd (di_r1 B.z_range (da_cons (de_op o_plus (de_ix (de_var 4) (de_var 13)) de_int) da_nil)) (own_name 12 fun _ _ _ _ _ => pg_name sc_law_right.nd rfl (by first | exact Or.inl rfl | exact Or.inr rfl | exact Or.inr (Or.inl rfl))) (fun _ _ _ _ _ => dts_nil) (fun _ _ _ _ _ => (de_fn h_law_with (hr.mono (by decide)) hgd (da_cons (de_fn h_law_with (hr.mono (by decide)) hgd (da_cons (de_var 4) (da_cons (de_var 7) (da_cons (de_var 12) da_nil))) (fun _ _ _ _ _ _ us ws h1 h2 => match us, ws, h1, h2 with | [_, _, _], [], _, _ => ⟨rfl, rfl⟩)) (da_cons (de_var 13) (da_cons (de_op o_sub de_int (de_var 12)) da_nil))) (fun _ _ _ _ _ _ us ws h1 h2 => match us, ws, h1, h2 with | [_, _, _], [], _, _ => ⟨rfl, rfl⟩)))) (dss_cons (ds_asg (de_fn h_law_first (hr.mono (by decide)) hgd (da_cons (de_var 1) (da_cons (de_var 14) (da_cons (de_var 3) (da_cons (de_var 7) (da_cons (de_tup (da_cons (de_var 9) (da_cons (de_var 8) (da_cons de_bl da_nil)))) da_nil))))) (fun _ _ _ _ _ _ us ws h1 h2 => match us, ws, h1, h2 with | [_, _, _, _, _], [], _, _ => ⟨rfl, rfl⟩)) (dg_name 11 sc_law_right.nd)) (dss_cons (ds_asg (de_new (dl_lst (da_cons (de_fn h_fewest_moved (hr.mono (by decide)) hgd (da_cons (de_var 6) (da_cons (de_var 7) (da_cons (de_var 13) (da_cons (de_var 8) (da_cons (de_var 9) da_nil))))) (fun _ _ _ _ _ _ us ws h1 h2 => match us, ws, h1, h2 with | [_, _, _, _, _], [], _, _ => ⟨rfl, rfl⟩)) (da_cons (de_fnK (ks := ["word", "seats", "further", "number", "race"]) [4, 3, 2, 1, 0] h_fewest_moved (hr.mono (by decide)) hgd (dk_cons (de_var 9) (dk_cons (de_var 8) (dk_cons (de_var 13) (dk_cons (de_var 7) (dk_cons (de_var 6) dk_nil))))) (fun _ _ _ _ _ _ us ws h1 h2 => match us, ws, h1, h2 with | [], [_, _, _, _, _], _, _ => ⟨rfl, rfl⟩)) da_nil)))) (dg_name 15 sc_law_right.nd)) (dss_one (ds_if (dt_cmp (o_ne hr.units) (de_callB (c_repr2 hgd hr.units) B.z_repr bt_repr (da_cons (de_var 15) da_nil)) (de_callB (c_repr2 hgd hr.units) B.z_repr bt_repr (da_cons (de_new (dl_lst (da_cons (de_var 11) (da_cons (de_var 11) da_nil)))) da_nil))) (dss_one (ds_ret de_bl)) dss_nil)))))) dss_nil) (dss_one (ds_ret (de_cmp (o_eq hr.units) (de_callB (c_repr2 hgd hr.units) B.z_repr bt_repr (da_cons (de_var 6) da_nil)) (de_var 10))))))))))))),
    pf_law_right⟩
theorem sc_law : FnScope ["script", "k"] ["script"] (defScope S_law) := ⟨rfl, rfl, rfl, by decide +kernel, rfl, by decide +kernel, by decide +kernel⟩
theorem has_law (B : Bt mg) (h_law_pot : Has P w K mg base 1 "_law_pot" S_law_pot ["script", "k"] sp_law_pot) (h_law_right : Has P w K mg base 10 "_law_right" S_law_right ["pot"] sp_law_right) (T : Txt K mg "law" S_law) : Has P w K mg base 11 "law" S_law ["script"] sp_law :=
  T.has sc_law len_law fun f cdv A outer s H hr hgd => ⟨db_law,
    (dss_one (ds_ret (de_ofB (s_all rfl) B.z_all bt_all (dl_lc [("k", 1)] sc_law.nd (di_r1 B.z_range (da_cons de_int da_nil)) (own_name 1 fun _ _ _ _ _ => pg_name sc_law.nd rfl (by first | exact Or.inl rfl | exact Or.inr rfl | exact Or.inr (Or.inl rfl))) (fun _ _ _ _ _ => dts_nil) (fun _ _ _ _ _ => (de_fn h_law_right (hr.mono (by decide)) hgd (da_cons (de_fn h_law_pot (hr.mono (by decide)) hgd (da_cons (de_var 0) (da_cons (de_var 1) da_nil)) (fun _ _ _ _ _ _ us ws h1 h2 => match us, ws, h1, h2 with | [_, _], [], _, _ => ⟨rfl, rfl⟩)) da_nil) (fun _ _ _ _ _ _ us ws h1 h2 => match us, ws, h1, h2 with | [_], [], _, _ => ⟨rfl, rfl⟩))))))),
    pf_law⟩
end
theorem law_has {P : Program} {w : World} {K : PySem.W.Frag} {h : Heap} {mg : Str → Option Value} (X : K.In h) (G : h.Ns mainGlobals mg) (c : He.SaysD fa fn K) (base : Heap) : Has P w K mg base 11 "law" S_law ["script"] sp_law := by
  have B : Bt mg := ⟨He.free_ok X G (c.fact 44 (f := .free "abs") rfl), He.free_ok X G (c.fact 45 (f := .free "all") rfl), He.free_ok X G (c.fact 46 (f := .free "any") rfl), He.free_ok X G (c.fact 47 (f := .free "bool") rfl), He.free_ok X G (c.fact 48 (f := .free "divmod") rfl), He.free_ok X G (c.fact 49 (f := .free "enumerate") rfl), He.free_ok X G (c.fact 50 (f := .free "int") rfl), He.free_ok X G (c.fact 51 (f := .free "isinstance") rfl), He.free_ok X G (c.fact 52 (f := .free "len") rfl), He.free_ok X G (c.fact 53 (f := .free "list") rfl), He.free_ok X G (c.fact 54 (f := .free "max") rfl), He.free_ok X G (c.fact 55 (f := .free "min") rfl), He.free_ok X G (c.fact 56 (f := .free "range") rfl), He.free_ok X G (c.fact 57 (f := .free "repr") rfl), He.free_ok X G (c.fact 58 (f := .free "str") rfl), He.free_ok X G (c.fact 59 (f := .free "sum") rfl), He.free_ok X G (c.fact 60 (f := .free "tuple") rfl), He.free_ok X G (c.fact 61 (f := .free "zip") rfl)⟩
  have C : Ct K mg := ⟨gc_str X G c 62 rfl, gc_int X G c 63 rfl, gc_int X G c 64 rfl, gc_int X G c 65 rfl, gc_int X G c 66 rfl, gc_int X G c 67 rfl, gc_str X G c 68 rfl, gc_str X G c 69 rfl, gc_str X G c 70 rfl⟩
  have h_is_integer := has_is_integer (P := P) (w := w) (K := K) (mg := mg) (base := base) B (txt_of X G c 0 0 rfl rfl)
  have h_is_tuple := has_is_tuple (P := P) (w := w) (K := K) (mg := mg) (base := base) B (txt_of X G c 1 1 rfl rfl)
  have h_common := has_common (P := P) (w := w) (K := K) (mg := mg) (base := base) B (txt_of X G c 2 2 rfl rfl)
  have h_is_less := has_is_less (P := P) (w := w) (K := K) (mg := mg) (base := base) (txt_of X G c 3 3 rfl rfl)
  have h_is_at_most := has_is_at_most (P := P) (w := w) (K := K) (mg := mg) (base := base) (txt_of X G c 4 4 rfl rfl)
  have h_with_votes := has_with_votes (P := P) (w := w) (K := K) (mg := mg) (base := base) (txt_of X G c 5 5 rfl rfl)
  have h_law_pot := has_law_pot (P := P) (w := w) (K := K) (mg := mg) (base := base) B (txt_of X G c 6 6 rfl rfl)
  have h_law_draw := has_law_draw (P := P) (w := w) (K := K) (mg := mg) (base := base) B (txt_of X G c 7 7 rfl rfl)
  have h_law_post := has_law_post (P := P) (w := w) (K := K) (mg := mg) (base := base) B (txt_of X G c 8 8 rfl rfl)
  have h_law_tuples := has_law_tuples (P := P) (w := w) (K := K) (mg := mg) (base := base) B (txt_of X G c 9 9 rfl rfl)
  have h_law_with := has_law_with (P := P) (w := w) (K := K) (mg := mg) (base := base) (txt_of X G c 10 10 rfl rfl)
  have h_is_within := has_is_within (P := P) (w := w) (K := K) (mg := mg) (base := base) h_is_integer (txt_of X G c 11 11 rfl rfl)
  have h_lowest := has_lowest (P := P) (w := w) (K := K) (mg := mg) (base := base) B h_common (txt_of X G c 12 12 rfl rfl)
  have h_is_fraction_any := has_is_fraction_any (P := P) (w := w) (K := K) (mg := mg) (base := base) B h_is_tuple h_is_integer h_common (txt_of X G c 13 13 rfl rfl)
  have h_with_moved := has_with_moved (P := P) (w := w) (K := K) (mg := mg) (base := base) h_with_votes (txt_of X G c 14 14 rfl rfl)
  have h_law_pick := has_law_pick (P := P) (w := w) (K := K) (mg := mg) (base := base) B h_law_draw (txt_of X G c 15 15 rfl rfl)
  have h_law_is_by := has_law_is_by (P := P) (w := w) (K := K) (mg := mg) (base := base) B h_law_post (txt_of X G c 16 16 rfl rfl)
  have h_is_small := has_is_small (P := P) (w := w) (K := K) (mg := mg) (base := base) C h_is_fraction_any (txt_of X G c 17 17 rfl rfl)
  have h_signpost := has_signpost (P := P) (w := w) (K := K) (mg := mg) (base := base) B h_lowest (txt_of X G c 18 18 rfl rfl)
  have h_is_row_of_votes := has_is_row_of_votes (P := P) (w := w) (K := K) (mg := mg) (base := base) B C h_is_within (txt_of X G c 19 19 rfl rfl)
  have h_want_goal := has_want_goal (P := P) (w := w) (K := K) (mg := mg) (base := base) B C h_is_within (txt_of X G c 20 20 rfl rfl)
  have h_law_rule := has_law_rule (P := P) (w := w) (K := K) (mg := mg) (base := base) h_law_pick (txt_of X G c 21 21 rfl rfl)
  have h_law_deals := has_law_deals (P := P) (w := w) (K := K) (mg := mg) (base := base) B h_law_tuples h_law_is_by (txt_of X G c 22 22 rfl rfl)
  have h_is_rule_any := has_is_rule_any (P := P) (w := w) (K := K) (mg := mg) (base := base) B C h_is_tuple h_is_small h_is_within h_common h_signpost h_is_less h_is_at_most (txt_of X G c 23 23 rfl rfl)
  have h_price_at := has_price_at (P := P) (w := w) (K := K) (mg := mg) (base := base) h_signpost h_lowest (txt_of X G c 24 24 rfl rfl)
  have h_law_does_hold := has_law_does_hold (P := P) (w := w) (K := K) (mg := mg) (base := base) B h_law_deals (txt_of X G c 25 25 rfl rfl)
  have h_is_race_any := has_is_race_any (P := P) (w := w) (K := K) (mg := mg) (base := base) B C h_is_tuple h_is_rule_any h_is_row_of_votes h_is_within (txt_of X G c 26 26 rfl rfl)
  have h_deal_with := has_deal_with (P := P) (w := w) (K := K) (mg := mg) (base := base) B h_price_at h_is_less (txt_of X G c 27 27 rfl rfl)
  have h_law_first := has_law_first (P := P) (w := w) (K := K) (mg := mg) (base := base) B h_law_does_hold (txt_of X G c 28 28 rfl rfl)
  have h_want_race := has_want_race (P := P) (w := w) (K := K) (mg := mg) (base := base) h_is_race_any (txt_of X G c 29 29 rfl rfl)
  have h_other_price := has_other_price (P := P) (w := w) (K := K) (mg := mg) (base := base) B h_deal_with h_price_at (txt_of X G c 30 30 rfl rfl)
  have h_ends_of := has_ends_of (P := P) (w := w) (K := K) (mg := mg) (base := base) B h_deal_with (txt_of X G c 31 31 rfl rfl)
  have h_want_list := has_want_list (P := P) (w := w) (K := K) (mg := mg) (base := base) B h_want_race h_is_within (txt_of X G c 32 32 rfl rfl)
  have h_least_votes_for := has_least_votes_for (P := P) (w := w) (K := K) (mg := mg) (base := base) B C h_signpost h_other_price (txt_of X G c 33 33 rfl rfl)
  have h_most_votes_for := has_most_votes_for (P := P) (w := w) (K := K) (mg := mg) (base := base) C h_signpost h_other_price (txt_of X G c 34 34 rfl rfl)
  have h_does_hold := has_does_hold (P := P) (w := w) (K := K) (mg := mg) (base := base) C h_ends_of (txt_of X G c 35 35 rfl rfl)
  have h_more_votes := has_more_votes (P := P) (w := w) (K := K) (mg := mg) (base := base) B C h_least_votes_for (txt_of X G c 36 36 rfl rfl)
  have h_less_votes := has_less_votes (P := P) (w := w) (K := K) (mg := mg) (base := base) B h_most_votes_for (txt_of X G c 37 37 rfl rfl)
  have h_moved_votes := has_moved_votes (P := P) (w := w) (K := K) (mg := mg) (base := base) B C h_with_moved h_does_hold (txt_of X G c 38 38 rfl rfl)
  have h_fewest_more := has_fewest_more (P := P) (w := w) (K := K) (mg := mg) (base := base) h_want_list h_want_goal h_more_votes (txt_of X G c 39 39 rfl rfl)
  have h_fewest_less := has_fewest_less (P := P) (w := w) (K := K) (mg := mg) (base := base) h_want_list h_want_goal h_less_votes (txt_of X G c 40 40 rfl rfl)
  have h_fewest_moved := has_fewest_moved (P := P) (w := w) (K := K) (mg := mg) (base := base) B h_want_list h_is_within h_want_goal h_moved_votes (txt_of X G c 41 41 rfl rfl)
  have h_law_right := has_law_right (P := P) (w := w) (K := K) (mg := mg) (base := base) B h_law_draw h_law_rule h_law_pick h_law_with h_law_first h_fewest_more h_fewest_less h_fewest_moved (txt_of X G c 42 42 rfl rfl)
  have h_law := has_law (P := P) (w := w) (K := K) (mg := mg) (base := base) B h_law_pot h_law_right (txt_of X G c 43 43 rfl rfl)
  exact h_law
end K40
open PySem PySem.W PySem.Calls PyProof.Rows
set_option maxHeartbeats 0 in
theorem PySem.Challenge.cw_seatworks_k40_whole_fewest_votes_holds : PySem.Challenge.rw_seatworks_k40_whole_fewest_votes.Holds := by
  w_on; o_law
  refine HandSHeadRun.head_any (r := K40.topR) (q := view K40.topR.prog [73]) (H := K40.topK) (ob := K40.topB) (M := 6000) (loose := K40.names) (d := HandSHeadRun.topDef K40.topR.prog 73) (kwd := []) K40.topB_eq
    (by kernel_rfl) (fun s => by kernel_rfl) K40.topRun (by kernel_rfl) (by kernel_rfl) (by kernel_rfl) (by rfl) (by first | assumption | decide +kernel) (by decide +kernel) ⟨rfl, rfl, rfl, rfl, rfl, by decide +kernel⟩ ?hw ?hc
  case hw => w_witness2
  case hc =>
    refine Dl.walk_ofD (l := PySem.Challenge.rw_seatworks_k40_whole_fewest_votes) (n := 63) (k := 11) (x := "script") (st := K40.S_law) (sp := K40.sp_law) rfl (by decide) (by kernel_rfl) ⟨rfl, by decide, by decide⟩ ?F ?bd (fun ns Q hl hQ => ⟨ns, rfl, hl, hQ _⟩)
    case F =>
      intro w mg h Y G
      obtain ⟨K, X, c⟩ := Y
      exact ⟨K, X, fun base => K40.law_has X G c base⟩
    case bd =>
      intro kV doc pm an cdv ct u
      rfl
